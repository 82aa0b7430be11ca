/- The law FitPairs, of the code. -/
import Derived.Test.YtdaanchagjamfaaNpzi
import Derived.Test.YtdaanchagjamfaaNpzj
namespace Go.SX
open Go Go.RowKit Go.Proofs.Ytdaanchagjamfaa
theorem never_ok {P : Program} {f : FuncId} (hgo : goFn P f = true) (U : UC) : FSound P f (uFCg (fun _ => false) U) := by
  refine ⟨hgo, fun args nid all r w lk blks eff hH _ hv he hp => ?_⟩
  simp only [uFCg, forceL_eq, forceH_eq, forceVs_eq (forceV_eq 6)] at hv he
  unfold uEff' at he
  split at he <;> (try (cases he; done))
  simp only [Option.some.injEq] at he; subst he
  cases hp
theorem tail_den {Q : AV → List (Nat × Blk) → Prop} {N1 N2 S2 S1 E0 A T1 B T2 E1 : Bool} (h1 : N1 = true) (h2 : N2 = true) (h3 : S2 = true) (h4 : S1 = true) (h5 : E0 = true) (h6 : A = true) (h7 : T1 = true) (h8 : B = true) (h9 : T2 = true) (h10 : E1 = true) (hQ : (Tree.leaf (.bool false true) []).den Q) :
    (Tree.need N1 (Tree.need (!S2 || N2 && (S2 && S2)) (Tree.need (!S2 || S2) (Tree.bnd (S2 && S1) (fun x6 => Tree.need (!x6 || x6 && x6) (Tree.need (!x6 || x6) (Tree.bnd (x6 && E0) (fun x7 => Tree.need (!x7 || A && (x7 && x7)) (Tree.need (!x7 || x7) (Tree.bnd (x7 && T1) (fun x8 => Tree.need (!x8 || B && (x8 && x8)) (Tree.need (!x8 || x8) (Tree.bnd (x8 && T2) (fun x9 => Tree.need (!x9 || x9 && x9) (Tree.need (!x9 || x9) (Tree.bnd (x9 && E1) (fun x10 => Tree.need (!x10 || x10) (Tree.bnd (x10 || false) (fun x11 => Tree.leaf (AV.bool false x11) []))))))))))))))))))).den Q := by
  subst h1 h2 h3 h4 h5 h6 h7 h8 h9 h10
  repeat (first | refine den_need rfl ?_ | (refine den_bnd fun x hx => ?_; subst hx))
  exact hQ
/-- A law, run from what came in, its table hung on that. -/
theorem law_Wx {E : Env} (hE : E.Sound) {f : FuncId} {fn : Func} {c : Code} (hf : E.P.funcs[f]? = some fn) (hb : fn.body = some c) {α : Type} [ArgsE α] {N : Nat} {H : Hnd} {F : WF α} (x : α)
    (hl : ∀ G : Ctx, G.rd = none → G.n = N → HndOk E G H c) (hw : WOk (F x).2.1 (F x).2.2) (hF : DenOk (EndOk N (F x).2.1 (F x).2.2) (execW E H fn (ArgsE.vals 0 x) (ArgsE.blks 0 x) N)) (hx : (F x).1 = true) {r : Nat → Go.SX.Loc} {w : World} {u : Value} (hv : viewOk N (ArgsE.vals 0 x) (ArgsE.blks 0 x) = true) (hr : ∀ q ∈ ArgsE.blks 0 x, BRep r q.1 w q.2) (hu : ∀ r', ((F x).2.1.mapId (· + N)).den r' = u) :
    Calls E.P f (AV.denL r (ArgsE.vals 0 x)).toArray w fun e w' => e = .returned u ∧ Fr w w' (fun _ => False) := by
  refine law_W (H := fun _ => H) hE hf hb (F := onlyAt F x) ⟨fun y _ G h1 h2 => hl G h1 h2⟩ ⟨fun y hy => ?_⟩ x ?_ hv hr hu
  · obtain ⟨rfl, _⟩ := onlyAt_eq hy
    exact ⟨hw, hF⟩
  · show (propB [x = x] && (F x).1) = true
    rw [hx, propB_ok.2 (show allE [x = x] from ⟨rfl, trivial⟩)]; rfl
end Go.SX
namespace Go.Proofs.Ytdaanchagjamfaa
open Go.SX
theorem pairK_mem {skip : Nat → Bool} {rec : Nat → List (Rw Int)} {x : Rw Int} : ∀ c k, x ∈ pairK skip rec c k → ∃ j, x ∈ rec j
  | 0, _, h => by cases h
  | c + 1, k, h => by
    simp only [pairK] at h
    split at h
    · exact pairK_mem c (k + 1) h
    · rcases List.mem_append.1 h with h | h
      · exact ⟨k, h⟩
      · exact pairK_mem c (k + 1) h
theorem pairL_n (p : Play) (tabs holes : Rw Edge) : ∀ d w, ∀ x ∈ pairL p tabs holes d w, x.n = w.n + d
  | 0, w, x, h => by simp only [pairL, List.mem_singleton] at h; subst h; rfl
  | d + 1, w, x, h => by
    obtain ⟨j, hj⟩ := pairK_mem _ _ h
    have := pairL_n p tabs holes d _ x hj
    have e : (snocW w j).n = w.n + 1 := rfl
    omega
theorem matL_len (p : Play) (s : Edge) (least : Int) (l : Rw Edge) : (matL p s least l).length ≤ l.n := by
  unfold matL
  split
  · exact picks_len _ _
  · exact Nat.zero_le _
theorem sameI_self (a : Rw Int) : sameI a a = true := sameI_of rfl fun _ _ => rfl
/-- What the law's table is: the pairings are there where all is good. -/
theorem lw_tab (p : Play) (tabs holes : Rw Edge) : ∃ (pb : List Prop → Bool) (L : List (Rw Int)), TabOk (tab_lw pb (prU p tabs holes nilW [] L)) ∧ (GoodP p tabs holes → (∀ ps, allE ps → pb ps = true) ∧ pairsV p tabs holes = resL L ∧ ∀ i, (getR L i).n ≤ 1000) := by
  by_cases hg : GoodP p tabs holes
  · have hP : PreR p tabs holes := ⟨hg.ok, hg.okT, hg.okH, hg.t8, hg.h8⟩
    have h9 : (9 : Nat) ^ tabs.n ≤ 9 ^ 8 := Nat.pow_le_pow_right (by decide) hg.t8
    have h9' : (9 : Nat) ^ 8 = 43046721 := by decide
    have hS := prr_s hP tabs.n nilW [] (Nat.zero_add _) (by show 0 + 9 ^ tabs.n ≤ 1000000000; omega)
    refine ⟨propB, pairL p tabs holes tabs.n nilW, tab_mt_ok.add (roFC_ok hS), fun _ => ⟨fun ps h => propB_ok.2 h, ?_, fun i => ?_⟩⟩
    · rw [pairs_good hg, pairsR_eq]
    · unfold getR
      rw [List.getD_eq_getElem?_getD]
      cases h : (pairL p tabs holes tabs.n nilW)[i]? with
      | none => exact Nat.zero_le _
      | some x =>
        have := pairL_n p tabs holes tabs.n nilW x (List.mem_of_getElem? h)
        have e : nilW.n = 0 := rfl
        have := hg.t8
        show x.n ≤ 1000
        omega
  · exact ⟨fun _ => false, [], tab_mt_ok.add (roFC_ok (never_ok (by kernel_rfl) _)), fun h => absurd h hg⟩
def lawF : WF (Play × Edge × Rw Edge × Rw Edge × Rw Edge × Unit) := fun _ => (true, .bool false true, [])
set_option maxRecDepth 100000 in
theorem lw_den (pb : List Prop → Bool) (p : Play) (s : Edge) (l tabs holes : Rw Edge) (L : List (Rw Int)) (hg : GoodP p tabs holes → (∀ ps, allE ps → pb ps = true) ∧ pairsV p tabs holes = resL L ∧ ∀ i, (getR L i).n ≤ 1000) :
    DenOk (EndOk 8 (lawF (p, s, l, tabs, holes, ())).2.1 (lawF (p, s, l, tabs, holes, ())).2.2) (execW (mkS Try.prog (tab_lw pb (prU p tabs holes nilW [] L))) (lwH (mkS Try.prog (tab_lw pb (prU p tabs holes nilW [] L))) p s l tabs holes) Try.f5 (ArgsE.vals 0 ((p, s, l, tabs, holes, ()) : Play × Edge × Rw Edge × Rw Edge × Rw Edge × Unit)) (ArgsE.blks 0 ((p, s, l, tabs, holes, ()) : Play × Edge × Rw Edge × Rw Edge × Rw Edge × Unit)) 8) := by
  refine denOk_of' (lw_t pb p s l tabs holes L) ?_
  have yes : ∀ k, (Tree.leaf (AV.bool k true) []).den (EndOk 8 (lawF (p, s, l, tabs, holes, ())).2.1 (lawF (p, s, l, tabs, holes, ())).2.2) := fun k => endOk_same rfl rfl
  have nd : ∀ b : Bool, (!b || b) = true := fun b => by cases b <;> rfl
  have nd2 : ∀ b : Bool, (!!b || !b) = true := fun b => by cases b <;> rfl
  have nd3 : ∀ b : Bool, (b || !b) = true := fun b => by cases b <;> rfl
  refine den_need (nd _) (den_need (nd _) (den_bnd fun x0 e0 => den_need (nd2 _) (den_need (nd3 _) (den_bnd fun x1 e1 => den_br (fun _ => yes _) (fun f1 => ?_)))))
  refine den_need (nd _) (den_need (nd _) (den_bnd fun x2 e2 => den_need (nd2 _) (den_need (nd3 _) (den_bnd fun x3 e3 => den_br (fun _ => yes _) (fun f3 => den_br (fun _ => yes _) (fun f4 => ?_))))))
  have ht : tabs.n ≤ 12 := by
    rw [f1] at e1
    have := (Bool.or_eq_false_iff.1 e1.symm).2
    have := of_decide_eq_false this; omega
  have hh : holes.n ≤ 12 := by
    rw [f3] at e3
    have := (Bool.or_eq_false_iff.1 e3.symm).2
    have := of_decide_eq_false this; omega
  have hl : l.n ≤ 50 := by have := of_decide_eq_false f4; omega
  have hl2 := matL_len p s 2 l
  have hl1 := matL_len p s 1 l
  have s2 := sameI_self (Rw.mk (matL p s 2 l).length fun i => (matL p s 2 l).getD i (0 : Int))
  have s1 := sameI_self (Rw.mk (matL p s 1 l).length fun i => (matL p s 1 l).getD i (0 : Int))
  have n2 : (decide ((matL p s 2 l).length ≤ (matL p s 2 l).length) && (decide ((matL p s 2 l).length ≤ (matL p s 2 l).length) && true) && decide ((matL p s 2 l).length ≤ (1000 : Nat) ∧ (matL p s 2 l).length ≤ (1000 : Nat))) = true := by simp; omega
  have n1 : (decide ((matL p s 1 l).length ≤ (matL p s 1 l).length) && (decide ((matL p s 1 l).length ≤ (matL p s 1 l).length) && true) && decide ((matL p s 1 l).length ≤ (1000 : Nat) ∧ (matL p s 1 l).length ≤ (1000 : Nat))) = true := by simp; omega
  have m0 : (matE p s l == matE p s l) = true := by simp
  have nz : ∀ {v : Rw Int}, v = nilW → (decide (v.n ≤ v.n) && (true && true) && decide (v.n ≤ (1000 : Nat) ∧ (0 : Nat) ≤ (1000 : Nat))) = true ∧ sameI v (Rw.mk 0 fun _ => (0 : Int)) = true := fun h => by subst h; exact ⟨rfl, rfl⟩
  have err : ∀ {e e' : Int}, pairsV p tabs holes = (nilW, nilW, e) → e = e' → (pairsV p tabs holes).1 = nilW ∧ (pairsV p tabs holes).2.1 = nilW ∧ ((pairsV p tabs holes).2.2 == e') = true := fun h he => by rw [h]; exact ⟨rfl, rfl, by simpa using he⟩
  refine den_need (by simp; omega) (den_need (by simp; omega) (den_need (by simp; omega) (den_need rfl (den_need (by cases p.ok <;> simp; omega) (den_need (by cases p.ok <;> rfl) (den_need (by cases p.ok <;> rfl) (den_bnd fun x4 e4 => den_need (by cases x4 <;> simp; omega) (den_need (nd2 _) (den_need (nd3 _) (den_bnd fun x5 e5 => den_br (fun h => ?_) (fun h => ?_)))))))))))
  · obtain ⟨a1, a2, a3⟩ := err (e := 1) (e' := 1) (by
      subst e4; subst e5
      simp only [pairsV]
      cases q1 : p.ok <;> simp only [q1, Bool.not_false, Bool.not_true, cond_true, cond_false, Bool.true_or, Bool.false_or] at h ⊢
      cases q2 : allN (fun i => (tabs.get i).ok) tabs.n <;> simp only [q2, Bool.not_false, Bool.not_true, cond_true, cond_false, Bool.true_or, Bool.false_or] at h ⊢
      rw [h]; rfl) rfl
    exact tail_den n2 n1 s2 s1 m0 (nz a1).1 (nz a1).2 (nz a2).1 (nz a2).2 a3 (yes _)
  have ok4 : p.ok = true ∧ allN (fun i => (tabs.get i).ok) tabs.n = true ∧ allN (fun i => (holes.get i).ok) holes.n = true := by
    subst e4; subst e5
    simp only [Bool.or_eq_false_iff, Bool.not_eq_false'] at h
    exact ⟨h.1.1, h.1.2, h.2⟩
  obtain ⟨o1, o2, o3⟩ := ok4
  refine den_need (nd2 _) (den_need (nd2 _) (den_need (nd3 _) (den_bnd fun x12 e12 => den_br (fun h => ?_) (fun h => ?_))))
  · obtain ⟨a1, a2, a3⟩ := err (e := 3) (e' := 3) (by
      subst e12
      simp only [pairsV, o1, o2, o3, Bool.not_true, cond_false]
      cases q1 : decide ((tabs.n : Int) > 8) <;> simp only [q1, cond_true, cond_false, Bool.false_or] at h ⊢
      rw [h]; rfl) rfl
    exact tail_den n2 n1 s2 s1 m0 (nz a1).1 (nz a1).2 (nz a2).1 (nz a2).2 a3 (yes _)
  have ok12 : decide ((tabs.n : Int) > 8) = false ∧ decide ((holes.n : Int) > 8) = false := by
    subst e12
    exact Bool.or_eq_false_iff.1 h
  obtain ⟨o4, o5⟩ := ok12
  refine den_ask (by omega) ?_
  repeat' first | refine den_ask (show _ = _ by with_reducible rfl) ?_ | refine den_ask (show _ ≤ _ from Nat.le_refl _) ?_ | refine den_ask (show RowsEq _ _ _ _ from RowsEq.refl _ _ _) ?_
  refine den_both (den_asm fun h => den_all fun g => ?_) (den_asm fun h6 => den_all fun g => ?_)
  · obtain ⟨a1, a2, a3⟩ := err (e := 6) (e' := 6) (by simp only [pairsV, o1, o2, o3, o4, o5, badK_eq, h, Bool.not_true, cond_false, cond_true]) rfl
    exact tail_den n2 n1 s2 s1 m0 (nz a1).1 (nz a1).2 (nz a2).1 (nz a2).2 a3 (yes _)
  refine den_ask (by omega) ?_
  repeat' first | refine den_ask (show _ = _ by with_reducible rfl) ?_ | refine den_ask (show _ ≤ _ from Nat.le_refl _) ?_ | refine den_ask (show RowsEq _ _ _ _ from RowsEq.refl _ _ _) ?_
  refine den_both (den_asm fun h => den_all fun g' => ?_) (den_asm fun h7 => den_all fun g' => ?_)
  · obtain ⟨a1, a2, a3⟩ := err (e := 6) (e' := 6) (by simp only [pairsV, o1, o2, o3, o4, o5, badK_eq, h, h6, Bool.not_true, cond_false, cond_true]) rfl
    exact tail_den n2 n1 s2 s1 m0 (nz a1).1 (nz a1).2 (nz a2).1 (nz a2).2 a3 (yes _)
  refine den_br (fun h => ?_) (fun h8 => ?_)
  · obtain ⟨a1, a2, a3⟩ := err (e := 2) (e' := 2) (by simp only [pairsV, o1, o2, o3, o4, o5, badK_eq, h, h6, h7, Bool.not_true, cond_false, cond_true]) rfl
    exact tail_den n2 n1 s2 s1 m0 (nz a1).1 (nz a1).2 (nz a2).1 (nz a2).2 a3 (yes _)
  have hG : GoodP p tabs holes := ⟨o1, o2, o3, by have := of_decide_eq_false o4; omega, by have := of_decide_eq_false o5; omega, by rw [badK_eq, h6], by rw [badK_eq, h7], by simp only [bne_eq_false_iff_eq] at h8; omega⟩
  obtain ⟨g1, g2, g3⟩ := hg hG
  refine den_need (g1 _ ?_) ?_
  · repeat' first | exact trivial | with_reducible rfl | exact Nat.le_refl _ | exact RowsEq.refl _ _ _ | refine And.intro ?_ ?_
  match L, g2, g3 with
  | [], g2, g3 =>
    refine den_br (fun _ => ?_) (fun h => by cases h)
    obtain ⟨a1, a2, a3⟩ := err (e := 4) (e' := 4) (by rw [g2]; rfl) rfl
    exact tail_den n2 n1 s2 s1 m0 (nz a1).1 (nz a1).2 (nz a2).1 (nz a2).2 a3 (yes _)
  | [a], g2, g3 =>
    refine den_br (fun h => by cases h) (fun _ => den_br (fun _ => den_need rfl (den_need rfl ?_)) (fun h => by cases h))
    have a1 : (pairsV p tabs holes).1 = a := by rw [g2]; rfl
    have a2 : (pairsV p tabs holes).2.1 = nilW := by rw [g2]; rfl
    have a3 : ((pairsV p tabs holes).2.2 == 0) = true := by rw [g2]; rfl
    have ha : a.n ≤ 1000 := g3 0
    exact tail_den n2 n1 s2 s1 m0 (by rw [a1]; show (decide (a.n ≤ a.n) && (decide (a.n ≤ a.n) && true) && decide (a.n ≤ 1000 ∧ a.n ≤ 1000)) = true; simp; omega) (by rw [a1]; exact sameI_self a) (nz a2).1 (nz a2).2 a3 (yes _)
  | a :: b :: t, g2, g3 =>
    refine den_br (fun h => ?_) (fun _ => den_br (fun h => ?_) (fun _ => den_need (by simp; omega) (den_need (by simp) (den_need (by simp; omega) (den_need (by simp) ?_)))))
    · simp at h; omega
    · simp at h; omega
    have a1 : (pairsV p tabs holes).1 = a := by rw [g2]; rfl
    have a2 : (pairsV p tabs holes).2.1 = b := by rw [g2]; rfl
    have a3 : ((pairsV p tabs holes).2.2 == 0) = true := by rw [g2]; rfl
    have ha : a.n ≤ 1000 := g3 0
    have hb : b.n ≤ 1000 := g3 1
    exact tail_den n2 n1 s2 s1 m0 (by rw [a1]; show (decide (a.n ≤ a.n) && (decide (a.n ≤ a.n) && true) && decide (a.n ≤ 1000 ∧ a.n ≤ 1000)) = true; simp; omega) (by rw [a1]; exact sameI_self a) (by rw [a2]; show (decide (b.n ≤ b.n) && (decide (b.n ≤ b.n) && true) && decide (b.n ≤ 1000 ∧ b.n ≤ 1000)) = true; simp; omega) (by rw [a2]; exact sameI_self b) a3 (yes _)
end Go.Proofs.Ytdaanchagjamfaa
