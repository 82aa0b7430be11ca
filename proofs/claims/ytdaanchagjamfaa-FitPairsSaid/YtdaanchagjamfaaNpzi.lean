/- The reference's Pairs, gone into from the law: its handler. -/
import Derived.Test.YtdaanchagjamfaaNpzh
namespace Go.SX
open Go Go.RowKit Go.Proofs.Ytdaanchagjamfaa
theorem csound_P {E E0 : Env} (hP : E.P = E0.P) {G : Ctx} {c : Code} {L : St → (Ex → St → Tree) → Tree} (h : CSound E G c L) : CSound E0 G c L := by
  unfold CSound at h ⊢
  rw [← hP]; exact h
end Go.SX
namespace Go.Proofs.Ytdaanchagjamfaa
open Go.SX
def k1R (p : Play) (s : Edge) (l tabs holes : Rw Edge) (k : Nat) (e : Ex) (J : JSt) : Prop := (e = .ret ∧ bK 1 tabs k = true ∧ J = kRet p s l tabs holes) ∨ (e = .exit 0 ∧ bK 1 tabs k = false ∧ J = kEnd p s l tabs holes)
set_option maxRecDepth 100000 in
theorem k1_round (p : Play) (s : Edge) (l tabs holes : Rw Edge) (hl : tabs.n ≤ 1000) : RoundW (kJ1 p s l tabs holes) (fun k => k ≤ tabs.n) (fun k => tabs.n - k) (k1R p s l tabs holes) 664 kLs1 [576, 577, 488, 489, 400, 401] (mkE Try.prog tab0) (fun _ => hnd (mkE Try.prog tab0) 0) (bodyK Try.f27 0) := by
  refine ⟨fun k g hk => denOk_of' (k1_r p s l tabs holes k g) ?_⟩
  refine den_br (fun h => ?_) (fun h => ?_)
  · have h : k < tabs.n := by have := of_decide_eq_true h; omega
    obtain ⟨m, hm⟩ : ∃ m, tabs.n - k = m + 1 := ⟨tabs.n - k - 1, by omega⟩
    have hm' : tabs.n - (k + 1) = m := by omega
    refine den_need (by simp; omega) (den_need (by simp; omega) (den_br (fun hb => ?_) (fun hb => ?_)))
    · have hb : kindE (FnB.mk 1) tabs k = true := hb
      have hf : bK 1 tabs k = true := by unfold bK; rw [hm, firstN, hb]; rfl
      refine ⟨_, .inl ⟨rfl, hf, rfl⟩, rfl, rfl, _, k1_b p s l tabs holes, ?_⟩
      repeat' first | exact trivial | with_reducible rfl | exact Nat.le_refl _ | exact RowsEq.refl _ _ _ | refine And.intro ?_ ?_
    · have hb : kindE (FnB.mk 1) tabs k = false := hb
      have hf : bK 1 tabs k = bK 1 tabs (k + 1) := by unfold bK; rw [hm, hm', firstN, hb]
      refine ⟨k + 1, by omega, by show tabs.n - (k + 1) < tabs.n - k; omega, fun e J h => by unfold k1R at h ⊢; rw [hf]; exact h, rfl, rfl, _, k1_g p s l tabs holes k (k + 1), ?_⟩
      have hw : IntKind.i64.wrap ((k : Int) + 1) = ((k + 1 : Nat) : Int) := (w64 (by omega) (by omega)).trans (by omega)
      repeat' first | exact trivial | with_reducible rfl | exact Nat.le_refl _ | exact RowsEq.refl _ _ _ | exact hw | refine And.intro ?_ ?_
  · have h : tabs.n ≤ k := by have := of_decide_eq_false h; omega
    have hf : bK 1 tabs k = false := by unfold bK; rw [show tabs.n - k = 0 by omega]; rfl
    refine ⟨_, .inr ⟨rfl, hf, rfl⟩, rfl, rfl, _, k1_e p s l tabs holes, ?_⟩
    repeat' first | exact trivial | with_reducible rfl | exact Nat.le_refl _ | exact RowsEq.refl _ _ _ | refine And.intro ?_ ?_
def k1X (p : Play) (s : Edge) (l tabs holes : Rw Edge) : List (Prop × Ex × JSt) := [(bK 1 tabs 0 = true, .ret, kRet p s l tabs holes), (bK 1 tabs 0 = false, .exit 0, kEnd p s l tabs holes)]
def k1L (p : Play) (s : Edge) (l tabs holes : Rw Edge) : St → (Ex → St → Tree) → Tree := askH (tabs.n ≤ 1000) (loopT 664 kIds (kJ1 p s l tabs holes (0 : Nat)) (k1X p s l tabs holes))
theorem k1L_ok {E0 : Env} (hP : E0.P = Try.prog) (p : Play) (s : Edge) (l tabs holes : Rw Edge) (G : Ctx) (hrd : G.rd = none) (hG : G.n = 664) : CSound E0 G (.loop (bodyK Try.f27 0)) (k1L p s l tabs holes) := by
  refine askH_ok fun hl => ?_
  have h0 : CSound (mkE Try.prog tab0) G (.loop (bodyK Try.f27 0)) (loopT 664 kIds (kJ1 p s l tabs holes (0 : Nat)) (k1X p s l tabs holes)) := by
    refine loopT_ok (n0 := 664) (mkE_ok tab0_ok) (by omega) (fun s hs => hnd_hndOk (mkE_ok tab0_ok) 0 G _ hrd) (fun s hs => (by decide : 664 ≤ 696)) ?_ (k1_round p s l tabs holes hl) (s0 := 0) (Nat.zero_le _) ?_
    · rintro s e J (⟨_, _, rfl⟩ | ⟨_, _, rfl⟩) <;> exact (by decide : 664 ≤ 696)
    · rintro e J (⟨rfl, h, rfl⟩ | ⟨rfl, h, rfl⟩)
      · exact ⟨_, List.mem_cons_self, h, rfl, rfl⟩
      · exact ⟨_, List.mem_cons_of_mem _ List.mem_cons_self, h, rfl, rfl⟩
  exact csound_P (E := mkE Try.prog tab0) hP.symm h0
def k2R (p : Play) (s : Edge) (l tabs holes : Rw Edge) (k : Nat) (e : Ex) (J : JSt) : Prop := (e = .ret ∧ bK 2 holes k = true ∧ J = kRet p s l tabs holes) ∨ (e = .exit 2 ∧ bK 2 holes k = false ∧ J = kEnd p s l tabs holes)
set_option maxRecDepth 100000 in
theorem k2_round (p : Play) (s : Edge) (l tabs holes : Rw Edge) (hl : holes.n ≤ 1000) : RoundW (kJ2 p s l tabs holes) (fun k => k ≤ holes.n) (fun k => holes.n - k) (k2R p s l tabs holes) 664 kLs2 [576, 577, 488, 489, 400, 401] (mkE Try.prog tab0) (fun _ => hnd (mkE Try.prog tab0) 0) (bodyK Try.f27 1) := by
  refine ⟨fun k g hk => denOk_of' (k2_r p s l tabs holes k g) ?_⟩
  refine den_br (fun h => ?_) (fun h => ?_)
  · have h : k < holes.n := by have := of_decide_eq_true h; omega
    obtain ⟨m, hm⟩ : ∃ m, holes.n - k = m + 1 := ⟨holes.n - k - 1, by omega⟩
    have hm' : holes.n - (k + 1) = m := by omega
    refine den_need (by simp; omega) (den_need (by simp; omega) (den_br (fun hb => ?_) (fun hb => ?_)))
    · have hb : kindE (FnB.mk 2) holes k = true := hb
      have hf : bK 2 holes k = true := by unfold bK; rw [hm, firstN, hb]; rfl
      refine ⟨_, .inl ⟨rfl, hf, rfl⟩, rfl, rfl, _, k2_b p s l tabs holes, ?_⟩
      repeat' first | exact trivial | with_reducible rfl | exact Nat.le_refl _ | exact RowsEq.refl _ _ _ | refine And.intro ?_ ?_
    · have hb : kindE (FnB.mk 2) holes k = false := hb
      have hf : bK 2 holes k = bK 2 holes (k + 1) := by unfold bK; rw [hm, hm', firstN, hb]
      refine ⟨k + 1, by omega, by show holes.n - (k + 1) < holes.n - k; omega, fun e J h => by unfold k2R at h ⊢; rw [hf]; exact h, rfl, rfl, _, k2_g p s l tabs holes k (k + 1), ?_⟩
      have hw : IntKind.i64.wrap ((k : Int) + 1) = ((k + 1 : Nat) : Int) := (w64 (by omega) (by omega)).trans (by omega)
      repeat' first | exact trivial | with_reducible rfl | exact Nat.le_refl _ | exact RowsEq.refl _ _ _ | exact hw | refine And.intro ?_ ?_
  · have h : holes.n ≤ k := by have := of_decide_eq_false h; omega
    have hf : bK 2 holes k = false := by unfold bK; rw [show holes.n - k = 0 by omega]; rfl
    refine ⟨_, .inr ⟨rfl, hf, rfl⟩, rfl, rfl, _, k2_e p s l tabs holes, ?_⟩
    repeat' first | exact trivial | with_reducible rfl | exact Nat.le_refl _ | exact RowsEq.refl _ _ _ | refine And.intro ?_ ?_
def k2X (p : Play) (s : Edge) (l tabs holes : Rw Edge) : List (Prop × Ex × JSt) := [(bK 2 holes 0 = true, .ret, kRet p s l tabs holes), (bK 2 holes 0 = false, .exit 2, kEnd p s l tabs holes)]
def k2L (p : Play) (s : Edge) (l tabs holes : Rw Edge) : St → (Ex → St → Tree) → Tree := askH (holes.n ≤ 1000) (loopT 664 kIds (kJ2 p s l tabs holes (0 : Nat)) (k2X p s l tabs holes))
theorem k2L_ok {E0 : Env} (hP : E0.P = Try.prog) (p : Play) (s : Edge) (l tabs holes : Rw Edge) (G : Ctx) (hrd : G.rd = none) (hG : G.n = 664) : CSound E0 G (.loop (bodyK Try.f27 1)) (k2L p s l tabs holes) := by
  refine askH_ok fun hl => ?_
  have h0 : CSound (mkE Try.prog tab0) G (.loop (bodyK Try.f27 1)) (loopT 664 kIds (kJ2 p s l tabs holes (0 : Nat)) (k2X p s l tabs holes)) := by
    refine loopT_ok (n0 := 664) (mkE_ok tab0_ok) (by omega) (fun s hs => hnd_hndOk (mkE_ok tab0_ok) 0 G _ hrd) (fun s hs => (by decide : 664 ≤ 696)) ?_ (k2_round p s l tabs holes hl) (s0 := 0) (Nat.zero_le _) ?_
    · rintro s e J (⟨_, _, rfl⟩ | ⟨_, _, rfl⟩) <;> exact (by decide : 664 ≤ 696)
    · rintro e J (⟨rfl, h, rfl⟩ | ⟨rfl, h, rfl⟩)
      · exact ⟨_, List.mem_cons_self, h, rfl, rfl⟩
      · exact ⟨_, List.mem_cons_of_mem _ List.mem_cons_self, h, rfl, rfl⟩
  exact csound_P (E := mkE Try.prog tab0) hP.symm h0
abbrev kHnd (E : Env) (p : Play) (s : Edge) (l tabs holes : Rw Edge) : Hnd := { hnd E 1 with loop := byReg [(6, k1L p s l tabs holes), (11, k2L p s l tabs holes)] }
theorem kHnd_ok {E : Env} (hE : E.Sound) (hP : E.P = Try.prog) (p : Play) (s : Edge) (l tabs holes : Rw Edge) (G : Ctx) (hrd : G.rd = none) (hG : G.n = 664) : HndOk E G (kHnd E p s l tabs holes) (bodyOf Try.f27) := by
  refine loops_ok hE hrd fun c hc => ?_
  have e : loops (bodyOf Try.f27) = [.loop (bodyK Try.f27 0), .loop (bodyK Try.f27 1)] := by kernel_rfl
  rw [e] at hc
  simp only [List.mem_cons, List.not_mem_nil, or_false] at hc
  rcases hc with rfl | rfl
  · have e1 : byReg [(6, k1L p s l tabs holes), (11, k2L p s l tabs holes)] (.loop (bodyK Try.f27 0)) = k1L p s l tabs holes := by kernel_rfl
    rw [e1]
    exact k1L_ok hP p s l tabs holes G hrd hG
  · have e1 : byReg [(6, k1L p s l tabs holes), (11, k2L p s l tabs holes)] (.loop (bodyK Try.f27 1)) = k2L p s l tabs holes := by kernel_rfl
    rw [e1]
    exact k2L_ok hP p s l tabs holes G hrd hG
def tab_mt : Tab := addF tab_rmat 24 matC
theorem tab_mt_ok : TabOk tab_mt := tab_rmat_ok.add mat_s
def tab_lw (pb : List Prop → Bool) (U : UC) : Tab := addF tab_mt 72 (roFC (uFCg pb U))
abbrev lwH (E : Env) (p : Play) (s : Edge) (l tabs holes : Rw Edge) : Hnd := withCall E (hnd E 4) 27 664 (kHnd E p s l tabs holes)
set_option maxRecDepth 100000 in
theorem lw_t (pb : List Prop → Bool) (p : Play) (s : Edge) (l tabs holes : Rw Edge) (L : List (Rw Int)) : (execW (mkS Try.prog (tab_lw pb (prU p tabs holes nilW [] L))) (lwH (mkS Try.prog (tab_lw pb (prU p tabs holes nilW [] L))) p s l tabs holes) Try.f5 (ArgsE.vals 0 ((p, s, l, tabs, holes, ()) : Play × Edge × Rw Edge × Rw Edge × Rw Edge × Unit)) (ArgsE.blks 0 ((p, s, l, tabs, holes, ()) : Play × Edge × Rw Edge × Rw Edge × Rw Edge × Unit)) 8) =
    Tree.need (!decide ((↑tabs.n : Int) > (5 : Int)) || decide ((↑tabs.n : Int) > (5 : Int))) (Tree.need (!decide ((↑tabs.n : Int) > (5 : Int)) || decide ((↑tabs.n : Int) > (5 : Int)))
    (Tree.bnd (decide ((↑tabs.n : Int) > (5 : Int)) && decide ((↑tabs.n : Int) ≤ (8 : Int))) (fun (x0 : Bool) => Tree.need (!!x0 || !x0) (Tree.need (x0 || !x0) (Tree.bnd (x0 || decide
    ((↑tabs.n : Int) > (12 : Int))) (fun (x1 : Bool) => Tree.br (x1) (Tree.leaf (AV.bool true true) ([])) (Tree.need (!decide ((↑holes.n : Int) > (5 : Int)) || decide ((↑holes.n : Int)
    > (5 : Int))) (Tree.need (!decide ((↑holes.n : Int) > (5 : Int)) || decide ((↑holes.n : Int) > (5 : Int))) (Tree.bnd (decide ((↑holes.n : Int) > (5 : Int)) && decide ((↑holes.n :
    Int) ≤ (8 : Int))) (fun (x2 : Bool) => Tree.need (!!x2 || !x2) (Tree.need (x2 || !x2) (Tree.bnd (x2 || decide ((↑holes.n : Int) > (12 : Int))) (fun (x3 : Bool) => Tree.br (x3)
    (Tree.leaf (AV.bool true true) ([])) (Tree.br (decide ((↑l.n : Int) > (50 : Int))) (Tree.leaf (AV.bool true true) ([])) (Tree.need (true && (true && (decide (l.n ≤ l.n) && true)) &&
    decide (l.n ≤ (1000 : Nat))) (Tree.need (true && (true && (decide (l.n ≤ l.n) && true)) && decide (l.n ≤ (1000 : Nat))) (Tree.need (true && (decide (tabs.n ≤ tabs.n) && (decide
    (holes.n ≤ holes.n) && true)) && decide (tabs.n ≤ (1000 : Nat) ∧ holes.n ≤ (1000 : Nat))) (Tree.need (true) (Tree.need (!!!p.ok || decide (tabs.n ≤ tabs.n) && true && decide (tabs.n
    ≤ (1000 : Nat)) && !!p.ok) (Tree.need (!!!p.ok || !!p.ok) (Tree.need (!p.ok || !!p.ok) (Tree.bnd (!p.ok || !allN (fun i => (tabs.get i).ok) tabs.n) (fun (x4 : Bool) => Tree.need
    (!!x4 || decide (holes.n ≤ holes.n) && true && decide (holes.n ≤ (1000 : Nat)) && !x4) (Tree.need (!!x4 || !x4) (Tree.need (x4 || !x4) (Tree.bnd (x4 || !allN (fun i => (holes.get
    i).ok) holes.n) (fun (x5 : Bool) => Tree.br (x5) (Tree.need (decide ((matL p s (2 : Int) l).length ≤ (matL p s (2 : Int) l).length) && (decide ((matL p s (2 : Int) l).length ≤ (matL
    p s (2 : Int) l).length) && true) && decide ((matL p s (2 : Int) l).length ≤ (1000 : Nat) ∧ (matL p s (2 : Int) l).length ≤ (1000 : Nat))) (Tree.need (!sameI (Rw.mk (matL p s (2 :
    Int) l).length fun i => (matL p s (2 : Int) l).getD i (0 : Int)) (Rw.mk (matL p s (2 : Int) l).length fun i => (matL p s (2 : Int) l).getD i (0 : Int)) || decide ((matL p s (1 :
    Int) l).length ≤ (matL p s (1 : Int) l).length) && (decide ((matL p s (1 : Int) l).length ≤ (matL p s (1 : Int) l).length) && true) && decide ((matL p s (1 : Int) l).length ≤ (1000
    : Nat) ∧ (matL p s (1 : Int) l).length ≤ (1000 : Nat)) && (sameI (Rw.mk (matL p s (2 : Int) l).length fun i => (matL p s (2 : Int) l).getD i (0 : Int)) (Rw.mk (matL p s (2 : Int)
    l).length fun i => (matL p s (2 : Int) l).getD i (0 : Int)) && sameI (Rw.mk (matL p s (2 : Int) l).length fun i => (matL p s (2 : Int) l).getD i (0 : Int)) (Rw.mk (matL p s (2 :
    Int) l).length fun i => (matL p s (2 : Int) l).getD i (0 : Int)))) (Tree.need (!sameI (Rw.mk (matL p s (2 : Int) l).length fun i => (matL p s (2 : Int) l).getD i (0 : Int)) (Rw.mk
    (matL p s (2 : Int) l).length fun i => (matL p s (2 : Int) l).getD i (0 : Int)) || sameI (Rw.mk (matL p s (2 : Int) l).length fun i => (matL p s (2 : Int) l).getD i (0 : Int))
    (Rw.mk (matL p s (2 : Int) l).length fun i => (matL p s (2 : Int) l).getD i (0 : Int))) (Tree.bnd (sameI (Rw.mk (matL p s (2 : Int) l).length fun i => (matL p s (2 : Int) l).getD i
    (0 : Int)) (Rw.mk (matL p s (2 : Int) l).length fun i => (matL p s (2 : Int) l).getD i (0 : Int)) && sameI (Rw.mk (matL p s (1 : Int) l).length fun i => (matL p s (1 : Int) l).getD
    i (0 : Int)) (Rw.mk (matL p s (1 : Int) l).length fun i => (matL p s (1 : Int) l).getD i (0 : Int))) (fun (x6 : Bool) => Tree.need (!x6 || x6 && x6) (Tree.need (!x6 || x6) (Tree.bnd
    (x6 && matE p s l == matE p s l) (fun (x7 : Bool) => Tree.need (!x7 || decide ((pairsV p tabs holes).1.n ≤ (pairsV p tabs holes).1.n) && (true && true) && decide ((pairsV p tabs
    holes).1.n ≤ (1000 : Nat) ∧ (0 : Nat) ≤ (1000 : Nat)) && (x7 && x7)) (Tree.need (!x7 || x7) (Tree.bnd (x7 && sameI (pairsV p tabs holes).1 (Rw.mk (0 : Nat) fun i => (0 : Int))) (fun
    (x8 : Bool) => Tree.need (!x8 || decide ((pairsV p tabs holes).2.1.n ≤ (pairsV p tabs holes).2.1.n) && (true && true) && decide ((pairsV p tabs holes).2.1.n ≤ (1000 : Nat) ∧ (0 :
    Nat) ≤ (1000 : Nat)) && (x8 && x8)) (Tree.need (!x8 || x8) (Tree.bnd (x8 && sameI (pairsV p tabs holes).2.1 (Rw.mk (0 : Nat) fun i => (0 : Int))) (fun (x9 : Bool) => Tree.need (!x9
    || x9 && x9) (Tree.need (!x9 || x9) (Tree.bnd (x9 && (pairsV p tabs holes).2.2 == (1 : Int)) (fun (x10 : Bool) => Tree.need (!x10 || x10) (Tree.bnd (x10 || false) (fun (x11 : Bool)
    => Tree.leaf (AV.bool false x11) ([])))))))))))))))))))) (Tree.need (!!decide ((↑tabs.n : Int) > (8 : Int)) || !decide ((↑tabs.n : Int) > (8 : Int))) (Tree.need (!!decide ((↑tabs.n
    : Int) > (8 : Int)) || !decide ((↑tabs.n : Int) > (8 : Int))) (Tree.need (decide ((↑tabs.n : Int) > (8 : Int)) || !decide ((↑tabs.n : Int) > (8 : Int))) (Tree.bnd (decide ((↑tabs.n
    : Int) > (8 : Int)) || decide ((↑holes.n : Int) > (8 : Int))) (fun (x12 : Bool) => Tree.br (x12) (Tree.need (decide ((matL p s (2 : Int) l).length ≤ (matL p s (2 : Int) l).length)
    && (decide ((matL p s (2 : Int) l).length ≤ (matL p s (2 : Int) l).length) && true) && decide ((matL p s (2 : Int) l).length ≤ (1000 : Nat) ∧ (matL p s (2 : Int) l).length ≤ (1000 :
    Nat))) (Tree.need (!sameI (Rw.mk (matL p s (2 : Int) l).length fun i => (matL p s (2 : Int) l).getD i (0 : Int)) (Rw.mk (matL p s (2 : Int) l).length fun i => (matL p s (2 : Int)
    l).getD i (0 : Int)) || decide ((matL p s (1 : Int) l).length ≤ (matL p s (1 : Int) l).length) && (decide ((matL p s (1 : Int) l).length ≤ (matL p s (1 : Int) l).length) && true) &&
    decide ((matL p s (1 : Int) l).length ≤ (1000 : Nat) ∧ (matL p s (1 : Int) l).length ≤ (1000 : Nat)) && (sameI (Rw.mk (matL p s (2 : Int) l).length fun i => (matL p s (2 : Int)
    l).getD i (0 : Int)) (Rw.mk (matL p s (2 : Int) l).length fun i => (matL p s (2 : Int) l).getD i (0 : Int)) && sameI (Rw.mk (matL p s (2 : Int) l).length fun i => (matL p s (2 :
    Int) l).getD i (0 : Int)) (Rw.mk (matL p s (2 : Int) l).length fun i => (matL p s (2 : Int) l).getD i (0 : Int)))) (Tree.need (!sameI (Rw.mk (matL p s (2 : Int) l).length fun i =>
    (matL p s (2 : Int) l).getD i (0 : Int)) (Rw.mk (matL p s (2 : Int) l).length fun i => (matL p s (2 : Int) l).getD i (0 : Int)) || sameI (Rw.mk (matL p s (2 : Int) l).length fun i
    => (matL p s (2 : Int) l).getD i (0 : Int)) (Rw.mk (matL p s (2 : Int) l).length fun i => (matL p s (2 : Int) l).getD i (0 : Int))) (Tree.bnd (sameI (Rw.mk (matL p s (2 : Int)
    l).length fun i => (matL p s (2 : Int) l).getD i (0 : Int)) (Rw.mk (matL p s (2 : Int) l).length fun i => (matL p s (2 : Int) l).getD i (0 : Int)) && sameI (Rw.mk (matL p s (1 :
    Int) l).length fun i => (matL p s (1 : Int) l).getD i (0 : Int)) (Rw.mk (matL p s (1 : Int) l).length fun i => (matL p s (1 : Int) l).getD i (0 : Int))) (fun (x13 : Bool) =>
    Tree.need (!x13 || x13 && x13) (Tree.need (!x13 || x13) (Tree.bnd (x13 && matE p s l == matE p s l) (fun (x14 : Bool) => Tree.need (!x14 || decide ((pairsV p tabs holes).1.n ≤
    (pairsV p tabs holes).1.n) && (true && true) && decide ((pairsV p tabs holes).1.n ≤ (1000 : Nat) ∧ (0 : Nat) ≤ (1000 : Nat)) && (x14 && x14)) (Tree.need (!x14 || x14) (Tree.bnd (x14
    && sameI (pairsV p tabs holes).1 (Rw.mk (0 : Nat) fun i => (0 : Int))) (fun (x15 : Bool) => Tree.need (!x15 || decide ((pairsV p tabs holes).2.1.n ≤ (pairsV p tabs holes).2.1.n) &&
    (true && true) && decide ((pairsV p tabs holes).2.1.n ≤ (1000 : Nat) ∧ (0 : Nat) ≤ (1000 : Nat)) && (x15 && x15)) (Tree.need (!x15 || x15) (Tree.bnd (x15 && sameI (pairsV p tabs
    holes).2.1 (Rw.mk (0 : Nat) fun i => (0 : Int))) (fun (x16 : Bool) => Tree.need (!x16 || x16 && x16) (Tree.need (!x16 || x16) (Tree.bnd (x16 && (pairsV p tabs holes).2.2 == (3 :
    Int)) (fun (x17 : Bool) => Tree.need (!x17 || x17) (Tree.bnd (x17 || false) (fun (x18 : Bool) => Tree.leaf (AV.bool false x18) ([])))))))))))))))))))) (Tree.ask (tabs.n ≤ (1000 :
    Nat)) (Tree.ask ((0 : Nat) = (0 : Nat)) (Tree.ask (tabs.n = tabs.n) (Tree.ask (Cap.of (0 : Nat) = Cap.of (0 : Nat)) (Tree.ask ((0 : Nat) = (0 : Nat)) (Tree.ask (holes.n = holes.n)
    (Tree.ask (Cap.of (0 : Nat) = Cap.of (0 : Nat)) (Tree.ask ((0 : Nat) = (0 : Nat)) (Tree.ask ((0 : Nat) = (0 : Nat)) (Tree.ask ((0 : Int) = (0 : Int)) (Tree.ask (p.length = p.length)
    (Tree.ask (p.slack = p.slack) (Tree.ask (p.loose = p.loose) (Tree.ask (p.damp.lo = p.damp.lo) (Tree.ask (p.damp.hi = p.damp.hi) (Tree.ask ((pairsV p tabs holes).1.n ≤ (pairsV p tabs
    holes).1.n) (Tree.ask (RowsEq (1 : Nat) (pairsV p tabs holes).1.n (fun i => RowT.enc ((pairsV p tabs holes).1.get i)) fun i => RowT.enc ((pairsV p tabs holes).1.get i)) (Tree.ask
    ((pairsV p tabs holes).2.1.n ≤ (pairsV p tabs holes).2.1.n) (Tree.ask (RowsEq (1 : Nat) (pairsV p tabs holes).2.1.n (fun i => RowT.enc ((pairsV p tabs holes).2.1.get i)) fun i =>
    RowT.enc ((pairsV p tabs holes).2.1.get i)) (Tree.ask ((matL p s (2 : Int) l).length ≤ (matL p s (2 : Int) l).length) (Tree.ask (RowsEq (1 : Nat) (matL p s (2 : Int) l).length (fun
    i => RowT.enc ((matL p s (2 : Int) l).getD i (0 : Int))) fun i => RowT.enc ((matL p s (2 : Int) l).getD i (0 : Int))) (Tree.ask ((matL p s (1 : Int) l).length ≤ (matL p s (1 : Int)
    l).length) (Tree.ask (RowsEq (1 : Nat) (matL p s (1 : Int) l).length (fun i => RowT.enc ((matL p s (1 : Int) l).getD i (0 : Int))) fun i => RowT.enc ((matL p s (1 : Int) l).getD i
    (0 : Int))) (Tree.ask ((matL p s (2 : Int) l).length ≤ (matL p s (2 : Int) l).length) (Tree.ask (RowsEq (1 : Nat) (matL p s (2 : Int) l).length (fun i => RowT.enc ((matL p s (2 :
    Int) l).getD i (0 : Int))) fun i => RowT.enc ((matL p s (2 : Int) l).getD i (0 : Int))) (Tree.ask ((matL p s (1 : Int) l).length ≤ (matL p s (1 : Int) l).length) (Tree.ask (RowsEq
    (1 : Nat) (matL p s (1 : Int) l).length (fun i => RowT.enc ((matL p s (1 : Int) l).getD i (0 : Int))) fun i => RowT.enc ((matL p s (1 : Int) l).getD i (0 : Int))) (Tree.ask (tabs.n
    ≤ tabs.n) (Tree.ask (RowsEq (7 : Nat) tabs.n (fun i => RowT.enc (tabs.get i)) fun i => RowT.enc (tabs.get i)) (Tree.ask (holes.n ≤ holes.n) (Tree.ask (RowsEq (7 : Nat) holes.n (fun
    i => RowT.enc (holes.get i)) fun i => RowT.enc (holes.get i)) (Tree.both (Tree.asm (bK (1 : Int) tabs (0 : Nat) = true) (Tree.all (fun (g19 : Nat → Value) => Tree.need (decide
    ((matL p s (2 : Int) l).length ≤ (matL p s (2 : Int) l).length) && (decide ((matL p s (2 : Int) l).length ≤ (matL p s (2 : Int) l).length) && true) && decide ((matL p s (2 : Int)
    l).length ≤ (1000 : Nat) ∧ (matL p s (2 : Int) l).length ≤ (1000 : Nat))) (Tree.need (!sameI (Rw.mk (matL p s (2 : Int) l).length fun i => (matL p s (2 : Int) l).getD i (0 : Int))
    (Rw.mk (matL p s (2 : Int) l).length fun i => (matL p s (2 : Int) l).getD i (0 : Int)) || decide ((matL p s (1 : Int) l).length ≤ (matL p s (1 : Int) l).length) && (decide ((matL p
    s (1 : Int) l).length ≤ (matL p s (1 : Int) l).length) && true) && decide ((matL p s (1 : Int) l).length ≤ (1000 : Nat) ∧ (matL p s (1 : Int) l).length ≤ (1000 : Nat)) && (sameI
    (Rw.mk (matL p s (2 : Int) l).length fun i => (matL p s (2 : Int) l).getD i (0 : Int)) (Rw.mk (matL p s (2 : Int) l).length fun i => (matL p s (2 : Int) l).getD i (0 : Int)) &&
    sameI (Rw.mk (matL p s (2 : Int) l).length fun i => (matL p s (2 : Int) l).getD i (0 : Int)) (Rw.mk (matL p s (2 : Int) l).length fun i => (matL p s (2 : Int) l).getD i (0 : Int))))
    (Tree.need (!sameI (Rw.mk (matL p s (2 : Int) l).length fun i => (matL p s (2 : Int) l).getD i (0 : Int)) (Rw.mk (matL p s (2 : Int) l).length fun i => (matL p s (2 : Int) l).getD i
    (0 : Int)) || sameI (Rw.mk (matL p s (2 : Int) l).length fun i => (matL p s (2 : Int) l).getD i (0 : Int)) (Rw.mk (matL p s (2 : Int) l).length fun i => (matL p s (2 : Int) l).getD
    i (0 : Int))) (Tree.bnd (sameI (Rw.mk (matL p s (2 : Int) l).length fun i => (matL p s (2 : Int) l).getD i (0 : Int)) (Rw.mk (matL p s (2 : Int) l).length fun i => (matL p s (2 :
    Int) l).getD i (0 : Int)) && sameI (Rw.mk (matL p s (1 : Int) l).length fun i => (matL p s (1 : Int) l).getD i (0 : Int)) (Rw.mk (matL p s (1 : Int) l).length fun i => (matL p s (1
    : Int) l).getD i (0 : Int))) (fun (x20 : Bool) => Tree.need (!x20 || x20 && x20) (Tree.need (!x20 || x20) (Tree.bnd (x20 && matE p s l == matE p s l) (fun (x21 : Bool) => Tree.need
    (!x21 || decide ((pairsV p tabs holes).1.n ≤ (pairsV p tabs holes).1.n) && (true && true) && decide ((pairsV p tabs holes).1.n ≤ (1000 : Nat) ∧ (0 : Nat) ≤ (1000 : Nat)) && (x21 &&
    x21)) (Tree.need (!x21 || x21) (Tree.bnd (x21 && sameI (pairsV p tabs holes).1 (Rw.mk (0 : Nat) fun i => (0 : Int))) (fun (x22 : Bool) => Tree.need (!x22 || decide ((pairsV p tabs
    holes).2.1.n ≤ (pairsV p tabs holes).2.1.n) && (true && true) && decide ((pairsV p tabs holes).2.1.n ≤ (1000 : Nat) ∧ (0 : Nat) ≤ (1000 : Nat)) && (x22 && x22)) (Tree.need (!x22 ||
    x22) (Tree.bnd (x22 && sameI (pairsV p tabs holes).2.1 (Rw.mk (0 : Nat) fun i => (0 : Int))) (fun (x23 : Bool) => Tree.need (!x23 || x23 && x23) (Tree.need (!x23 || x23) (Tree.bnd
    (x23 && (pairsV p tabs holes).2.2 == (6 : Int)) (fun (x24 : Bool) => Tree.need (!x24 || x24) (Tree.bnd (x24 || false) (fun (x25 : Bool) => Tree.leaf (AV.bool false x25)
    ([])))))))))))))))))))))) (Tree.asm (bK (1 : Int) tabs (0 : Nat) = false) (Tree.all (fun (g26 : Nat → Value) => Tree.ask (holes.n ≤ (1000 : Nat)) (Tree.ask ((0 : Nat) = (0 : Nat))
    (Tree.ask (tabs.n = tabs.n) (Tree.ask (Cap.of (0 : Nat) = Cap.of (0 : Nat)) (Tree.ask ((0 : Nat) = (0 : Nat)) (Tree.ask (holes.n = holes.n) (Tree.ask (Cap.of (0 : Nat) = Cap.of (0 :
    Nat)) (Tree.ask ((0 : Nat) = (0 : Nat)) (Tree.ask ((0 : Nat) = (0 : Nat)) (Tree.ask ((0 : Int) = (0 : Int)) (Tree.ask (p.length = p.length) (Tree.ask (p.slack = p.slack) (Tree.ask
    (p.loose = p.loose) (Tree.ask (p.damp.lo = p.damp.lo) (Tree.ask (p.damp.hi = p.damp.hi) (Tree.ask ((pairsV p tabs holes).1.n ≤ (pairsV p tabs holes).1.n) (Tree.ask (RowsEq (1 : Nat)
    (pairsV p tabs holes).1.n (fun i => RowT.enc ((pairsV p tabs holes).1.get i)) fun i => RowT.enc ((pairsV p tabs holes).1.get i)) (Tree.ask ((pairsV p tabs holes).2.1.n ≤ (pairsV p
    tabs holes).2.1.n) (Tree.ask (RowsEq (1 : Nat) (pairsV p tabs holes).2.1.n (fun i => RowT.enc ((pairsV p tabs holes).2.1.get i)) fun i => RowT.enc ((pairsV p tabs holes).2.1.get i))
    (Tree.ask ((matL p s (2 : Int) l).length ≤ (matL p s (2 : Int) l).length) (Tree.ask (RowsEq (1 : Nat) (matL p s (2 : Int) l).length (fun i => RowT.enc ((matL p s (2 : Int) l).getD i
    (0 : Int))) fun i => RowT.enc ((matL p s (2 : Int) l).getD i (0 : Int))) (Tree.ask ((matL p s (1 : Int) l).length ≤ (matL p s (1 : Int) l).length) (Tree.ask (RowsEq (1 : Nat) (matL
    p s (1 : Int) l).length (fun i => RowT.enc ((matL p s (1 : Int) l).getD i (0 : Int))) fun i => RowT.enc ((matL p s (1 : Int) l).getD i (0 : Int))) (Tree.ask ((matL p s (2 : Int)
    l).length ≤ (matL p s (2 : Int) l).length) (Tree.ask (RowsEq (1 : Nat) (matL p s (2 : Int) l).length (fun i => RowT.enc ((matL p s (2 : Int) l).getD i (0 : Int))) fun i => RowT.enc
    ((matL p s (2 : Int) l).getD i (0 : Int))) (Tree.ask ((matL p s (1 : Int) l).length ≤ (matL p s (1 : Int) l).length) (Tree.ask (RowsEq (1 : Nat) (matL p s (1 : Int) l).length (fun i
    => RowT.enc ((matL p s (1 : Int) l).getD i (0 : Int))) fun i => RowT.enc ((matL p s (1 : Int) l).getD i (0 : Int))) (Tree.ask (tabs.n ≤ tabs.n) (Tree.ask (RowsEq (7 : Nat) tabs.n
    (fun i => RowT.enc (tabs.get i)) fun i => RowT.enc (tabs.get i)) (Tree.ask (holes.n ≤ holes.n) (Tree.ask (RowsEq (7 : Nat) holes.n (fun i => RowT.enc (holes.get i)) fun i =>
    RowT.enc (holes.get i)) (Tree.both (Tree.asm (bK (2 : Int) holes (0 : Nat) = true) (Tree.all (fun (g27 : Nat → Value) => Tree.need (decide ((matL p s (2 : Int) l).length ≤ (matL p s
    (2 : Int) l).length) && (decide ((matL p s (2 : Int) l).length ≤ (matL p s (2 : Int) l).length) && true) && decide ((matL p s (2 : Int) l).length ≤ (1000 : Nat) ∧ (matL p s (2 :
    Int) l).length ≤ (1000 : Nat))) (Tree.need (!sameI (Rw.mk (matL p s (2 : Int) l).length fun i => (matL p s (2 : Int) l).getD i (0 : Int)) (Rw.mk (matL p s (2 : Int) l).length fun i
    => (matL p s (2 : Int) l).getD i (0 : Int)) || decide ((matL p s (1 : Int) l).length ≤ (matL p s (1 : Int) l).length) && (decide ((matL p s (1 : Int) l).length ≤ (matL p s (1 : Int)
    l).length) && true) && decide ((matL p s (1 : Int) l).length ≤ (1000 : Nat) ∧ (matL p s (1 : Int) l).length ≤ (1000 : Nat)) && (sameI (Rw.mk (matL p s (2 : Int) l).length fun i =>
    (matL p s (2 : Int) l).getD i (0 : Int)) (Rw.mk (matL p s (2 : Int) l).length fun i => (matL p s (2 : Int) l).getD i (0 : Int)) && sameI (Rw.mk (matL p s (2 : Int) l).length fun i
    => (matL p s (2 : Int) l).getD i (0 : Int)) (Rw.mk (matL p s (2 : Int) l).length fun i => (matL p s (2 : Int) l).getD i (0 : Int)))) (Tree.need (!sameI (Rw.mk (matL p s (2 : Int)
    l).length fun i => (matL p s (2 : Int) l).getD i (0 : Int)) (Rw.mk (matL p s (2 : Int) l).length fun i => (matL p s (2 : Int) l).getD i (0 : Int)) || sameI (Rw.mk (matL p s (2 :
    Int) l).length fun i => (matL p s (2 : Int) l).getD i (0 : Int)) (Rw.mk (matL p s (2 : Int) l).length fun i => (matL p s (2 : Int) l).getD i (0 : Int))) (Tree.bnd (sameI (Rw.mk
    (matL p s (2 : Int) l).length fun i => (matL p s (2 : Int) l).getD i (0 : Int)) (Rw.mk (matL p s (2 : Int) l).length fun i => (matL p s (2 : Int) l).getD i (0 : Int)) && sameI
    (Rw.mk (matL p s (1 : Int) l).length fun i => (matL p s (1 : Int) l).getD i (0 : Int)) (Rw.mk (matL p s (1 : Int) l).length fun i => (matL p s (1 : Int) l).getD i (0 : Int))) (fun
    (x28 : Bool) => Tree.need (!x28 || x28 && x28) (Tree.need (!x28 || x28) (Tree.bnd (x28 && matE p s l == matE p s l) (fun (x29 : Bool) => Tree.need (!x29 || decide ((pairsV p tabs
    holes).1.n ≤ (pairsV p tabs holes).1.n) && (true && true) && decide ((pairsV p tabs holes).1.n ≤ (1000 : Nat) ∧ (0 : Nat) ≤ (1000 : Nat)) && (x29 && x29)) (Tree.need (!x29 || x29)
    (Tree.bnd (x29 && sameI (pairsV p tabs holes).1 (Rw.mk (0 : Nat) fun i => (0 : Int))) (fun (x30 : Bool) => Tree.need (!x30 || decide ((pairsV p tabs holes).2.1.n ≤ (pairsV p tabs
    holes).2.1.n) && (true && true) && decide ((pairsV p tabs holes).2.1.n ≤ (1000 : Nat) ∧ (0 : Nat) ≤ (1000 : Nat)) && (x30 && x30)) (Tree.need (!x30 || x30) (Tree.bnd (x30 && sameI
    (pairsV p tabs holes).2.1 (Rw.mk (0 : Nat) fun i => (0 : Int))) (fun (x31 : Bool) => Tree.need (!x31 || x31 && x31) (Tree.need (!x31 || x31) (Tree.bnd (x31 && (pairsV p tabs
    holes).2.2 == (6 : Int)) (fun (x32 : Bool) => Tree.need (!x32 || x32) (Tree.bnd (x32 || false) (fun (x33 : Bool) => Tree.leaf (AV.bool false x33) ([])))))))))))))))))))))) (Tree.asm
    (bK (2 : Int) holes (0 : Nat) = false) (Tree.all (fun (g34 : Nat → Value) => Tree.br ((↑tabs.n : Int) != (↑holes.n : Int)) (Tree.need (decide ((matL p s (2 : Int) l).length ≤ (matL
    p s (2 : Int) l).length) && (decide ((matL p s (2 : Int) l).length ≤ (matL p s (2 : Int) l).length) && true) && decide ((matL p s (2 : Int) l).length ≤ (1000 : Nat) ∧ (matL p s (2 :
    Int) l).length ≤ (1000 : Nat))) (Tree.need (!sameI (Rw.mk (matL p s (2 : Int) l).length fun i => (matL p s (2 : Int) l).getD i (0 : Int)) (Rw.mk (matL p s (2 : Int) l).length fun i
    => (matL p s (2 : Int) l).getD i (0 : Int)) || decide ((matL p s (1 : Int) l).length ≤ (matL p s (1 : Int) l).length) && (decide ((matL p s (1 : Int) l).length ≤ (matL p s (1 : Int)
    l).length) && true) && decide ((matL p s (1 : Int) l).length ≤ (1000 : Nat) ∧ (matL p s (1 : Int) l).length ≤ (1000 : Nat)) && (sameI (Rw.mk (matL p s (2 : Int) l).length fun i =>
    (matL p s (2 : Int) l).getD i (0 : Int)) (Rw.mk (matL p s (2 : Int) l).length fun i => (matL p s (2 : Int) l).getD i (0 : Int)) && sameI (Rw.mk (matL p s (2 : Int) l).length fun i
    => (matL p s (2 : Int) l).getD i (0 : Int)) (Rw.mk (matL p s (2 : Int) l).length fun i => (matL p s (2 : Int) l).getD i (0 : Int)))) (Tree.need (!sameI (Rw.mk (matL p s (2 : Int)
    l).length fun i => (matL p s (2 : Int) l).getD i (0 : Int)) (Rw.mk (matL p s (2 : Int) l).length fun i => (matL p s (2 : Int) l).getD i (0 : Int)) || sameI (Rw.mk (matL p s (2 :
    Int) l).length fun i => (matL p s (2 : Int) l).getD i (0 : Int)) (Rw.mk (matL p s (2 : Int) l).length fun i => (matL p s (2 : Int) l).getD i (0 : Int))) (Tree.bnd (sameI (Rw.mk
    (matL p s (2 : Int) l).length fun i => (matL p s (2 : Int) l).getD i (0 : Int)) (Rw.mk (matL p s (2 : Int) l).length fun i => (matL p s (2 : Int) l).getD i (0 : Int)) && sameI
    (Rw.mk (matL p s (1 : Int) l).length fun i => (matL p s (1 : Int) l).getD i (0 : Int)) (Rw.mk (matL p s (1 : Int) l).length fun i => (matL p s (1 : Int) l).getD i (0 : Int))) (fun
    (x35 : Bool) => Tree.need (!x35 || x35 && x35) (Tree.need (!x35 || x35) (Tree.bnd (x35 && matE p s l == matE p s l) (fun (x36 : Bool) => Tree.need (!x36 || decide ((pairsV p tabs
    holes).1.n ≤ (pairsV p tabs holes).1.n) && (true && true) && decide ((pairsV p tabs holes).1.n ≤ (1000 : Nat) ∧ (0 : Nat) ≤ (1000 : Nat)) && (x36 && x36)) (Tree.need (!x36 || x36)
    (Tree.bnd (x36 && sameI (pairsV p tabs holes).1 (Rw.mk (0 : Nat) fun i => (0 : Int))) (fun (x37 : Bool) => Tree.need (!x37 || decide ((pairsV p tabs holes).2.1.n ≤ (pairsV p tabs
    holes).2.1.n) && (true && true) && decide ((pairsV p tabs holes).2.1.n ≤ (1000 : Nat) ∧ (0 : Nat) ≤ (1000 : Nat)) && (x37 && x37)) (Tree.need (!x37 || x37) (Tree.bnd (x37 && sameI
    (pairsV p tabs holes).2.1 (Rw.mk (0 : Nat) fun i => (0 : Int))) (fun (x38 : Bool) => Tree.need (!x38 || x38 && x38) (Tree.need (!x38 || x38) (Tree.bnd (x38 && (pairsV p tabs
    holes).2.2 == (2 : Int)) (fun (x39 : Bool) => Tree.need (!x39 || x39) (Tree.bnd (x39 || false) (fun (x40 : Bool) => Tree.leaf (AV.bool false x40) ([])))))))))))))))))))) (Tree.need
    (pb ([p.length = p.length, p.slack = p.slack, p.loose = p.loose, p.damp.lo = p.damp.lo, p.damp.hi = p.damp.hi, (0 : Nat) = (0 : Nat), tabs.n = tabs.n, Cap.of (0 : Nat) = Cap.of (0 :
    Nat), (0 : Nat) = (0 : Nat), holes.n = holes.n, Cap.of (0 : Nat) = Cap.of (0 : Nat), (0 : Nat) = (0 : Nat), (0 : Nat) = (0 : Nat), (0 : Nat) = (0 : Nat), (0 : Nat) = (0 : Nat),
    tabs.n ≤ tabs.n, RowsEq (7 : Nat) tabs.n (fun i => RowT.enc (tabs.get i)) fun i => RowT.enc (tabs.get i), holes.n ≤ holes.n, RowsEq (7 : Nat) holes.n (fun i => RowT.enc (holes.get
    i)) fun i => RowT.enc (holes.get i)])) (Tree.br ((↑L.length : Int) == (0 : Int)) (Tree.need (decide ((matL p s (2 : Int) l).length ≤ (matL p s (2 : Int) l).length) && (decide ((matL
    p s (2 : Int) l).length ≤ (matL p s (2 : Int) l).length) && true) && decide ((matL p s (2 : Int) l).length ≤ (1000 : Nat) ∧ (matL p s (2 : Int) l).length ≤ (1000 : Nat))) (Tree.need
    (!sameI (Rw.mk (matL p s (2 : Int) l).length fun i => (matL p s (2 : Int) l).getD i (0 : Int)) (Rw.mk (matL p s (2 : Int) l).length fun i => (matL p s (2 : Int) l).getD i (0 : Int))
    || decide ((matL p s (1 : Int) l).length ≤ (matL p s (1 : Int) l).length) && (decide ((matL p s (1 : Int) l).length ≤ (matL p s (1 : Int) l).length) && true) && decide ((matL p s (1
    : Int) l).length ≤ (1000 : Nat) ∧ (matL p s (1 : Int) l).length ≤ (1000 : Nat)) && (sameI (Rw.mk (matL p s (2 : Int) l).length fun i => (matL p s (2 : Int) l).getD i (0 : Int))
    (Rw.mk (matL p s (2 : Int) l).length fun i => (matL p s (2 : Int) l).getD i (0 : Int)) && sameI (Rw.mk (matL p s (2 : Int) l).length fun i => (matL p s (2 : Int) l).getD i (0 :
    Int)) (Rw.mk (matL p s (2 : Int) l).length fun i => (matL p s (2 : Int) l).getD i (0 : Int)))) (Tree.need (!sameI (Rw.mk (matL p s (2 : Int) l).length fun i => (matL p s (2 : Int)
    l).getD i (0 : Int)) (Rw.mk (matL p s (2 : Int) l).length fun i => (matL p s (2 : Int) l).getD i (0 : Int)) || sameI (Rw.mk (matL p s (2 : Int) l).length fun i => (matL p s (2 :
    Int) l).getD i (0 : Int)) (Rw.mk (matL p s (2 : Int) l).length fun i => (matL p s (2 : Int) l).getD i (0 : Int))) (Tree.bnd (sameI (Rw.mk (matL p s (2 : Int) l).length fun i =>
    (matL p s (2 : Int) l).getD i (0 : Int)) (Rw.mk (matL p s (2 : Int) l).length fun i => (matL p s (2 : Int) l).getD i (0 : Int)) && sameI (Rw.mk (matL p s (1 : Int) l).length fun i
    => (matL p s (1 : Int) l).getD i (0 : Int)) (Rw.mk (matL p s (1 : Int) l).length fun i => (matL p s (1 : Int) l).getD i (0 : Int))) (fun (x41 : Bool) => Tree.need (!x41 || x41 &&
    x41) (Tree.need (!x41 || x41) (Tree.bnd (x41 && matE p s l == matE p s l) (fun (x42 : Bool) => Tree.need (!x42 || decide ((pairsV p tabs holes).1.n ≤ (pairsV p tabs holes).1.n) &&
    (true && true) && decide ((pairsV p tabs holes).1.n ≤ (1000 : Nat) ∧ (0 : Nat) ≤ (1000 : Nat)) && (x42 && x42)) (Tree.need (!x42 || x42) (Tree.bnd (x42 && sameI (pairsV p tabs
    holes).1 (Rw.mk (0 : Nat) fun i => (0 : Int))) (fun (x43 : Bool) => Tree.need (!x43 || decide ((pairsV p tabs holes).2.1.n ≤ (pairsV p tabs holes).2.1.n) && (true && true) && decide
    ((pairsV p tabs holes).2.1.n ≤ (1000 : Nat) ∧ (0 : Nat) ≤ (1000 : Nat)) && (x43 && x43)) (Tree.need (!x43 || x43) (Tree.bnd (x43 && sameI (pairsV p tabs holes).2.1 (Rw.mk (0 : Nat)
    fun i => (0 : Int))) (fun (x44 : Bool) => Tree.need (!x44 || x44 && x44) (Tree.need (!x44 || x44) (Tree.bnd (x44 && (pairsV p tabs holes).2.2 == (4 : Int)) (fun (x45 : Bool) =>
    Tree.need (!x45 || x45) (Tree.bnd (x45 || false) (fun (x46 : Bool) => Tree.leaf (AV.bool false x46) ([])))))))))))))))))))) (Tree.br ((↑L.length : Int) == (1 : Int)) (Tree.need
    (decide ((0 : Int) ≤ (0 : Int) ∧ (0 : Int) < (↑L.length : Int)) && decide (L.length ≤ L.length)) (Tree.need (decide (Int.toNat (0 : Int) < L.length)) (Tree.need (decide ((matL p s
    (2 : Int) l).length ≤ (matL p s (2 : Int) l).length) && (decide ((matL p s (2 : Int) l).length ≤ (matL p s (2 : Int) l).length) && true) && decide ((matL p s (2 : Int) l).length ≤
    (1000 : Nat) ∧ (matL p s (2 : Int) l).length ≤ (1000 : Nat))) (Tree.need (!sameI (Rw.mk (matL p s (2 : Int) l).length fun i => (matL p s (2 : Int) l).getD i (0 : Int)) (Rw.mk (matL
    p s (2 : Int) l).length fun i => (matL p s (2 : Int) l).getD i (0 : Int)) || decide ((matL p s (1 : Int) l).length ≤ (matL p s (1 : Int) l).length) && (decide ((matL p s (1 : Int)
    l).length ≤ (matL p s (1 : Int) l).length) && true) && decide ((matL p s (1 : Int) l).length ≤ (1000 : Nat) ∧ (matL p s (1 : Int) l).length ≤ (1000 : Nat)) && (sameI (Rw.mk (matL p
    s (2 : Int) l).length fun i => (matL p s (2 : Int) l).getD i (0 : Int)) (Rw.mk (matL p s (2 : Int) l).length fun i => (matL p s (2 : Int) l).getD i (0 : Int)) && sameI (Rw.mk (matL
    p s (2 : Int) l).length fun i => (matL p s (2 : Int) l).getD i (0 : Int)) (Rw.mk (matL p s (2 : Int) l).length fun i => (matL p s (2 : Int) l).getD i (0 : Int)))) (Tree.need (!sameI
    (Rw.mk (matL p s (2 : Int) l).length fun i => (matL p s (2 : Int) l).getD i (0 : Int)) (Rw.mk (matL p s (2 : Int) l).length fun i => (matL p s (2 : Int) l).getD i (0 : Int)) ||
    sameI (Rw.mk (matL p s (2 : Int) l).length fun i => (matL p s (2 : Int) l).getD i (0 : Int)) (Rw.mk (matL p s (2 : Int) l).length fun i => (matL p s (2 : Int) l).getD i (0 : Int)))
    (Tree.bnd (sameI (Rw.mk (matL p s (2 : Int) l).length fun i => (matL p s (2 : Int) l).getD i (0 : Int)) (Rw.mk (matL p s (2 : Int) l).length fun i => (matL p s (2 : Int) l).getD i
    (0 : Int)) && sameI (Rw.mk (matL p s (1 : Int) l).length fun i => (matL p s (1 : Int) l).getD i (0 : Int)) (Rw.mk (matL p s (1 : Int) l).length fun i => (matL p s (1 : Int) l).getD
    i (0 : Int))) (fun (x47 : Bool) => Tree.need (!x47 || x47 && x47) (Tree.need (!x47 || x47) (Tree.bnd (x47 && matE p s l == matE p s l) (fun (x48 : Bool) => Tree.need (!x48 || decide
    ((pairsV p tabs holes).1.n ≤ (pairsV p tabs holes).1.n) && (decide ((getR L (Int.toNat (0 : Int))).n ≤ (getR L (Int.toNat (0 : Int))).n) && true) && decide ((pairsV p tabs
    holes).1.n ≤ (1000 : Nat) ∧ (getR L (Int.toNat (0 : Int))).n ≤ (1000 : Nat)) && (x48 && x48)) (Tree.need (!x48 || x48) (Tree.bnd (x48 && sameI (pairsV p tabs holes).1 (getR L
    (Int.toNat (0 : Int)))) (fun (x49 : Bool) => Tree.need (!x49 || decide ((pairsV p tabs holes).2.1.n ≤ (pairsV p tabs holes).2.1.n) && (true && true) && decide ((pairsV p tabs
    holes).2.1.n ≤ (1000 : Nat) ∧ (0 : Nat) ≤ (1000 : Nat)) && (x49 && x49)) (Tree.need (!x49 || x49) (Tree.bnd (x49 && sameI (pairsV p tabs holes).2.1 (Rw.mk (0 : Nat) fun i => (0 :
    Int))) (fun (x50 : Bool) => Tree.need (!x50 || x50 && x50) (Tree.need (!x50 || x50) (Tree.bnd (x50 && (pairsV p tabs holes).2.2 == (0 : Int)) (fun (x51 : Bool) => Tree.need (!x51 ||
    x51) (Tree.bnd (x51 || false) (fun (x52 : Bool) => Tree.leaf (AV.bool false x52) ([])))))))))))))))))))))) (Tree.need (decide ((0 : Int) ≤ (0 : Int) ∧ (0 : Int) < (↑L.length : Int))
    && decide (L.length ≤ L.length)) (Tree.need (decide (Int.toNat (0 : Int) < L.length)) (Tree.need (decide ((0 : Int) ≤ (1 : Int) ∧ (1 : Int) < (↑L.length : Int)) && decide (L.length
    ≤ L.length)) (Tree.need (decide (Int.toNat (1 : Int) < L.length)) (Tree.need (decide ((matL p s (2 : Int) l).length ≤ (matL p s (2 : Int) l).length) && (decide ((matL p s (2 : Int)
    l).length ≤ (matL p s (2 : Int) l).length) && true) && decide ((matL p s (2 : Int) l).length ≤ (1000 : Nat) ∧ (matL p s (2 : Int) l).length ≤ (1000 : Nat))) (Tree.need (!sameI
    (Rw.mk (matL p s (2 : Int) l).length fun i => (matL p s (2 : Int) l).getD i (0 : Int)) (Rw.mk (matL p s (2 : Int) l).length fun i => (matL p s (2 : Int) l).getD i (0 : Int)) ||
    decide ((matL p s (1 : Int) l).length ≤ (matL p s (1 : Int) l).length) && (decide ((matL p s (1 : Int) l).length ≤ (matL p s (1 : Int) l).length) && true) && decide ((matL p s (1 :
    Int) l).length ≤ (1000 : Nat) ∧ (matL p s (1 : Int) l).length ≤ (1000 : Nat)) && (sameI (Rw.mk (matL p s (2 : Int) l).length fun i => (matL p s (2 : Int) l).getD i (0 : Int)) (Rw.mk
    (matL p s (2 : Int) l).length fun i => (matL p s (2 : Int) l).getD i (0 : Int)) && sameI (Rw.mk (matL p s (2 : Int) l).length fun i => (matL p s (2 : Int) l).getD i (0 : Int))
    (Rw.mk (matL p s (2 : Int) l).length fun i => (matL p s (2 : Int) l).getD i (0 : Int)))) (Tree.need (!sameI (Rw.mk (matL p s (2 : Int) l).length fun i => (matL p s (2 : Int) l).getD
    i (0 : Int)) (Rw.mk (matL p s (2 : Int) l).length fun i => (matL p s (2 : Int) l).getD i (0 : Int)) || sameI (Rw.mk (matL p s (2 : Int) l).length fun i => (matL p s (2 : Int)
    l).getD i (0 : Int)) (Rw.mk (matL p s (2 : Int) l).length fun i => (matL p s (2 : Int) l).getD i (0 : Int))) (Tree.bnd (sameI (Rw.mk (matL p s (2 : Int) l).length fun i => (matL p s
    (2 : Int) l).getD i (0 : Int)) (Rw.mk (matL p s (2 : Int) l).length fun i => (matL p s (2 : Int) l).getD i (0 : Int)) && sameI (Rw.mk (matL p s (1 : Int) l).length fun i => (matL p
    s (1 : Int) l).getD i (0 : Int)) (Rw.mk (matL p s (1 : Int) l).length fun i => (matL p s (1 : Int) l).getD i (0 : Int))) (fun (x53 : Bool) => Tree.need (!x53 || x53 && x53)
    (Tree.need (!x53 || x53) (Tree.bnd (x53 && matE p s l == matE p s l) (fun (x54 : Bool) => Tree.need (!x54 || decide ((pairsV p tabs holes).1.n ≤ (pairsV p tabs holes).1.n) &&
    (decide ((getR L (Int.toNat (0 : Int))).n ≤ (getR L (Int.toNat (0 : Int))).n) && true) && decide ((pairsV p tabs holes).1.n ≤ (1000 : Nat) ∧ (getR L (Int.toNat (0 : Int))).n ≤ (1000
    : Nat)) && (x54 && x54)) (Tree.need (!x54 || x54) (Tree.bnd (x54 && sameI (pairsV p tabs holes).1 (getR L (Int.toNat (0 : Int)))) (fun (x55 : Bool) => Tree.need (!x55 || decide
    ((pairsV p tabs holes).2.1.n ≤ (pairsV p tabs holes).2.1.n) && (decide ((getR L (Int.toNat (1 : Int))).n ≤ (getR L (Int.toNat (1 : Int))).n) && true) && decide ((pairsV p tabs
    holes).2.1.n ≤ (1000 : Nat) ∧ (getR L (Int.toNat (1 : Int))).n ≤ (1000 : Nat)) && (x55 && x55)) (Tree.need (!x55 || x55) (Tree.bnd (x55 && sameI (pairsV p tabs holes).2.1 (getR L
    (Int.toNat (1 : Int)))) (fun (x56 : Bool) => Tree.need (!x56 || x56 && x56) (Tree.need (!x56 || x56) (Tree.bnd (x56 && (pairsV p tabs holes).2.2 == (0 : Int)) (fun (x57 : Bool) =>
    Tree.need (!x57 || x57) (Tree.bnd (x57 || false) (fun (x58 : Bool) => Tree.leaf (AV.bool false x58)
    ([])))))))))))))))))))))))))))))))))))))))))))))))))))))))))))))))))))))))))))))))))))))))))))))))))))))))))))))))))))))))))))))))) := by kernel_rfl
end Go.Proofs.Ytdaanchagjamfaa
