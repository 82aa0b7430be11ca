/- The reference's loop over a span: some. -/
import Derived.Test.YtdaanchagjamfaaNpp
import Derived.Test.YtdaanchagjamfaaNpq
namespace Go.Proofs.Ytdaanchagjamfaa
open Go.SX
def bodyK (fn : Func) (k : Nat) : Code := match (loops (bodyOf fn))[k]? with
  | some (.loop b) => b
  | _ => .skip
structure SomeS where
  s : Sp
  d : Sp
  lo : Int
  hi : Int
  n : Int
def SomeS.I (x : SomeS) : JSt := ⟨40, [(1, .int false .i64 x.lo), (2, .int false .i64 x.hi), (4, .ptr 0 0 0), (7, .ptr 8 0 0), (9, .int false .i64 x.n)], [(8, .cells 0 23 (Enc.enc x.d).cells), (0, .cells 0 23 (Enc.enc x.s).cells)], 56⟩
def SomeS.pre (x : SomeS) : Prop := (-100000 ≤ x.s.lo ∧ x.s.lo ≤ 100000) ∧ (-100000 ≤ x.s.hi ∧ x.s.hi ≤ 100000) ∧ (-500 ≤ x.lo ∧ x.lo ≤ 0) ∧ (0 ≤ x.hi ∧ x.hi ≤ 500) ∧ (0 ≤ x.d.lo ∧ x.d.lo ≤ 100) ∧ -100000 ≤ x.n ∧ x.n ≤ 100001
def SomeS.good (x : SomeS) (n : Int) : Prop := n ≤ min x.s.hi x.hi ∧ 1000 * x.lo ≤ n * (1000 + x.d.lo) ∧ n * (1000 + x.d.lo) ≤ 1000 * x.hi
def SomeS.yes (x : SomeS) : Prop := ∃ n, x.n ≤ n ∧ x.good n
def someR (x : SomeS) (e : Ex) (J : JSt) : Prop := (e = .ret ∧ J = ⟨40, [(8, .bool true true)], [], 0⟩ ∧ x.yes) ∨ (e = .exit 0 ∧ J = ⟨40, [], [], 0⟩ ∧ ¬ x.yes)
def someLs : Ex → List Nat
  | .normal => [1, 2, 4, 7, 9]
  | .ret => [8]
  | .exit _ => []
def SomeS.mu (x : SomeS) : Nat := (min x.s.hi x.hi + 1 - x.n).toNat
def SomeS.next (x : SomeS) : SomeS := { x with n := x.n + 1 }
def someGo (x : SomeS) : Tree := .leaf (.tup [.nilp, .ptr 40 0 0, .int false .i64 x.lo, .int false .i64 x.hi, .ptr 0 0 0, .ptr 8 0 0, .int false .i64 (IntKind.i64.wrap (x.n + 1))]) [(8, .cells 0 23 (Enc.enc x.d).cells), (0, .cells 0 23 (Enc.enc x.s).cells)]
set_option maxRecDepth 100000 in
theorem some_t (x : SomeS) (g : Nat → Value) : exec (mkE Try.prog tab_rWorn) (hnd (mkE Try.prog tab_rWorn) 0) (bodyK Try.f76 0) (JSt.inst x.I g) (leafK someLs) =
   .br (decide (x.n ≤ min x.s.hi x.hi))
     (.br (decide (IntKind.i64.wrap (x.n * IntKind.i64.wrap (1000 + x.d.lo)) ≥ IntKind.i64.wrap (1000 * x.lo)))
       (.br (decide (IntKind.i64.wrap (x.n * IntKind.i64.wrap (1000 + x.d.lo)) ≤ IntKind.i64.wrap (1000 * x.hi)))
         (.leaf (.tup [.nili, .ptr 40 0 0, .bool true true]) [(8, .cells 0 23 (Enc.enc x.d).cells), (0, .cells 0 23 (Enc.enc x.s).cells)])
         (someGo x)) (someGo x))
     (.leaf (.tup [.ptr 0 0 0, .ptr 40 0 0]) [(8, .cells 0 23 (Enc.enc x.d).cells), (0, .cells 0 23 (Enc.enc x.s).cells)]) := by kernel_rfl
theorem some_wraps {x : SomeS} (h : x.pre) : IntKind.i64.wrap (x.n * IntKind.i64.wrap (1000 + x.d.lo)) = x.n * (1000 + x.d.lo) ∧ IntKind.i64.wrap (1000 * x.lo) = 1000 * x.lo ∧ IntKind.i64.wrap (1000 * x.hi) = 1000 * x.hi ∧ IntKind.i64.wrap (x.n + 1) = x.n + 1 := by
  obtain ⟨h1, h2, h3, h4, h5, h6, h7⟩ := h
  have e : IntKind.i64.wrap (1000 + x.d.lo) = 1000 + x.d.lo := w64 (by omega) (by omega)
  have m := Int.mul_le_mul_of_nonneg_right h6 (show 0 ≤ 1000 + x.d.lo by omega)
  have m' := Int.mul_le_mul_of_nonneg_right h7 (show 0 ≤ 1000 + x.d.lo by omega)
  rw [e]
  exact ⟨w64 (by omega) (by omega), w64 (by omega) (by omega), w64 (by omega) (by omega), w64 (by omega) (by omega)⟩
theorem some_next {x : SomeS} (hp : x.pre) (hn : x.n ≤ min x.s.hi x.hi) (hb : ¬ (1000 * x.lo ≤ x.n * (1000 + x.d.lo) ∧ x.n * (1000 + x.d.lo) ≤ 1000 * x.hi)) : (someGo x).den (LoopLeaf (Goes SomeS.I SomeS.pre SomeS.mu someR 0 someLs x) (Go.SX.Leaves someR 0 someLs x)) := by
  unfold someGo
  rw [(some_wraps hp).2.2.2]
  refine ⟨x.next, fun i => i, ?_, ?_, ?_, ?_⟩
  · obtain ⟨h1, h2, h3, h4, h5, h6, h7⟩ := hp
    refine ⟨h1, h2, h3, h4, h5, ?_, ?_⟩ <;> simp only [SomeS.next] <;> omega
  · simp only [SomeS.mu, SomeS.next]; omega
  · intro e J hR
    have hy : x.next.yes ↔ x.yes := by
      constructor
      · rintro ⟨n, h1, h2⟩; simp only [SomeS.next] at h1; exact ⟨n, by omega, h2⟩
      · rintro ⟨n, h1, h2⟩
        rcases (show n = x.n ∨ x.n + 1 ≤ n by omega) with rfl | h3
        · exact absurd h2.2 hb
        · exact ⟨n, h3, h2⟩
    unfold someR at *
    rw [hy] at hR; exact hR
  · refine SubV.same rfl rfl ?_ ?_ rfl rfl
    · exact ⟨⟨rfl, rfl⟩, ⟨rfl, rfl⟩, ⟨rfl, rfl, rfl⟩, ⟨rfl, rfl, rfl⟩, ⟨rfl, rfl⟩, trivial⟩
    · exact ⟨⟨_, rfl, rfl, rfl, ⟨rfl, rfl⟩, ⟨rfl, rfl⟩, trivial⟩, ⟨_, rfl, rfl, rfl, ⟨rfl, rfl⟩, ⟨rfl, rfl⟩, trivial⟩, trivial⟩
theorem some_round : RoundOk SomeS.I SomeS.pre SomeS.mu someR 0 someLs (mkE Try.prog tab_rWorn) (hnd (mkE Try.prog tab_rWorn) 0) (bodyK Try.f76 0) := by
  intro x g hp
  rw [some_t]
  obtain ⟨e1, e2, e3, _⟩ := some_wraps hp
  simp only [Tree.den, e1, e2, e3, decide_eq_true_eq, decide_eq_false_iff_not]
  refine ⟨fun hn => ⟨fun h1 => ⟨fun h2 => ?_, fun h2 => ?_⟩, fun h1 => ?_⟩, fun hn => ?_⟩
  · exact ⟨⟨40, [(8, .bool true true)], [], 0⟩, fun i => i, .inl ⟨rfl, rfl, x.n, Int.le_refl _, hn, h1, h2⟩, SubV.same rfl rfl ⟨rfl, trivial⟩ trivial rfl rfl⟩
  · exact some_next hp hn (fun h => h2 h.2)
  · exact some_next hp hn (fun h => h1 h.1)
  · refine ⟨⟨40, [], [], 0⟩, fun i => i, .inr ⟨rfl, rfl, ?_⟩, SubV.same rfl rfl trivial trivial rfl rfl⟩
    rintro ⟨n, h1, h2, _⟩; omega
instance (x : SomeS) : Decidable x.pre := by unfold SomeS.pre; infer_instance
def someH : Code → St → (Ex → St → Tree) → Tree := fun _ st K => match st.tm.length == 40 && noDfr st.hp, getT st.tm 1, getT st.tm 2, getT st.tm 4, getT st.tm 7, getT st.tm 9, Go.SX.look st.hp 8, Go.SX.look st.hp 0 with
  | true, .int _ .i64 lo, .int _ .i64 hi, .ptr 0 0 0, .ptr 8 0 0, .int _ .i64 n, some (.cells 0 23 [.int _ .i64 dlo, .int _ .i64 dhi]), some (.cells 0 23 [.int _ .i64 slo, .int _ .i64 shi]) =>
    .need (decide (SomeS.pre ⟨⟨slo, shi⟩, ⟨dlo, dhi⟩, lo, hi, n⟩)) (.both (.asm (SomeS.yes ⟨⟨slo, shi⟩, ⟨dlo, dhi⟩, lo, hi, n⟩) (.all fun g => K .ret (JSt.inst ⟨40, [(8, .bool true true)], [], 0⟩ g)))
      (.asm (¬ SomeS.yes ⟨⟨slo, shi⟩, ⟨dlo, dhi⟩, lo, hi, n⟩) (.all fun g => K (.exit 0) (JSt.inst ⟨40, [], [], 0⟩ g))))
  | _, _, _, _, _, _, _, _ => .fail "some"
theorem someH_ok (body : Code) (st : St) (K : Ex → St → Tree) (T : AV → List (Nat × Blk) → Prop) (h : (someH body st K).den T) : ∃ s q ls', SomeS.pre s ∧ SubV 0 q ls' st.tm.length (ls'.map (getT st.tm)) st.hp (SomeS.I s) ∧ ∀ e J g, someR s e J → (K e (J.inst g)).den T := by
  unfold someH at h
  split at h <;> (try (exact h.elim))
  rename_i k1 lo k2 hi k9 n kd dlo ke dhi ks slo kt shi c1 e1 e2 e4 e7 e9 h8 h0
  simp only [Tree.den, decide_eq_true_eq] at h
  rw [Bool.and_eq_true] at c1
  refine ⟨⟨⟨slo, shi⟩, ⟨dlo, dhi⟩, lo, hi, n⟩, fun i => i, [1, 2, 4, 7, 9], h.1, SubV.same rfl ?_ ?_ ?_ rfl rfl ?_, ?_⟩
  · exact beq_iff_eq.1 c1.1
  · simp only [List.map_cons, List.map_nil, *]; exact ⟨⟨rfl, rfl⟩, ⟨rfl, rfl⟩, ⟨rfl, rfl, rfl⟩, ⟨rfl, rfl, rfl⟩, ⟨rfl, rfl⟩, trivial⟩
  · exact ⟨⟨_, h8, rfl, rfl, ⟨rfl, rfl⟩, ⟨rfl, rfl⟩, trivial⟩, ⟨_, h0, rfl, rfl, ⟨rfl, rfl⟩, ⟨rfl, rfl⟩, trivial⟩, trivial⟩
  · exact c1.2
  · rintro e J g (⟨rfl, rfl, hy⟩ | ⟨rfl, rfl, hy⟩)
    · exact h.2.1 hy g
    · exact h.2.2 hy g
set_option maxRecDepth 100000 in
theorem some_hnd (G : Ctx) (hG : G.n = 0) (hrd : G.rd = none) : HndOk (mkE Try.prog tab_rWorn) G { hnd (mkE Try.prog tab_rWorn) 0 with loop := someH } (bodyOf Try.f76) :=
  ⟨fun b hb => by
    have e : loops (bodyOf Try.f76) = [.loop (bodyK Try.f76 0)] := by kernel_rfl
    rw [e, List.mem_singleton] at hb; subst hb
    exact loop_sound (mkE_ok tab_rWorn_ok) (by omega) (hnd_hndOk (mkE_ok tab_rWorn_ok) 0 G _ hrd) (fun _ => Nat.zero_le _) some_round (fun st K T h => someH_ok (bodyK Try.f76 0) st K T h), (hnd_hndOk (mkE_ok tab_rWorn_ok) 0 G (bodyOf Try.f76) hrd).call, (hnd_hndOk (mkE_ok tab_rWorn_ok) 0 G (bodyOf Try.f76) hrd).yield⟩
def SomeP (s : Sp) (lo hi : Int) (d : Sp) : Bool := decide (s.lo ≤ s.hi ∧ (-100000 ≤ s.lo ∧ s.lo ≤ 100000) ∧ (-100000 ≤ s.hi ∧ s.hi ≤ 100000) ∧ (-500 ≤ lo ∧ lo ≤ 0) ∧ (0 ≤ hi ∧ hi ≤ 500) ∧ 0 ≤ d.lo ∧ d.lo ≤ 100)
def rsomeF : Sp × Int × Int × Sp × Unit → Bool × AV := fun | (s, (lo, (hi, (d, _)))) => (SomeP s lo hi d, .bool false (perhapsB s.lo s.hi lo hi d.lo))
def rsomeC : FC := pureFC (pfOf rsomeF)
set_option maxRecDepth 100000 in
theorem rsome_t (s : Sp) (lo : Int) (hi : Int) (d : Sp) : execFn (mkE Try.prog tab_rWorn) { hnd (mkE Try.prog tab_rWorn) 0 with loop := someH } false Try.f76 (EncL.enc ((s, lo, hi, d, ()) : Sp × Int × Int × Sp × Unit)) [] 0 =
    Tree.need (decide (SomeS.mk s d lo hi (max s.lo lo)).pre) ((Tree.asm (SomeS.mk s d lo hi (max s.lo lo)).yes (Tree.all fun g => Tree.leaf (AV.bool true true) [])).both (Tree.asm
    (¬(SomeS.mk s d lo hi (max s.lo lo)).yes) (Tree.all fun g => Tree.leaf (AV.bool true false) []))) := by kernel_rfl
theorem rsome_s : FSound Try.prog 76 rsomeC := by
  refine fn_plain (mkE_ok tab_rWorn_ok) Try.func76 (by kernel_rfl) (by kernel_rfl) some_hnd ?_
  rintro ⟨s, lo, hi, d, ⟨⟩⟩ hp
  rw [rsome_t s lo hi d]
  simp only [rsomeF, Tree.den, AV.same, AV.sameL, and_true, true_and] at hp ⊢
  have hq := of_decide_eq_true hp
  obtain ⟨h0, h1, h2, h3, h4, h5⟩ := hq
  unfold SomeS.yes SomeS.good
  refine ⟨decide_eq_true ⟨h1, h2, h3, h4, h5, ?_, ?_⟩, ?_, ?_⟩
  · show -100000 ≤ max s.lo lo
    omega
  · show max s.lo lo ≤ 100001
    omega
  · rintro ⟨n, g1, g2, g3, g4⟩ _
    dsimp only at g1 g2 g3 g4
    exact (perhaps_some (n := n) (by omega) (by omega) (by omega) (by omega) (by omega) g3 g4).symm
  · intro hn _
    dsimp only at hn
    refine (perhaps_none (by omega) (by omega) (by omega) h0 fun n g1 g2 g3 => hn ⟨n, g1, g2, g3⟩).symm
def tab_rsome : Tab := addF tab_rWorn 76 rsomeC
theorem tab_rsome_ok : TabOk tab_rsome := tab_rWorn_ok.add rsome_s
theorem rfit_pre {p : Play} {t h : Edge} (h1 : p.ok = true) (h2 : t.ok = true) (h3 : h.ok = true) (ht : t.kind = 1) (hh : h.kind = 2) : (Couple.B ⟨p, t, h⟩ ∧ IntKind.i64.wrap (0 - p.slack) = -p.slack) ∧ (AllP (offBy p t h) (-p.slack) p.slack p.damp = true ∧ AllP (wideBy t h) 0 p.loose p.damp = true ∧ AllP (deepBy t h) 0 p.loose p.damp = true) ∧
    SomeP (offBy p t h) (-p.slack) p.slack p.damp = true ∧ SomeP (wideBy t h) 0 p.loose p.damp = true ∧ SomeP (deepBy t h) 0 p.loose p.damp = true := by
  have hB := couple_B h1 h2 h3 ht hh
  have hb := by_bd hB
  have h1' := hB.1
  unfold PlayB at h1'
  have s2 : (t.at_.lo ≤ t.at_.hi ∧ t.wide.lo ≤ t.wide.hi ∧ t.deep.lo ≤ t.deep.hi) := by
    unfold Edge.ok Sp.isIn at h2
    simp [ht] at h2; omega
  have s3 : (h.at_.lo ≤ h.at_.hi ∧ h.wide.lo ≤ h.wide.hi ∧ h.deep.lo ≤ h.deep.hi) := by
    unfold Edge.ok Sp.isIn at h3
    simp [hh] at h3; omega
  obtain ⟨o1, o2, o3, o4⟩ := hb
  simp only at h1'
  have n1 : (offBy p t h).lo ≤ (offBy p t h).hi := by simp only [offBy]; omega
  have n2 : (wideBy t h).lo ≤ (wideBy t h).hi := by simp only [wideBy]; omega
  have n3 : (deepBy t h).lo ≤ (deepBy t h).hi := by simp only [deepBy]; omega
  unfold AllP SomeP
  refine ⟨⟨hB, ?_⟩, ⟨decide_eq_true ?_, decide_eq_true ?_, decide_eq_true ?_⟩, decide_eq_true ?_, decide_eq_true ?_, decide_eq_true ?_⟩
  · rw [w64 (by omega) (by omega)]; omega
  all_goals omega
def rfitF : Play × Edge × Edge × Unit → Bool × AV := fun | (p, (a, (b, _))) => (okP p a b, .int false .i64 (fitsF p a b))
def rfitC : FC := pureFC (pfOf rfitF)
set_option maxRecDepth 100000 in
theorem rfit_t (p : Play) (a : Edge) (b : Edge) : execFn (mkE Try.prog tab_rsome) (hnd (mkE Try.prog tab_rsome) 4) false Try.f49 (EncL.enc ((p, a, b, ()) : Play × Edge × Edge × Unit)) [] 0 =
    Tree.br (a.kind == (1 : Int)) (Tree.br (b.kind == (2 : Int)) (Tree.need (decide (Couple.mk p a b).B) (Tree.need (AllP (offBy p a b) (IntKind.i64.wrap ((0 : Int) - p.slack)) p.slack
    p.damp) (Tree.br (alwaysB (offBy p a b).lo (offBy p a b).hi (IntKind.i64.wrap ((0 : Int) - p.slack)) p.slack p.damp.hi) (Tree.need (AllP (wideBy a b) (0 : Int) p.loose p.damp)
    (Tree.br (alwaysB (wideBy a b).lo (wideBy a b).hi (0 : Int) p.loose p.damp.hi) (Tree.need (AllP (deepBy a b) (0 : Int) p.loose p.damp) (Tree.br (alwaysB (deepBy a b).lo (deepBy a
    b).hi (0 : Int) p.loose p.damp.hi) (Tree.leaf (AV.int true IntKind.i64 (2 : Int)) []) (Tree.need (SomeP (offBy p a b) (IntKind.i64.wrap ((0 : Int) - p.slack)) p.slack p.damp)
    (Tree.br (perhapsB (offBy p a b).lo (offBy p a b).hi (IntKind.i64.wrap ((0 : Int) - p.slack)) p.slack p.damp.lo) (Tree.need (SomeP (wideBy a b) (0 : Int) p.loose p.damp) (Tree.br
    (perhapsB (wideBy a b).lo (wideBy a b).hi (0 : Int) p.loose p.damp.lo) (Tree.need (SomeP (deepBy a b) (0 : Int) p.loose p.damp) (Tree.br (perhapsB (deepBy a b).lo (deepBy a b).hi (0
    : Int) p.loose p.damp.lo) (Tree.leaf (AV.int true IntKind.i64 (1 : Int)) []) (Tree.leaf (AV.int true IntKind.i64 (0 : Int)) []))) (Tree.leaf (AV.int true IntKind.i64 (0 : Int))
    []))) (Tree.leaf (AV.int true IntKind.i64 (0 : Int)) []))))) (Tree.need (SomeP (offBy p a b) (IntKind.i64.wrap ((0 : Int) - p.slack)) p.slack p.damp) (Tree.br (perhapsB (offBy p a
    b).lo (offBy p a b).hi (IntKind.i64.wrap ((0 : Int) - p.slack)) p.slack p.damp.lo) (Tree.need (SomeP (wideBy a b) (0 : Int) p.loose p.damp) (Tree.br (perhapsB (wideBy a b).lo
    (wideBy a b).hi (0 : Int) p.loose p.damp.lo) (Tree.need (SomeP (deepBy a b) (0 : Int) p.loose p.damp) (Tree.br (perhapsB (deepBy a b).lo (deepBy a b).hi (0 : Int) p.loose p.damp.lo)
    (Tree.leaf (AV.int true IntKind.i64 (1 : Int)) []) (Tree.leaf (AV.int true IntKind.i64 (0 : Int)) []))) (Tree.leaf (AV.int true IntKind.i64 (0 : Int)) []))) (Tree.leaf (AV.int true
    IntKind.i64 (0 : Int)) []))))) (Tree.need (SomeP (offBy p a b) (IntKind.i64.wrap ((0 : Int) - p.slack)) p.slack p.damp) (Tree.br (perhapsB (offBy p a b).lo (offBy p a b).hi
    (IntKind.i64.wrap ((0 : Int) - p.slack)) p.slack p.damp.lo) (Tree.need (SomeP (wideBy a b) (0 : Int) p.loose p.damp) (Tree.br (perhapsB (wideBy a b).lo (wideBy a b).hi (0 : Int)
    p.loose p.damp.lo) (Tree.need (SomeP (deepBy a b) (0 : Int) p.loose p.damp) (Tree.br (perhapsB (deepBy a b).lo (deepBy a b).hi (0 : Int) p.loose p.damp.lo) (Tree.leaf (AV.int true
    IntKind.i64 (1 : Int)) []) (Tree.leaf (AV.int true IntKind.i64 (0 : Int)) []))) (Tree.leaf (AV.int true IntKind.i64 (0 : Int)) []))) (Tree.leaf (AV.int true IntKind.i64 (0 : Int))
    [])))))) (Tree.br (b.kind == (1 : Int)) (Tree.br (a.kind == (2 : Int)) (Tree.need (decide (Couple.mk p b a).B) (Tree.need (AllP (offBy p b a) (IntKind.i64.wrap ((0 : Int) -
    p.slack)) p.slack p.damp) (Tree.br (alwaysB (offBy p b a).lo (offBy p b a).hi (IntKind.i64.wrap ((0 : Int) - p.slack)) p.slack p.damp.hi) (Tree.need (AllP (wideBy b a) (0 : Int)
    p.loose p.damp) (Tree.br (alwaysB (wideBy b a).lo (wideBy b a).hi (0 : Int) p.loose p.damp.hi) (Tree.need (AllP (deepBy b a) (0 : Int) p.loose p.damp) (Tree.br (alwaysB (deepBy b
    a).lo (deepBy b a).hi (0 : Int) p.loose p.damp.hi) (Tree.leaf (AV.int true IntKind.i64 (2 : Int)) []) (Tree.need (SomeP (offBy p b a) (IntKind.i64.wrap ((0 : Int) - p.slack))
    p.slack p.damp) (Tree.br (perhapsB (offBy p b a).lo (offBy p b a).hi (IntKind.i64.wrap ((0 : Int) - p.slack)) p.slack p.damp.lo) (Tree.need (SomeP (wideBy b a) (0 : Int) p.loose
    p.damp) (Tree.br (perhapsB (wideBy b a).lo (wideBy b a).hi (0 : Int) p.loose p.damp.lo) (Tree.need (SomeP (deepBy b a) (0 : Int) p.loose p.damp) (Tree.br (perhapsB (deepBy b a).lo
    (deepBy b a).hi (0 : Int) p.loose p.damp.lo) (Tree.leaf (AV.int true IntKind.i64 (1 : Int)) []) (Tree.leaf (AV.int true IntKind.i64 (0 : Int)) []))) (Tree.leaf (AV.int true
    IntKind.i64 (0 : Int)) []))) (Tree.leaf (AV.int true IntKind.i64 (0 : Int)) []))))) (Tree.need (SomeP (offBy p b a) (IntKind.i64.wrap ((0 : Int) - p.slack)) p.slack p.damp) (Tree.br
    (perhapsB (offBy p b a).lo (offBy p b a).hi (IntKind.i64.wrap ((0 : Int) - p.slack)) p.slack p.damp.lo) (Tree.need (SomeP (wideBy b a) (0 : Int) p.loose p.damp) (Tree.br (perhapsB
    (wideBy b a).lo (wideBy b a).hi (0 : Int) p.loose p.damp.lo) (Tree.need (SomeP (deepBy b a) (0 : Int) p.loose p.damp) (Tree.br (perhapsB (deepBy b a).lo (deepBy b a).hi (0 : Int)
    p.loose p.damp.lo) (Tree.leaf (AV.int true IntKind.i64 (1 : Int)) []) (Tree.leaf (AV.int true IntKind.i64 (0 : Int)) []))) (Tree.leaf (AV.int true IntKind.i64 (0 : Int)) [])))
    (Tree.leaf (AV.int true IntKind.i64 (0 : Int)) []))))) (Tree.need (SomeP (offBy p b a) (IntKind.i64.wrap ((0 : Int) - p.slack)) p.slack p.damp) (Tree.br (perhapsB (offBy p b a).lo
    (offBy p b a).hi (IntKind.i64.wrap ((0 : Int) - p.slack)) p.slack p.damp.lo) (Tree.need (SomeP (wideBy b a) (0 : Int) p.loose p.damp) (Tree.br (perhapsB (wideBy b a).lo (wideBy b
    a).hi (0 : Int) p.loose p.damp.lo) (Tree.need (SomeP (deepBy b a) (0 : Int) p.loose p.damp) (Tree.br (perhapsB (deepBy b a).lo (deepBy b a).hi (0 : Int) p.loose p.damp.lo)
    (Tree.leaf (AV.int true IntKind.i64 (1 : Int)) []) (Tree.leaf (AV.int true IntKind.i64 (0 : Int)) []))) (Tree.leaf (AV.int true IntKind.i64 (0 : Int)) []))) (Tree.leaf (AV.int true
    IntKind.i64 (0 : Int)) [])))))) (Tree.leaf (AV.int true IntKind.i64 (0 : Int)) [])) (Tree.leaf (AV.int true IntKind.i64 (0 : Int)) []))) (Tree.br (b.kind == (1 : Int)) (Tree.br
    (a.kind == (2 : Int)) (Tree.need (decide (Couple.mk p b a).B) (Tree.need (AllP (offBy p b a) (IntKind.i64.wrap ((0 : Int) - p.slack)) p.slack p.damp) (Tree.br (alwaysB (offBy p b
    a).lo (offBy p b a).hi (IntKind.i64.wrap ((0 : Int) - p.slack)) p.slack p.damp.hi) (Tree.need (AllP (wideBy b a) (0 : Int) p.loose p.damp) (Tree.br (alwaysB (wideBy b a).lo (wideBy
    b a).hi (0 : Int) p.loose p.damp.hi) (Tree.need (AllP (deepBy b a) (0 : Int) p.loose p.damp) (Tree.br (alwaysB (deepBy b a).lo (deepBy b a).hi (0 : Int) p.loose p.damp.hi)
    (Tree.leaf (AV.int true IntKind.i64 (2 : Int)) []) (Tree.need (SomeP (offBy p b a) (IntKind.i64.wrap ((0 : Int) - p.slack)) p.slack p.damp) (Tree.br (perhapsB (offBy p b a).lo
    (offBy p b a).hi (IntKind.i64.wrap ((0 : Int) - p.slack)) p.slack p.damp.lo) (Tree.need (SomeP (wideBy b a) (0 : Int) p.loose p.damp) (Tree.br (perhapsB (wideBy b a).lo (wideBy b
    a).hi (0 : Int) p.loose p.damp.lo) (Tree.need (SomeP (deepBy b a) (0 : Int) p.loose p.damp) (Tree.br (perhapsB (deepBy b a).lo (deepBy b a).hi (0 : Int) p.loose p.damp.lo)
    (Tree.leaf (AV.int true IntKind.i64 (1 : Int)) []) (Tree.leaf (AV.int true IntKind.i64 (0 : Int)) []))) (Tree.leaf (AV.int true IntKind.i64 (0 : Int)) []))) (Tree.leaf (AV.int true
    IntKind.i64 (0 : Int)) []))))) (Tree.need (SomeP (offBy p b a) (IntKind.i64.wrap ((0 : Int) - p.slack)) p.slack p.damp) (Tree.br (perhapsB (offBy p b a).lo (offBy p b a).hi
    (IntKind.i64.wrap ((0 : Int) - p.slack)) p.slack p.damp.lo) (Tree.need (SomeP (wideBy b a) (0 : Int) p.loose p.damp) (Tree.br (perhapsB (wideBy b a).lo (wideBy b a).hi (0 : Int)
    p.loose p.damp.lo) (Tree.need (SomeP (deepBy b a) (0 : Int) p.loose p.damp) (Tree.br (perhapsB (deepBy b a).lo (deepBy b a).hi (0 : Int) p.loose p.damp.lo) (Tree.leaf (AV.int true
    IntKind.i64 (1 : Int)) []) (Tree.leaf (AV.int true IntKind.i64 (0 : Int)) []))) (Tree.leaf (AV.int true IntKind.i64 (0 : Int)) []))) (Tree.leaf (AV.int true IntKind.i64 (0 : Int))
    []))))) (Tree.need (SomeP (offBy p b a) (IntKind.i64.wrap ((0 : Int) - p.slack)) p.slack p.damp) (Tree.br (perhapsB (offBy p b a).lo (offBy p b a).hi (IntKind.i64.wrap ((0 : Int) -
    p.slack)) p.slack p.damp.lo) (Tree.need (SomeP (wideBy b a) (0 : Int) p.loose p.damp) (Tree.br (perhapsB (wideBy b a).lo (wideBy b a).hi (0 : Int) p.loose p.damp.lo) (Tree.need
    (SomeP (deepBy b a) (0 : Int) p.loose p.damp) (Tree.br (perhapsB (deepBy b a).lo (deepBy b a).hi (0 : Int) p.loose p.damp.lo) (Tree.leaf (AV.int true IntKind.i64 (1 : Int)) [])
    (Tree.leaf (AV.int true IntKind.i64 (0 : Int)) []))) (Tree.leaf (AV.int true IntKind.i64 (0 : Int)) []))) (Tree.leaf (AV.int true IntKind.i64 (0 : Int)) [])))))) (Tree.leaf (AV.int
    true IntKind.i64 (0 : Int)) [])) (Tree.leaf (AV.int true IntKind.i64 (0 : Int)) [])) := by kernel_rfl
theorem rfit_s : FSound Try.prog 49 rfitC := by
  refine plain_fn tab_rsome_ok 4 Try.func49 (by kernel_rfl) (by kernel_rfl) ?_
  rintro ⟨p, a, b, ⟨⟩⟩ hp
  rw [rfit_t p a b]
  simp only [rfitF, Tree.den, AV.same, AV.sameL, and_true, true_and] at hp ⊢
  unfold okP at hp
  simp only [Bool.and_eq_true] at hp
  obtain ⟨h1, h2, h3⟩ := hp
  unfold fitsF
  by_cases c1 : a.kind = 1 ∧ b.kind = 2
  · obtain ⟨ha, hb⟩ := c1
    obtain ⟨⟨q1, q2⟩, ⟨q3, q4, q5⟩, q6, q7, q8⟩ := rfit_pre h1 h2 h3 ha hb
    rw [if_neg (by omega), if_pos ⟨ha, hb⟩, verd_eq]
    simp only [ha, hb, q1, q2, q3, q4, q5, q6, q7, q8, alw, may, beq_self_eq_true, decide_true]
    generalize alwaysB (offBy p a b).lo (offBy p a b).hi (-p.slack) p.slack p.damp.hi = b1
    generalize alwaysB (wideBy a b).lo (wideBy a b).hi 0 p.loose p.damp.hi = b2
    generalize alwaysB (deepBy a b).lo (deepBy a b).hi 0 p.loose p.damp.hi = b3
    generalize perhapsB (offBy p a b).lo (offBy p a b).hi (-p.slack) p.slack p.damp.lo = b4
    generalize perhapsB (wideBy a b).lo (wideBy a b).hi 0 p.loose p.damp.lo = b5
    generalize perhapsB (deepBy a b).lo (deepBy a b).hi 0 p.loose p.damp.lo = b6
    cases b1 <;> cases b2 <;> cases b3 <;> cases b4 <;> cases b5 <;> cases b6 <;> simp
  by_cases c2 : b.kind = 1 ∧ a.kind = 2
  · obtain ⟨hb, ha⟩ := c2
    obtain ⟨⟨q1, q2⟩, ⟨q3, q4, q5⟩, q6, q7, q8⟩ := rfit_pre h1 h3 h2 hb ha
    rw [if_pos ha, if_pos hb, verd_eq]
    simp only [ha, hb, q1, q2, q3, q4, q5, q6, q7, q8, alw, may, beq_self_eq_true, decide_true]
    generalize alwaysB (offBy p b a).lo (offBy p b a).hi (-p.slack) p.slack p.damp.hi = b1
    generalize alwaysB (wideBy b a).lo (wideBy b a).hi 0 p.loose p.damp.hi = b2
    generalize alwaysB (deepBy b a).lo (deepBy b a).hi 0 p.loose p.damp.hi = b3
    generalize perhapsB (offBy p b a).lo (offBy p b a).hi (-p.slack) p.slack p.damp.lo = b4
    generalize perhapsB (wideBy b a).lo (wideBy b a).hi 0 p.loose p.damp.lo = b5
    generalize perhapsB (deepBy b a).lo (deepBy b a).hi 0 p.loose p.damp.lo = b6
    cases b1 <;> cases b2 <;> cases b3 <;> cases b4 <;> cases b5 <;> cases b6 <;> simp
  have e0 : (if a.kind = 2 then (if b.kind = 1 then verd p b a else 0) else if a.kind = 1 ∧ b.kind = 2 then verd p a b else 0) = 0 := by
    split
    · rename_i ha; rw [if_neg (fun h => c2 ⟨h, ha⟩)]
    · rfl
  rw [e0]
  simp only [beq_iff_eq, beq_eq_false_iff_ne]
  refine ⟨fun ha => ⟨fun hb => absurd ⟨ha, hb⟩ c1, fun _ => ⟨fun hb => ⟨fun h => absurd ⟨hb, h⟩ c2, fun _ => trivial⟩, fun _ => trivial⟩⟩, fun _ => ⟨fun hb => ⟨fun h => absurd ⟨hb, h⟩ c2, fun _ => trivial⟩, fun _ => trivial⟩⟩
def tab_rfit : Tab := addF tab_rsome 49 rfitC
theorem tab_rfit_ok : TabOk tab_rfit := tab_rsome_ok.add rfit_s
def rFitF : Play × Edge × Edge × Unit → Bool × AV := fun | (p, (a, (b, _))) => (true, .tup [.int false .i64 (FitF p a b).1, .int false .i64 (FitF p a b).2])
def rFitC : FC := pureFC (pfOf rFitF)
set_option maxRecDepth 100000 in
theorem rFit_t (p : Play) (a : Edge) (b : Edge) : execFn (mkE Try.prog tab_rfit) (hnd (mkE Try.prog tab_rfit) 4) false Try.f16 (EncL.enc ((p, a, b, ()) : Play × Edge × Edge × Unit)) [] 0 =
    Tree.need true (Tree.br (!p.ok) (Tree.leaf (AV.tup [AV.int true IntKind.i64 (0 : Int), AV.int true IntKind.i64 (1 : Int)]) []) (Tree.need true (Tree.br (!a.ok) (Tree.leaf (AV.tup
    [AV.int true IntKind.i64 (0 : Int), AV.int true IntKind.i64 (1 : Int)]) []) (Tree.need true (Tree.br (!b.ok) (Tree.leaf (AV.tup [AV.int true IntKind.i64 (0 : Int), AV.int true
    IntKind.i64 (1 : Int)]) []) (Tree.need (okP p a b) (Tree.leaf (AV.tup [AV.int false IntKind.i64 (fitsF p a b), AV.int true IntKind.i64 (0 : Int)]) []))))))) := by kernel_rfl
theorem rFit_s : FSound Try.prog 16 rFitC := by
  refine plain_fn tab_rfit_ok 4 Try.func16 (by kernel_rfl) (by kernel_rfl) ?_
  rintro ⟨p, a, b, ⟨⟩⟩ hp
  rw [rFit_t p a b]
  simp only [rFitF, Tree.den, AV.same, AV.sameL, and_true, true_and] at hp ⊢
  unfold FitF okP
  cases p.ok <;> cases a.ok <;> cases b.ok <;> simp
def tab_rFit : Tab := addF tab_rfit 16 rFitC
theorem tab_rFit_ok : TabOk tab_rFit := tab_rfit_ok.add rFit_s
end Go.Proofs.Ytdaanchagjamfaa
