/- The reference: its functions without loops. -/
import Derived.Test.YtbpffdkemeoajaaNtw
import Derived.Test.YtbpffdkemeoajaaNtp
namespace Go.Proofs.Ytbpffdkemeoajaa
open Go.SX
structure Differ where
  off : Sp
  wide : Sp
  deep : Sp
instance : Enc Differ where
  enc x := .agg [.int false .i64 x.off.lo, .int false .i64 x.off.hi, .int false .i64 x.wide.lo, .int false .i64 x.wide.hi, .int false .i64 x.deep.lo, .int false .i64 x.deep.hi]
  dec | .agg [.int _ .i64 a0, .int _ .i64 a1, .int _ .i64 a2, .int _ .i64 a3, .int _ .i64 a4, .int _ .i64 a5] => some ⟨⟨a0, a1⟩, ⟨a2, a3⟩, ⟨a4, a5⟩⟩ | _ => none
  ok v x h := by
    split at h <;> (try (cases h; done))
    simp only [Option.some.injEq] at h; subst h; exact ⟨fun _ => rfl, rfl⟩
theorem by_bd {p : Play} {t h : Edge} (hB : Couple.B ⟨p, t, h⟩) : ((-100000 ≤ (offBy p t h).lo ∧ (offBy p t h).lo ≤ 100000) ∧ -100000 ≤ (offBy p t h).hi ∧ (offBy p t h).hi ≤ 100000) ∧ ((-100000 ≤ (wideBy t h).lo ∧ (wideBy t h).lo ≤ 100000) ∧ -100000 ≤ (wideBy t h).hi ∧ (wideBy t h).hi ≤ 100000) ∧
    ((-100000 ≤ (deepBy t h).lo ∧ (deepBy t h).lo ≤ 100000) ∧ -100000 ≤ (deepBy t h).hi ∧ (deepBy t h).hi ≤ 100000) ∧ (0 ≤ p.damp.lo ∧ p.damp.lo ≤ 100) ∧ 0 ≤ p.damp.hi ∧ p.damp.hi ≤ 100 := by
  obtain ⟨h1, h2, h3⟩ := hB
  unfold PlayB at h1; unfold SideB at h2 h3; simp only [offBy, wideBy, deepBy] at *
  omega
theorem by_off {p : Play} {t h : Edge} (h1 : p.ok = true) (h2 : t.ok = true) (h3 : h.ok = true) (ht : t.kind = 1) (hh : h.kind = 2) : (-100000 ≤ (offBy p t h).lo ∧ (offBy p t h).lo ≤ 100000) ∧ (-100000 ≤ (offBy p t h).hi ∧ (offBy p t h).hi ≤ 100000) ∧ (0 ≤ p.damp.lo ∧ p.damp.lo ≤ 100) ∧ 0 ≤ p.damp.hi ∧ p.damp.hi ≤ 100 := by
  have := by_bd (couple_B h1 h2 h3 ht hh); exact ⟨this.1.1, this.1.2, this.2.2.2⟩
theorem by_wide {p : Play} {t h : Edge} (h1 : p.ok = true) (h2 : t.ok = true) (h3 : h.ok = true) (ht : t.kind = 1) (hh : h.kind = 2) : (-100000 ≤ (wideBy t h).lo ∧ (wideBy t h).lo ≤ 100000) ∧ (-100000 ≤ (wideBy t h).hi ∧ (wideBy t h).hi ≤ 100000) ∧ (0 ≤ p.damp.lo ∧ p.damp.lo ≤ 100) ∧ 0 ≤ p.damp.hi ∧ p.damp.hi ≤ 100 := by
  have := by_bd (couple_B h1 h2 h3 ht hh); exact ⟨this.2.1.1, this.2.1.2, this.2.2.2⟩
theorem by_deep {p : Play} {t h : Edge} (h1 : p.ok = true) (h2 : t.ok = true) (h3 : h.ok = true) (ht : t.kind = 1) (hh : h.kind = 2) : (-100000 ≤ (deepBy t h).lo ∧ (deepBy t h).lo ≤ 100000) ∧ (-100000 ≤ (deepBy t h).hi ∧ (deepBy t h).hi ≤ 100000) ∧ (0 ≤ p.damp.lo ∧ p.damp.lo ≤ 100) ∧ 0 ≤ p.damp.hi ∧ p.damp.hi ≤ 100 := by
  have := by_bd (couple_B h1 h2 h3 ht hh); exact ⟨this.2.2.1.1, this.2.2.1.2, this.2.2.2⟩
/-- What 'all' and 'some' are asked of. -/
def AllP (s : Sp) (lo hi : Int) (d : Sp) : Bool := decide ((-100000 ≤ s.lo ∧ s.lo ≤ 100000) ∧ (-100000 ≤ s.hi ∧ s.hi ≤ 100000) ∧ (-500 ≤ lo ∧ lo ≤ 500) ∧ (-500 ≤ hi ∧ hi ≤ 500) ∧ 0 ≤ d.hi ∧ d.hi ≤ 100)
def rinF : Int × Int × Int × Unit → Bool × AV := fun | (n, (a, (b, _))) => (true, .bool false (within n a b))
def rinC : FC := pureFC (pfOf rinF)
set_option maxRecDepth 100000 in
theorem rin_t (n : Int) (a : Int) (b : Int) : execFn (mkE Try.prog tab_sts) (hnd (mkE Try.prog tab_sts) 0) false Try.f79 (EncL.enc ((n, a, b, ()) : Int × Int × Int × Unit)) [] 0 =
    Tree.br (decide (a ≤ n)) (Tree.leaf (AV.bool false (decide (n ≤ b))) ([])) (Tree.leaf (AV.bool true false) ([])) := by kernel_rfl
theorem rin_s : FSound Try.prog 79 rinC := by
  refine plain_fn tab_sts_ok 0 Try.func79 (by kernel_rfl) (by kernel_rfl) ?_
  rintro ⟨n, a, b, ⟨⟩⟩ hp
  rw [rin_t n a b]
  simp only [rinF, Tree.den, AV.same, AV.sameL, and_true, true_and] at hp ⊢
  (repeat' (first | (refine And.intro ?_ ?_) | (intro _))) <;> simp_all [within] <;> omega
def tab_rin : Tab := addF tab_sts 79 rinC
theorem tab_rin_ok : TabOk tab_rin := tab_sts_ok.add rin_s
def rspanF : Sp × Int × Int × Unit → Bool × AV := fun | (s, (a, (b, _))) => (true, .bool false (s.isIn a b))
def rspanC : FC := pureFC (pfOf rspanF)
set_option maxRecDepth 100000 in
theorem rspan_t (s : Sp) (a : Int) (b : Int) : execFn (mkE Try.prog tab_rin) (hnd (mkE Try.prog tab_rin) 0) false Try.f80 (EncL.enc ((s, a, b, ()) : Sp × Int × Int × Unit)) [] 0 =
    Tree.br (decide (a ≤ s.lo)) (Tree.br (decide (s.lo ≤ s.hi)) (Tree.leaf (AV.bool false (decide (s.hi ≤ b))) ([])) (Tree.leaf (AV.bool true false) ([]))) (Tree.leaf (AV.bool true
    false) ([])) := by kernel_rfl
theorem rspan_s : FSound Try.prog 80 rspanC := by
  refine plain_fn tab_rin_ok 0 Try.func80 (by kernel_rfl) (by kernel_rfl) ?_
  rintro ⟨s, a, b, ⟨⟩⟩ hp
  rw [rspan_t s a b]
  simp only [rspanF, Tree.den, AV.same, AV.sameL, and_true, true_and] at hp ⊢
  (repeat' (first | (refine And.intro ?_ ?_) | (intro _))) <;> simp_all [Sp.isIn] <;> omega
def tab_rspan : Tab := addF tab_rin 80 rspanC
theorem tab_rspan_ok : TabOk tab_rspan := tab_rin_ok.add rspan_s
def rSideF : Edge × Unit → Bool × AV := fun | (a, _) => (true, .bool false a.ok)
def rSideC : FC := pureFC (pfOf rSideF)
set_option maxRecDepth 100000 in
theorem rSide_t (a : Edge) : execFn (mkE Try.prog tab_rspan) (hnd (mkE Try.prog tab_rspan) 0) false Try.f57 (EncL.enc ((a, ()) : Edge × Unit)) [] 0 =
    Tree.br (a.kind == (0 : Int)) (Tree.leaf (AV.bool true true) ([])) (Tree.need (true) (Tree.br (within a.kind (1 : Int) (2 : Int)) (Tree.need (true) (Tree.br (a.at_.isIn (0 : Int)
    (10000 : Int)) (Tree.need (true) (Tree.br (a.wide.isIn (1 : Int) (3000 : Int)) (Tree.need (true) (Tree.leaf (AV.bool false (a.deep.isIn (1 : Int) (3000 : Int))) ([]))) (Tree.leaf
    (AV.bool true false) ([])))) (Tree.leaf (AV.bool true false) ([])))) (Tree.leaf (AV.bool true false) ([])))) := by kernel_rfl
theorem rSide_s : FSound Try.prog 57 rSideC := by
  refine plain_fn tab_rspan_ok 0 Try.func57 (by kernel_rfl) (by kernel_rfl) ?_
  rintro ⟨a, ⟨⟩⟩ hp
  rw [rSide_t a]
  simp only [rSideF, Tree.den, AV.same, AV.sameL, and_true, true_and] at hp ⊢
  have hw : within a.kind 1 2 = ((a.kind == 1) || (a.kind == 2)) := by
    unfold within
    rw [Bool.eq_iff_iff]
    simp only [decide_eq_true_eq, Bool.or_eq_true, beq_iff_eq]; omega
  simp only [hw]
  unfold Edge.ok
  cases (a.kind == 0) <;> cases ((a.kind == 1) || (a.kind == 2)) <;> cases a.at_.isIn 0 10000 <;> cases a.wide.isIn 1 3000 <;> simp
def tab_rSide : Tab := addF tab_rspan 57 rSideC
theorem tab_rSide_ok : TabOk tab_rSide := tab_rspan_ok.add rSide_s
def rPlayF : Play × Unit → Bool × AV := fun | (p, _) => (true, .bool false p.ok)
def rPlayC : FC := pureFC (pfOf rPlayF)
set_option maxRecDepth 100000 in
theorem rPlay_t (p : Play) : execFn (mkE Try.prog tab_rSide) (hnd (mkE Try.prog tab_rSide) 0) false Try.f67 (EncL.enc ((p, ()) : Play × Unit)) [] 0 =
    Tree.need (true) (Tree.br (within p.length (1 : Int) (10000 : Int)) (Tree.need (true) (Tree.br (within p.slack (0 : Int) (500 : Int)) (Tree.need (true) (Tree.br (within p.loose (0 :
    Int) (500 : Int)) (Tree.need (true) (Tree.leaf (AV.bool false (p.damp.isIn (0 : Int) (100 : Int))) ([]))) (Tree.leaf (AV.bool true false) ([])))) (Tree.leaf (AV.bool true false)
    ([])))) (Tree.leaf (AV.bool true false) ([]))) := by kernel_rfl
theorem rPlay_s : FSound Try.prog 67 rPlayC := by
  refine plain_fn tab_rSide_ok 0 Try.func67 (by kernel_rfl) (by kernel_rfl) ?_
  rintro ⟨p, ⟨⟩⟩ hp
  rw [rPlay_t p]
  simp only [rPlayF, Tree.den, AV.same, AV.sameL, and_true, true_and] at hp ⊢
  (repeat' (first | (refine And.intro ?_ ?_) | (intro _))) <;> simp_all [Play.ok]
def tab_rPlay : Tab := addF tab_rSide 67 rPlayC
theorem tab_rPlay_ok : TabOk tab_rPlay := tab_rSide_ok.add rPlay_s
def rDifferF : Play × Edge × Edge × Unit → Bool × AV := fun | (p, (t, (h, _))) => (decide (Couple.B ⟨p, t, h⟩), Enc.enc (⟨offBy p t h, wideBy t h, deepBy t h⟩ : Differ))
def rDifferC : FC := pureFC (pfOf rDifferF)
set_option maxRecDepth 100000 in
theorem rDiffer_t (p : Play) (t : Edge) (h : Edge) : execFn (mkE Try.prog tab_rPlay) (hnd (mkE Try.prog tab_rPlay) 0) false Try.f104 (EncL.enc ((p, t, h, ()) : Play × Edge × Edge × Unit)) [] 0 =
    Tree.leaf (AV.agg [AV.int false IntKind.i64 (IntKind.i64.wrap (IntKind.i64.wrap (t.at_.lo + h.at_.lo) - p.length)), AV.int false IntKind.i64 (IntKind.i64.wrap (IntKind.i64.wrap
    (t.at_.hi + h.at_.hi) - p.length)), AV.int false IntKind.i64 (IntKind.i64.wrap (h.wide.lo - t.wide.hi)), AV.int false IntKind.i64 (IntKind.i64.wrap (h.wide.hi - t.wide.lo)), AV.int
    false IntKind.i64 (IntKind.i64.wrap (h.deep.lo - t.deep.hi)), AV.int false IntKind.i64 (IntKind.i64.wrap (h.deep.hi - t.deep.lo))]) ([]) := by kernel_rfl
theorem rDiffer_s : FSound Try.prog 104 rDifferC := by
  refine plain_fn tab_rPlay_ok 0 Try.func104 (by kernel_rfl) (by kernel_rfl) ?_
  rintro ⟨p, t, h, ⟨⟩⟩ hp
  rw [rDiffer_t p t h]
  simp only [rDifferF, Tree.den, AV.same, AV.sameL, and_true, true_and] at hp ⊢
  have hq := of_decide_eq_true hp
  obtain ⟨h1, h2, h3⟩ := hq
  unfold PlayB at h1; unfold SideB at h2 h3; simp only at h1 h2 h3
  simp only [Enc.enc, AV.same, AV.sameL, true_and, and_true, offBy, wideBy, deepBy]
  rw [w64 (n := t.at_.lo + h.at_.lo) (by omega) (by omega), w64 (n := t.at_.hi + h.at_.hi) (by omega) (by omega)]
  rw [w64 (by omega) (by omega), w64 (by omega) (by omega), w64 (by omega) (by omega), w64 (by omega) (by omega), w64 (by omega) (by omega), w64 (by omega) (by omega)]
  refine ⟨?_, ?_, ?_, ?_, ?_, ?_⟩ <;> omega
def tab_rDiffer : Tab := addF tab_rPlay 104 rDifferC
theorem tab_rDiffer_ok : TabOk tab_rDiffer := tab_rPlay_ok.add rDiffer_s
def rallF : Sp × Int × Int × Sp × Unit → Bool × AV := fun | (s, (lo, (hi, (d, _)))) => (AllP s lo hi d, .bool false (alwaysB s.lo s.hi lo hi d.hi))
def rallC : FC := pureFC (pfOf rallF)
set_option maxRecDepth 100000 in
theorem rall_t (s : Sp) (lo : Int) (hi : Int) (d : Sp) : execFn (mkE Try.prog tab_rDiffer) (hnd (mkE Try.prog tab_rDiffer) 0) false Try.f105 (EncL.enc ((s, lo, hi, d, ()) : Sp × Int × Int × Sp × Unit)) [] 0 =
    Tree.br (decide (IntKind.i64.wrap (s.lo * IntKind.i64.wrap ((1000 : Int) + d.hi)) ≥ IntKind.i64.wrap ((1000 : Int) * lo))) (Tree.leaf (AV.bool false (decide (IntKind.i64.wrap (s.hi
    * IntKind.i64.wrap ((1000 : Int) + d.hi)) ≤ IntKind.i64.wrap ((1000 : Int) * hi)))) ([])) (Tree.leaf (AV.bool true false) ([])) := by kernel_rfl
theorem rall_s : FSound Try.prog 105 rallC := by
  refine plain_fn tab_rDiffer_ok 0 Try.func105 (by kernel_rfl) (by kernel_rfl) ?_
  rintro ⟨s, lo, hi, d, ⟨⟩⟩ hp
  rw [rall_t s lo hi d]
  simp only [rallF, Tree.den, AV.same, AV.sameL, and_true, true_and] at hp ⊢
  have hq := of_decide_eq_true hp
  obtain ⟨h1, h2, h3, h4, h5⟩ := hq
  exact always_w h1 h2 h3 h4 h5
def tab_rall : Tab := addF tab_rDiffer 105 rallC
theorem tab_rall_ok : TabOk tab_rall := tab_rDiffer_ok.add rall_s
end Go.Proofs.Ytbpffdkemeoajaa
/- The reference's loop over a span: some. -/
namespace Go.Proofs.Ytbpffdkemeoajaa
open Go.SX
structure SomeS where
  s : Sp
  d : Sp
  lo : Int
  hi : Int
  n : Int
def SomeS.I (x : SomeS) : JSt := ⟨40, [(1, .int false .i64 x.lo), (2, .int false .i64 x.hi), (4, .ptr 0 0 0), (7, .ptr 8 0 0), (9, .int false .i64 x.n)], [(8, .cells 0 23 (Enc.enc x.d).cells), (0, .cells 0 23 (Enc.enc x.s).cells)], 56⟩
def SomeS.pre (x : SomeS) : Prop := (-100000 ≤ x.s.lo ∧ x.s.lo ≤ 100000) ∧ (-100000 ≤ x.s.hi ∧ x.s.hi ≤ 100000) ∧ (-500 ≤ x.lo ∧ x.lo ≤ 0) ∧ (0 ≤ x.hi ∧ x.hi ≤ 500) ∧ (0 ≤ x.d.lo ∧ x.d.lo ≤ 100) ∧ -100000 ≤ x.n ∧ x.n ≤ 100001
def SomeS.good (x : SomeS) (n : Int) : Prop := n ≤ min x.s.hi x.hi ∧ 1000 * x.lo ≤ n * (1000 + x.d.lo) ∧ n * (1000 + x.d.lo) ≤ 1000 * x.hi
def SomeS.yes (x : SomeS) : Prop := ∃ n, x.n ≤ n ∧ x.good n
def someR (x : SomeS) (e : Ex) (J : JSt) : Prop := (e = .ret ∧ J = ⟨40, [(8, .bool true true)], [], 0⟩ ∧ x.yes) ∨ (e = .exit 0 ∧ J = ⟨40, [], [], 0⟩ ∧ ¬ x.yes)
def someLs : Ex → List Nat
  | .normal => [1, 2, 4, 7, 9]
  | .ret => [8]
  | .exit _ => []
def SomeS.mu (x : SomeS) : Nat := (min x.s.hi x.hi + 1 - x.n).toNat
def SomeS.next (x : SomeS) : SomeS := { x with n := x.n + 1 }
def someGo (x : SomeS) : Tree := .leaf (.tup [.nilp, .ptr 40 0 0, .int false .i64 x.lo, .int false .i64 x.hi, .ptr 0 0 0, .ptr 8 0 0, .int false .i64 (IntKind.i64.wrap (x.n + 1))]) [(8, .cells 0 23 (Enc.enc x.d).cells), (0, .cells 0 23 (Enc.enc x.s).cells)]
set_option maxRecDepth 100000 in
theorem some_t (x : SomeS) (g : Nat → Value) : exec (mkE Try.prog tab_rall) (hnd (mkE Try.prog tab_rall) 0) (bodyK Try.f106 0) (JSt.inst x.I g) (leafK someLs) =
   .br (decide (x.n ≤ min x.s.hi x.hi))
     (.br (decide (IntKind.i64.wrap (x.n * IntKind.i64.wrap (1000 + x.d.lo)) ≥ IntKind.i64.wrap (1000 * x.lo)))
       (.br (decide (IntKind.i64.wrap (x.n * IntKind.i64.wrap (1000 + x.d.lo)) ≤ IntKind.i64.wrap (1000 * x.hi)))
         (.leaf (.tup [.nili, .ptr 40 0 0, .bool true true]) [(8, .cells 0 23 (Enc.enc x.d).cells), (0, .cells 0 23 (Enc.enc x.s).cells)])
         (someGo x)) (someGo x))
     (.leaf (.tup [.ptr 0 0 0, .ptr 40 0 0]) [(8, .cells 0 23 (Enc.enc x.d).cells), (0, .cells 0 23 (Enc.enc x.s).cells)]) := by kernel_rfl
theorem some_wraps {x : SomeS} (h : x.pre) : IntKind.i64.wrap (x.n * IntKind.i64.wrap (1000 + x.d.lo)) = x.n * (1000 + x.d.lo) ∧ IntKind.i64.wrap (1000 * x.lo) = 1000 * x.lo ∧ IntKind.i64.wrap (1000 * x.hi) = 1000 * x.hi ∧ IntKind.i64.wrap (x.n + 1) = x.n + 1 := by
  obtain ⟨h1, h2, h3, h4, h5, h6, h7⟩ := h
  have e : IntKind.i64.wrap (1000 + x.d.lo) = 1000 + x.d.lo := w64 (by omega) (by omega)
  have m := Int.mul_le_mul_of_nonneg_right h6 (show 0 ≤ 1000 + x.d.lo by omega)
  have m' := Int.mul_le_mul_of_nonneg_right h7 (show 0 ≤ 1000 + x.d.lo by omega)
  rw [e]
  exact ⟨w64 (by omega) (by omega), w64 (by omega) (by omega), w64 (by omega) (by omega), w64 (by omega) (by omega)⟩
theorem some_next {x : SomeS} (hp : x.pre) (hn : x.n ≤ min x.s.hi x.hi) (hb : ¬ (1000 * x.lo ≤ x.n * (1000 + x.d.lo) ∧ x.n * (1000 + x.d.lo) ≤ 1000 * x.hi)) : (someGo x).den (LoopLeaf (Goes SomeS.I SomeS.pre SomeS.mu someR 0 someLs x) (Go.SX.Leaves someR 0 someLs x)) := by
  unfold someGo
  rw [(some_wraps hp).2.2.2]
  refine ⟨x.next, fun i => i, ?_, ?_, ?_, ?_⟩
  · obtain ⟨h1, h2, h3, h4, h5, h6, h7⟩ := hp
    refine ⟨h1, h2, h3, h4, h5, ?_, ?_⟩ <;> simp only [SomeS.next] <;> omega
  · simp only [SomeS.mu, SomeS.next]; omega
  · intro e J hR
    have hy : x.next.yes ↔ x.yes := by
      constructor
      · rintro ⟨n, h1, h2⟩; simp only [SomeS.next] at h1; exact ⟨n, by omega, h2⟩
      · rintro ⟨n, h1, h2⟩
        rcases (show n = x.n ∨ x.n + 1 ≤ n by omega) with rfl | h3
        · exact absurd h2.2 hb
        · exact ⟨n, h3, h2⟩
    unfold someR at *
    rw [hy] at hR; exact hR
  · refine SubV.same rfl rfl ?_ ?_ rfl rfl
    · exact ⟨⟨rfl, rfl⟩, ⟨rfl, rfl⟩, ⟨rfl, rfl, rfl⟩, ⟨rfl, rfl, rfl⟩, ⟨rfl, rfl⟩, trivial⟩
    · exact ⟨⟨_, rfl, rfl, rfl, ⟨rfl, rfl⟩, ⟨rfl, rfl⟩, trivial⟩, ⟨_, rfl, rfl, rfl, ⟨rfl, rfl⟩, ⟨rfl, rfl⟩, trivial⟩, trivial⟩
theorem some_round : RoundOk SomeS.I SomeS.pre SomeS.mu someR 0 someLs (mkE Try.prog tab_rall) (hnd (mkE Try.prog tab_rall) 0) (bodyK Try.f106 0) := by
  intro x g hp
  rw [some_t]
  obtain ⟨e1, e2, e3, _⟩ := some_wraps hp
  simp only [Tree.den, e1, e2, e3, decide_eq_true_eq, decide_eq_false_iff_not]
  refine ⟨fun hn => ⟨fun h1 => ⟨fun h2 => ?_, fun h2 => ?_⟩, fun h1 => ?_⟩, fun hn => ?_⟩
  · exact ⟨⟨40, [(8, .bool true true)], [], 0⟩, fun i => i, .inl ⟨rfl, rfl, x.n, Int.le_refl _, hn, h1, h2⟩, SubV.same rfl rfl ⟨rfl, trivial⟩ trivial rfl rfl⟩
  · exact some_next hp hn (fun h => h2 h.2)
  · exact some_next hp hn (fun h => h1 h.1)
  · refine ⟨⟨40, [], [], 0⟩, fun i => i, .inr ⟨rfl, rfl, ?_⟩, SubV.same rfl rfl trivial trivial rfl rfl⟩
    rintro ⟨n, h1, h2, _⟩; omega
instance (x : SomeS) : Decidable x.pre := by unfold SomeS.pre; infer_instance
def someH : Code → St → (Ex → St → Tree) → Tree := fun _ st K => match st.tm.length == 40 && noDfr st.hp, getT st.tm 1, getT st.tm 2, getT st.tm 4, getT st.tm 7, getT st.tm 9, Go.SX.look st.hp 8, Go.SX.look st.hp 0 with
  | true, .int _ .i64 lo, .int _ .i64 hi, .ptr 0 0 0, .ptr 8 0 0, .int _ .i64 n, some (.cells 0 23 [.int _ .i64 dlo, .int _ .i64 dhi]), some (.cells 0 23 [.int _ .i64 slo, .int _ .i64 shi]) =>
    .need (decide (SomeS.pre ⟨⟨slo, shi⟩, ⟨dlo, dhi⟩, lo, hi, n⟩)) (.both (.asm (SomeS.yes ⟨⟨slo, shi⟩, ⟨dlo, dhi⟩, lo, hi, n⟩) (.all fun g => K .ret (JSt.inst ⟨40, [(8, .bool true true)], [], 0⟩ g)))
      (.asm (¬ SomeS.yes ⟨⟨slo, shi⟩, ⟨dlo, dhi⟩, lo, hi, n⟩) (.all fun g => K (.exit 0) (JSt.inst ⟨40, [], [], 0⟩ g))))
  | _, _, _, _, _, _, _, _ => .fail "some"
theorem someH_ok (body : Code) (st : St) (K : Ex → St → Tree) (T : AV → List (Nat × Blk) → Prop) (h : (someH body st K).den T) : ∃ s q ls', SomeS.pre s ∧ SubV 0 q ls' st.tm.length (ls'.map (getT st.tm)) st.hp (SomeS.I s) ∧ ∀ e J g, someR s e J → (K e (J.inst g)).den T := by
  unfold someH at h
  split at h <;> (try (exact h.elim))
  rename_i k1 lo k2 hi k9 n kd dlo ke dhi ks slo kt shi c1 e1 e2 e4 e7 e9 h8 h0
  simp only [Tree.den, decide_eq_true_eq] at h
  rw [Bool.and_eq_true] at c1
  refine ⟨⟨⟨slo, shi⟩, ⟨dlo, dhi⟩, lo, hi, n⟩, fun i => i, [1, 2, 4, 7, 9], h.1, SubV.same rfl ?_ ?_ ?_ rfl rfl ?_, ?_⟩
  · exact beq_iff_eq.1 c1.1
  · simp only [List.map_cons, List.map_nil, *]; exact ⟨⟨rfl, rfl⟩, ⟨rfl, rfl⟩, ⟨rfl, rfl, rfl⟩, ⟨rfl, rfl, rfl⟩, ⟨rfl, rfl⟩, trivial⟩
  · exact ⟨⟨_, h8, rfl, rfl, ⟨rfl, rfl⟩, ⟨rfl, rfl⟩, trivial⟩, ⟨_, h0, rfl, rfl, ⟨rfl, rfl⟩, ⟨rfl, rfl⟩, trivial⟩, trivial⟩
  · exact c1.2
  · rintro e J g (⟨rfl, rfl, hy⟩ | ⟨rfl, rfl, hy⟩)
    · exact h.2.1 hy g
    · exact h.2.2 hy g
set_option maxRecDepth 100000 in
theorem some_hnd (G : Ctx) (hG : G.n = 0) (hrd : G.rd = none) : HndOk (mkE Try.prog tab_rall) G { hnd (mkE Try.prog tab_rall) 0 with loop := someH } (bodyOf Try.f106) :=
  ⟨fun b hb => by
    have e : loops (bodyOf Try.f106) = [.loop (bodyK Try.f106 0)] := by kernel_rfl
    rw [e, List.mem_singleton] at hb; subst hb
    exact loop_sound (mkE_ok tab_rall_ok) (by omega) (hnd_hndOk (mkE_ok tab_rall_ok) 0 G _ hrd) (fun _ => Nat.zero_le _) some_round (fun st K T h => someH_ok (bodyK Try.f106 0) st K T h), (hnd_hndOk (mkE_ok tab_rall_ok) 0 G (bodyOf Try.f106) hrd).call, (hnd_hndOk (mkE_ok tab_rall_ok) 0 G (bodyOf Try.f106) hrd).yield⟩
def SomeP (s : Sp) (lo hi : Int) (d : Sp) : Bool := decide (s.lo ≤ s.hi ∧ (-100000 ≤ s.lo ∧ s.lo ≤ 100000) ∧ (-100000 ≤ s.hi ∧ s.hi ≤ 100000) ∧ (-500 ≤ lo ∧ lo ≤ 0) ∧ (0 ≤ hi ∧ hi ≤ 500) ∧ 0 ≤ d.lo ∧ d.lo ≤ 100)
def rsomeF : Sp × Int × Int × Sp × Unit → Bool × AV := fun | (s, (lo, (hi, (d, _)))) => (SomeP s lo hi d, .bool false (perhapsB s.lo s.hi lo hi d.lo))
def rsomeC : FC := pureFC (pfOf rsomeF)
set_option maxRecDepth 100000 in
theorem rsome_t (s : Sp) (lo : Int) (hi : Int) (d : Sp) : execFn (mkE Try.prog tab_rall) { hnd (mkE Try.prog tab_rall) 0 with loop := someH } false Try.f106 (EncL.enc ((s, lo, hi, d, ()) : Sp × Int × Int × Sp × Unit)) [] 0 =
    Tree.need (decide (SomeS.mk s d lo hi (max s.lo lo)).pre) (Tree.both (Tree.asm ((SomeS.mk s d lo hi (max s.lo lo)).yes) (Tree.all (fun (g0 : Nat → Value) => Tree.leaf (AV.bool true
    true) ([])))) (Tree.asm (¬(SomeS.mk s d lo hi (max s.lo lo)).yes) (Tree.all (fun (g1 : Nat → Value) => Tree.leaf (AV.bool true false) ([]))))) := by kernel_rfl
theorem rsome_s : FSound Try.prog 106 rsomeC := by
  refine fn_plain (mkE_ok tab_rall_ok) Try.func106 (by kernel_rfl) (by kernel_rfl) some_hnd ?_
  rintro ⟨s, lo, hi, d, ⟨⟩⟩ hp
  rw [rsome_t s lo hi d]
  simp only [rsomeF, Tree.den, AV.same, AV.sameL, and_true, true_and] at hp ⊢
  have hq := of_decide_eq_true hp
  obtain ⟨h0, h1, h2, h3, h4, h5⟩ := hq
  unfold SomeS.yes SomeS.good
  refine ⟨decide_eq_true ⟨h1, h2, h3, h4, h5, ?_, ?_⟩, ?_, ?_⟩
  · show -100000 ≤ max s.lo lo
    omega
  · show max s.lo lo ≤ 100001
    omega
  · rintro ⟨n, g1, g2, g3, g4⟩ _
    dsimp only at g1 g2 g3 g4
    exact (perhaps_some (n := n) (by omega) (by omega) (by omega) (by omega) (by omega) g3 g4).symm
  · intro hn _
    dsimp only at hn
    refine (perhaps_none (by omega) (by omega) (by omega) h0 fun n g1 g2 g3 => hn ⟨n, g1, g2, g3⟩).symm
def tab_rsome : Tab := addF tab_rall 106 rsomeC
theorem tab_rsome_ok : TabOk tab_rsome := tab_rall_ok.add rsome_s
theorem rfit_pre {p : Play} {t h : Edge} (h1 : p.ok = true) (h2 : t.ok = true) (h3 : h.ok = true) (ht : t.kind = 1) (hh : h.kind = 2) : (Couple.B ⟨p, t, h⟩ ∧ IntKind.i64.wrap (0 - p.slack) = -p.slack) ∧ (AllP (offBy p t h) (-p.slack) p.slack p.damp = true ∧ AllP (wideBy t h) 0 p.loose p.damp = true ∧ AllP (deepBy t h) 0 p.loose p.damp = true) ∧
    SomeP (offBy p t h) (-p.slack) p.slack p.damp = true ∧ SomeP (wideBy t h) 0 p.loose p.damp = true ∧ SomeP (deepBy t h) 0 p.loose p.damp = true := by
  have hB := couple_B h1 h2 h3 ht hh
  have hb := by_bd hB
  have h1' := hB.1
  unfold PlayB at h1'
  have s2 : (t.at_.lo ≤ t.at_.hi ∧ t.wide.lo ≤ t.wide.hi ∧ t.deep.lo ≤ t.deep.hi) := by
    unfold Edge.ok Sp.isIn at h2
    simp [ht] at h2; omega
  have s3 : (h.at_.lo ≤ h.at_.hi ∧ h.wide.lo ≤ h.wide.hi ∧ h.deep.lo ≤ h.deep.hi) := by
    unfold Edge.ok Sp.isIn at h3
    simp [hh] at h3; omega
  obtain ⟨o1, o2, o3, o4⟩ := hb
  simp only at h1'
  have n1 : (offBy p t h).lo ≤ (offBy p t h).hi := by simp only [offBy]; omega
  have n2 : (wideBy t h).lo ≤ (wideBy t h).hi := by simp only [wideBy]; omega
  have n3 : (deepBy t h).lo ≤ (deepBy t h).hi := by simp only [deepBy]; omega
  unfold AllP SomeP
  refine ⟨⟨hB, ?_⟩, ⟨decide_eq_true ?_, decide_eq_true ?_, decide_eq_true ?_⟩, decide_eq_true ?_, decide_eq_true ?_, decide_eq_true ?_⟩
  · rw [w64 (by omega) (by omega)]; omega
  all_goals omega
def rfitF : Play × Edge × Edge × Unit → Bool × AV := fun | (p, (a, (b, _))) => (okP p a b, .int false .i64 (fitsF p a b))
def rfitC : FC := pureFC (pfOf rfitF)
set_option maxRecDepth 100000 in
theorem rfit_t (p : Play) (a : Edge) (b : Edge) : execFn (mkE Try.prog tab_rsome) (hnd (mkE Try.prog tab_rsome) 4) false Try.f89 (EncL.enc ((p, a, b, ()) : Play × Edge × Edge × Unit)) [] 0 =
    Tree.br (a.kind == (1 : Int)) (Tree.br (b.kind == (2 : Int)) (Tree.need (decide (Couple.mk p a b).B) (Tree.need (AllP (offBy p a b) (IntKind.i64.wrap ((0 : Int) - p.slack)) p.slack
    p.damp) (Tree.br (alwaysB (offBy p a b).lo (offBy p a b).hi (IntKind.i64.wrap ((0 : Int) - p.slack)) p.slack p.damp.hi) (Tree.need (AllP (wideBy a b) (0 : Int) p.loose p.damp)
    (Tree.br (alwaysB (wideBy a b).lo (wideBy a b).hi (0 : Int) p.loose p.damp.hi) (Tree.need (AllP (deepBy a b) (0 : Int) p.loose p.damp) (Tree.br (alwaysB (deepBy a b).lo (deepBy a
    b).hi (0 : Int) p.loose p.damp.hi) (Tree.leaf (AV.int true IntKind.i64 (2 : Int)) ([])) (Tree.need (SomeP (offBy p a b) (IntKind.i64.wrap ((0 : Int) - p.slack)) p.slack p.damp)
    (Tree.br (perhapsB (offBy p a b).lo (offBy p a b).hi (IntKind.i64.wrap ((0 : Int) - p.slack)) p.slack p.damp.lo) (Tree.need (SomeP (wideBy a b) (0 : Int) p.loose p.damp) (Tree.br
    (perhapsB (wideBy a b).lo (wideBy a b).hi (0 : Int) p.loose p.damp.lo) (Tree.need (SomeP (deepBy a b) (0 : Int) p.loose p.damp) (Tree.br (perhapsB (deepBy a b).lo (deepBy a b).hi (0
    : Int) p.loose p.damp.lo) (Tree.leaf (AV.int true IntKind.i64 (1 : Int)) ([])) (Tree.leaf (AV.int true IntKind.i64 (0 : Int)) ([])))) (Tree.leaf (AV.int true IntKind.i64 (0 : Int))
    ([])))) (Tree.leaf (AV.int true IntKind.i64 (0 : Int)) ([])))))) (Tree.need (SomeP (offBy p a b) (IntKind.i64.wrap ((0 : Int) - p.slack)) p.slack p.damp) (Tree.br (perhapsB (offBy p
    a b).lo (offBy p a b).hi (IntKind.i64.wrap ((0 : Int) - p.slack)) p.slack p.damp.lo) (Tree.need (SomeP (wideBy a b) (0 : Int) p.loose p.damp) (Tree.br (perhapsB (wideBy a b).lo
    (wideBy a b).hi (0 : Int) p.loose p.damp.lo) (Tree.need (SomeP (deepBy a b) (0 : Int) p.loose p.damp) (Tree.br (perhapsB (deepBy a b).lo (deepBy a b).hi (0 : Int) p.loose p.damp.lo)
    (Tree.leaf (AV.int true IntKind.i64 (1 : Int)) ([])) (Tree.leaf (AV.int true IntKind.i64 (0 : Int)) ([])))) (Tree.leaf (AV.int true IntKind.i64 (0 : Int)) ([])))) (Tree.leaf (AV.int
    true IntKind.i64 (0 : Int)) ([])))))) (Tree.need (SomeP (offBy p a b) (IntKind.i64.wrap ((0 : Int) - p.slack)) p.slack p.damp) (Tree.br (perhapsB (offBy p a b).lo (offBy p a b).hi
    (IntKind.i64.wrap ((0 : Int) - p.slack)) p.slack p.damp.lo) (Tree.need (SomeP (wideBy a b) (0 : Int) p.loose p.damp) (Tree.br (perhapsB (wideBy a b).lo (wideBy a b).hi (0 : Int)
    p.loose p.damp.lo) (Tree.need (SomeP (deepBy a b) (0 : Int) p.loose p.damp) (Tree.br (perhapsB (deepBy a b).lo (deepBy a b).hi (0 : Int) p.loose p.damp.lo) (Tree.leaf (AV.int true
    IntKind.i64 (1 : Int)) ([])) (Tree.leaf (AV.int true IntKind.i64 (0 : Int)) ([])))) (Tree.leaf (AV.int true IntKind.i64 (0 : Int)) ([])))) (Tree.leaf (AV.int true IntKind.i64 (0 :
    Int)) ([]))))))) (Tree.br (b.kind == (1 : Int)) (Tree.br (a.kind == (2 : Int)) (Tree.need (decide (Couple.mk p b a).B) (Tree.need (AllP (offBy p b a) (IntKind.i64.wrap ((0 : Int) -
    p.slack)) p.slack p.damp) (Tree.br (alwaysB (offBy p b a).lo (offBy p b a).hi (IntKind.i64.wrap ((0 : Int) - p.slack)) p.slack p.damp.hi) (Tree.need (AllP (wideBy b a) (0 : Int)
    p.loose p.damp) (Tree.br (alwaysB (wideBy b a).lo (wideBy b a).hi (0 : Int) p.loose p.damp.hi) (Tree.need (AllP (deepBy b a) (0 : Int) p.loose p.damp) (Tree.br (alwaysB (deepBy b
    a).lo (deepBy b a).hi (0 : Int) p.loose p.damp.hi) (Tree.leaf (AV.int true IntKind.i64 (2 : Int)) ([])) (Tree.need (SomeP (offBy p b a) (IntKind.i64.wrap ((0 : Int) - p.slack))
    p.slack p.damp) (Tree.br (perhapsB (offBy p b a).lo (offBy p b a).hi (IntKind.i64.wrap ((0 : Int) - p.slack)) p.slack p.damp.lo) (Tree.need (SomeP (wideBy b a) (0 : Int) p.loose
    p.damp) (Tree.br (perhapsB (wideBy b a).lo (wideBy b a).hi (0 : Int) p.loose p.damp.lo) (Tree.need (SomeP (deepBy b a) (0 : Int) p.loose p.damp) (Tree.br (perhapsB (deepBy b a).lo
    (deepBy b a).hi (0 : Int) p.loose p.damp.lo) (Tree.leaf (AV.int true IntKind.i64 (1 : Int)) ([])) (Tree.leaf (AV.int true IntKind.i64 (0 : Int)) ([])))) (Tree.leaf (AV.int true
    IntKind.i64 (0 : Int)) ([])))) (Tree.leaf (AV.int true IntKind.i64 (0 : Int)) ([])))))) (Tree.need (SomeP (offBy p b a) (IntKind.i64.wrap ((0 : Int) - p.slack)) p.slack p.damp)
    (Tree.br (perhapsB (offBy p b a).lo (offBy p b a).hi (IntKind.i64.wrap ((0 : Int) - p.slack)) p.slack p.damp.lo) (Tree.need (SomeP (wideBy b a) (0 : Int) p.loose p.damp) (Tree.br
    (perhapsB (wideBy b a).lo (wideBy b a).hi (0 : Int) p.loose p.damp.lo) (Tree.need (SomeP (deepBy b a) (0 : Int) p.loose p.damp) (Tree.br (perhapsB (deepBy b a).lo (deepBy b a).hi (0
    : Int) p.loose p.damp.lo) (Tree.leaf (AV.int true IntKind.i64 (1 : Int)) ([])) (Tree.leaf (AV.int true IntKind.i64 (0 : Int)) ([])))) (Tree.leaf (AV.int true IntKind.i64 (0 : Int))
    ([])))) (Tree.leaf (AV.int true IntKind.i64 (0 : Int)) ([])))))) (Tree.need (SomeP (offBy p b a) (IntKind.i64.wrap ((0 : Int) - p.slack)) p.slack p.damp) (Tree.br (perhapsB (offBy p
    b a).lo (offBy p b a).hi (IntKind.i64.wrap ((0 : Int) - p.slack)) p.slack p.damp.lo) (Tree.need (SomeP (wideBy b a) (0 : Int) p.loose p.damp) (Tree.br (perhapsB (wideBy b a).lo
    (wideBy b a).hi (0 : Int) p.loose p.damp.lo) (Tree.need (SomeP (deepBy b a) (0 : Int) p.loose p.damp) (Tree.br (perhapsB (deepBy b a).lo (deepBy b a).hi (0 : Int) p.loose p.damp.lo)
    (Tree.leaf (AV.int true IntKind.i64 (1 : Int)) ([])) (Tree.leaf (AV.int true IntKind.i64 (0 : Int)) ([])))) (Tree.leaf (AV.int true IntKind.i64 (0 : Int)) ([])))) (Tree.leaf (AV.int
    true IntKind.i64 (0 : Int)) ([]))))))) (Tree.leaf (AV.int true IntKind.i64 (0 : Int)) ([]))) (Tree.leaf (AV.int true IntKind.i64 (0 : Int)) ([])))) (Tree.br (b.kind == (1 : Int))
    (Tree.br (a.kind == (2 : Int)) (Tree.need (decide (Couple.mk p b a).B) (Tree.need (AllP (offBy p b a) (IntKind.i64.wrap ((0 : Int) - p.slack)) p.slack p.damp) (Tree.br (alwaysB
    (offBy p b a).lo (offBy p b a).hi (IntKind.i64.wrap ((0 : Int) - p.slack)) p.slack p.damp.hi) (Tree.need (AllP (wideBy b a) (0 : Int) p.loose p.damp) (Tree.br (alwaysB (wideBy b
    a).lo (wideBy b a).hi (0 : Int) p.loose p.damp.hi) (Tree.need (AllP (deepBy b a) (0 : Int) p.loose p.damp) (Tree.br (alwaysB (deepBy b a).lo (deepBy b a).hi (0 : Int) p.loose
    p.damp.hi) (Tree.leaf (AV.int true IntKind.i64 (2 : Int)) ([])) (Tree.need (SomeP (offBy p b a) (IntKind.i64.wrap ((0 : Int) - p.slack)) p.slack p.damp) (Tree.br (perhapsB (offBy p
    b a).lo (offBy p b a).hi (IntKind.i64.wrap ((0 : Int) - p.slack)) p.slack p.damp.lo) (Tree.need (SomeP (wideBy b a) (0 : Int) p.loose p.damp) (Tree.br (perhapsB (wideBy b a).lo
    (wideBy b a).hi (0 : Int) p.loose p.damp.lo) (Tree.need (SomeP (deepBy b a) (0 : Int) p.loose p.damp) (Tree.br (perhapsB (deepBy b a).lo (deepBy b a).hi (0 : Int) p.loose p.damp.lo)
    (Tree.leaf (AV.int true IntKind.i64 (1 : Int)) ([])) (Tree.leaf (AV.int true IntKind.i64 (0 : Int)) ([])))) (Tree.leaf (AV.int true IntKind.i64 (0 : Int)) ([])))) (Tree.leaf (AV.int
    true IntKind.i64 (0 : Int)) ([])))))) (Tree.need (SomeP (offBy p b a) (IntKind.i64.wrap ((0 : Int) - p.slack)) p.slack p.damp) (Tree.br (perhapsB (offBy p b a).lo (offBy p b a).hi
    (IntKind.i64.wrap ((0 : Int) - p.slack)) p.slack p.damp.lo) (Tree.need (SomeP (wideBy b a) (0 : Int) p.loose p.damp) (Tree.br (perhapsB (wideBy b a).lo (wideBy b a).hi (0 : Int)
    p.loose p.damp.lo) (Tree.need (SomeP (deepBy b a) (0 : Int) p.loose p.damp) (Tree.br (perhapsB (deepBy b a).lo (deepBy b a).hi (0 : Int) p.loose p.damp.lo) (Tree.leaf (AV.int true
    IntKind.i64 (1 : Int)) ([])) (Tree.leaf (AV.int true IntKind.i64 (0 : Int)) ([])))) (Tree.leaf (AV.int true IntKind.i64 (0 : Int)) ([])))) (Tree.leaf (AV.int true IntKind.i64 (0 :
    Int)) ([])))))) (Tree.need (SomeP (offBy p b a) (IntKind.i64.wrap ((0 : Int) - p.slack)) p.slack p.damp) (Tree.br (perhapsB (offBy p b a).lo (offBy p b a).hi (IntKind.i64.wrap ((0 :
    Int) - p.slack)) p.slack p.damp.lo) (Tree.need (SomeP (wideBy b a) (0 : Int) p.loose p.damp) (Tree.br (perhapsB (wideBy b a).lo (wideBy b a).hi (0 : Int) p.loose p.damp.lo)
    (Tree.need (SomeP (deepBy b a) (0 : Int) p.loose p.damp) (Tree.br (perhapsB (deepBy b a).lo (deepBy b a).hi (0 : Int) p.loose p.damp.lo) (Tree.leaf (AV.int true IntKind.i64 (1 :
    Int)) ([])) (Tree.leaf (AV.int true IntKind.i64 (0 : Int)) ([])))) (Tree.leaf (AV.int true IntKind.i64 (0 : Int)) ([])))) (Tree.leaf (AV.int true IntKind.i64 (0 : Int)) ([])))))))
    (Tree.leaf (AV.int true IntKind.i64 (0 : Int)) ([]))) (Tree.leaf (AV.int true IntKind.i64 (0 : Int)) ([]))) := by kernel_rfl
theorem rfit_s : FSound Try.prog 89 rfitC := by
  refine plain_fn tab_rsome_ok 4 Try.func89 (by kernel_rfl) (by kernel_rfl) ?_
  rintro ⟨p, a, b, ⟨⟩⟩ hp
  rw [rfit_t p a b]
  simp only [rfitF, Tree.den, AV.same, AV.sameL, and_true, true_and] at hp ⊢
  unfold okP at hp
  simp only [Bool.and_eq_true] at hp
  obtain ⟨h1, h2, h3⟩ := hp
  unfold fitsF
  by_cases c1 : a.kind = 1 ∧ b.kind = 2
  · obtain ⟨ha, hb⟩ := c1
    obtain ⟨⟨q1, q2⟩, ⟨q3, q4, q5⟩, q6, q7, q8⟩ := rfit_pre h1 h2 h3 ha hb
    rw [if_neg (by omega), if_pos ⟨ha, hb⟩, verd_eq]
    simp only [ha, hb, q1, q2, q3, q4, q5, q6, q7, q8, alw, may, beq_self_eq_true, decide_true]
    generalize alwaysB (offBy p a b).lo (offBy p a b).hi (-p.slack) p.slack p.damp.hi = b1
    generalize alwaysB (wideBy a b).lo (wideBy a b).hi 0 p.loose p.damp.hi = b2
    generalize alwaysB (deepBy a b).lo (deepBy a b).hi 0 p.loose p.damp.hi = b3
    generalize perhapsB (offBy p a b).lo (offBy p a b).hi (-p.slack) p.slack p.damp.lo = b4
    generalize perhapsB (wideBy a b).lo (wideBy a b).hi 0 p.loose p.damp.lo = b5
    generalize perhapsB (deepBy a b).lo (deepBy a b).hi 0 p.loose p.damp.lo = b6
    cases b1 <;> cases b2 <;> cases b3 <;> cases b4 <;> cases b5 <;> cases b6 <;> simp
  by_cases c2 : b.kind = 1 ∧ a.kind = 2
  · obtain ⟨hb, ha⟩ := c2
    obtain ⟨⟨q1, q2⟩, ⟨q3, q4, q5⟩, q6, q7, q8⟩ := rfit_pre h1 h3 h2 hb ha
    rw [if_pos ha, if_pos hb, verd_eq]
    simp only [ha, hb, q1, q2, q3, q4, q5, q6, q7, q8, alw, may, beq_self_eq_true, decide_true]
    generalize alwaysB (offBy p b a).lo (offBy p b a).hi (-p.slack) p.slack p.damp.hi = b1
    generalize alwaysB (wideBy b a).lo (wideBy b a).hi 0 p.loose p.damp.hi = b2
    generalize alwaysB (deepBy b a).lo (deepBy b a).hi 0 p.loose p.damp.hi = b3
    generalize perhapsB (offBy p b a).lo (offBy p b a).hi (-p.slack) p.slack p.damp.lo = b4
    generalize perhapsB (wideBy b a).lo (wideBy b a).hi 0 p.loose p.damp.lo = b5
    generalize perhapsB (deepBy b a).lo (deepBy b a).hi 0 p.loose p.damp.lo = b6
    cases b1 <;> cases b2 <;> cases b3 <;> cases b4 <;> cases b5 <;> cases b6 <;> simp
  have e0 : (if a.kind = 2 then (if b.kind = 1 then verd p b a else 0) else if a.kind = 1 ∧ b.kind = 2 then verd p a b else 0) = 0 := by
    split
    · rename_i ha; rw [if_neg (fun h => c2 ⟨h, ha⟩)]
    · rfl
  rw [e0]
  simp only [beq_iff_eq, beq_eq_false_iff_ne]
  refine ⟨fun ha => ⟨fun hb => absurd ⟨ha, hb⟩ c1, fun _ => ⟨fun hb => ⟨fun h => absurd ⟨hb, h⟩ c2, fun _ => trivial⟩, fun _ => trivial⟩⟩, fun _ => ⟨fun hb => ⟨fun h => absurd ⟨hb, h⟩ c2, fun _ => trivial⟩, fun _ => trivial⟩⟩
def tab_rfit : Tab := addF tab_rsome 89 rfitC
theorem tab_rfit_ok : TabOk tab_rfit := tab_rsome_ok.add rfit_s
def rFitF : Play × Edge × Edge × Unit → Bool × AV := fun | (p, (a, (b, _))) => (true, .tup [.int false .i64 (FitF p a b).1, .int false .i64 (FitF p a b).2])
def rFitC : FC := pureFC (pfOf rFitF)
set_option maxRecDepth 100000 in
theorem rFit_t (p : Play) (a : Edge) (b : Edge) : execFn (mkE Try.prog tab_rfit) (hnd (mkE Try.prog tab_rfit) 4) false Try.f69 (EncL.enc ((p, a, b, ()) : Play × Edge × Edge × Unit)) [] 0 =
    Tree.need (true) (Tree.br (!p.ok) (Tree.leaf (AV.tup [AV.int true IntKind.i64 (0 : Int), AV.int true IntKind.i64 (1 : Int)]) ([])) (Tree.need (true) (Tree.br (!a.ok) (Tree.leaf
    (AV.tup [AV.int true IntKind.i64 (0 : Int), AV.int true IntKind.i64 (1 : Int)]) ([])) (Tree.need (true) (Tree.br (!b.ok) (Tree.leaf (AV.tup [AV.int true IntKind.i64 (0 : Int),
    AV.int true IntKind.i64 (1 : Int)]) ([])) (Tree.need (okP p a b) (Tree.leaf (AV.tup [AV.int false IntKind.i64 (fitsF p a b), AV.int true IntKind.i64 (0 : Int)]) ([])))))))) := by kernel_rfl
theorem rFit_s : FSound Try.prog 69 rFitC := by
  refine plain_fn tab_rfit_ok 4 Try.func69 (by kernel_rfl) (by kernel_rfl) ?_
  rintro ⟨p, a, b, ⟨⟩⟩ hp
  rw [rFit_t p a b]
  simp only [rFitF, Tree.den, AV.same, AV.sameL, and_true, true_and] at hp ⊢
  unfold FitF okP
  cases p.ok <;> cases a.ok <;> cases b.ok <;> simp
def tab_rFit : Tab := addF tab_rfit 69 rFitC
theorem tab_rFit_ok : TabOk tab_rFit := tab_rfit_ok.add rFit_s
end Go.Proofs.Ytbpffdkemeoajaa
/- The reference: small functions (layers 3 and 7). -/
namespace Go.Proofs.Ytbpffdkemeoajaa
open Go.SX
def rin3F : Int × Int × Int × Unit → Bool × AV := fun | (n, (a, (b, _))) => (true, .bool false (within n a b))
def rin3C : FC := pureFC (pfOf rin3F)
set_option maxRecDepth 100000 in
theorem rin3_t (n : Int) (a : Int) (b : Int) : execFn (mkE Try.prog tab_rFit) (hnd (mkE Try.prog tab_rFit) 0) false Try.f68 (EncL.enc ((n, a, b, ()) : Int × Int × Int × Unit)) [] 0 =
    Tree.br (decide (a ≤ n)) (Tree.leaf (AV.bool false (decide (n ≤ b))) ([])) (Tree.leaf (AV.bool true false) ([])) := by kernel_rfl
theorem rin3_s : FSound Try.prog 68 rin3C := by
  refine plain_fn tab_rFit_ok 0 Try.func68 (by kernel_rfl) (by kernel_rfl) ?_
  rintro ⟨n, a, b, ⟨⟩⟩ hp
  rw [rin3_t n a b]
  simp only [rin3F, Tree.den, AV.same, AV.sameL, and_true, true_and] at hp ⊢
  (repeat' (first | (refine And.intro ?_ ?_) | (intro _))) <;> simp_all [within] <;> omega
def tab_rin3 : Tab := addF tab_rFit 68 rin3C
theorem tab_rin3_ok : TabOk tab_rin3 := tab_rFit_ok.add rin3_s
def rcomF : Sp × Sp × Unit → Bool × AV := fun | (a, (b, _)) => (true, .bool false (com a b))
def rcomC : FC := pureFC (pfOf rcomF)
set_option maxRecDepth 100000 in
theorem rcom_t (a : Sp) (b : Sp) : execFn (mkE Try.prog tab_rin3) (hnd (mkE Try.prog tab_rin3) 0) false Try.f102 (EncL.enc ((a, b, ()) : Sp × Sp × Unit)) [] 0 =
    Tree.br (decide (a.lo ≤ b.hi)) (Tree.leaf (AV.bool false (decide (b.lo ≤ a.hi))) ([])) (Tree.leaf (AV.bool true false) ([])) := by kernel_rfl
theorem rcom_s : FSound Try.prog 102 rcomC := by
  refine plain_fn tab_rin3_ok 0 Try.func102 (by kernel_rfl) (by kernel_rfl) ?_
  rintro ⟨a, b, ⟨⟩⟩ hp
  rw [rcom_t a b]
  simp only [rcomF, Tree.den, AV.same, AV.sameL, and_true, true_and] at hp ⊢
  simp only [com]
  refine ⟨fun h => ?_, fun h => ?_⟩
  · rw [h]; simp
  · rw [h]; simp
def tab_rcom : Tab := addF tab_rin3 102 rcomC
theorem tab_rcom_ok : TabOk tab_rcom := tab_rin3_ok.add rcom_s
def rlikeF : Edge × Edge × Unit → Bool × AV := fun | (a, (b, _)) => (true, .bool false (isS a b))
def rlikeC : FC := pureFC (pfOf rlikeF)
set_option maxRecDepth 100000 in
theorem rlike_t (a : Edge) (b : Edge) : execFn (mkE Try.prog tab_rcom) (hnd (mkE Try.prog tab_rcom) 0) false Try.f88 (EncL.enc ((a, b, ()) : Edge × Edge × Unit)) [] 0 =
    Tree.br (a.kind == b.kind) (Tree.br (a.kind == (0 : Int)) (Tree.leaf (AV.bool true true) ([])) (Tree.need (true) (Tree.br (com a.at_ b.at_) (Tree.need (true) (Tree.br (com a.wide
    b.wide) (Tree.need (true) (Tree.leaf (AV.bool false (com a.deep b.deep)) ([]))) (Tree.leaf (AV.bool true false) ([])))) (Tree.leaf (AV.bool true false) ([]))))) (Tree.leaf (AV.bool
    true false) ([])) := by kernel_rfl
theorem rlike_s : FSound Try.prog 88 rlikeC := by
  refine plain_fn tab_rcom_ok 0 Try.func88 (by kernel_rfl) (by kernel_rfl) ?_
  rintro ⟨a, b, ⟨⟩⟩ hp
  rw [rlike_t a b]
  simp only [rlikeF, Tree.den, AV.same, AV.sameL, and_true, true_and] at hp ⊢
  simp only [isS, isF]
  generalize com a.at_ b.at_ = c1
  generalize com a.wide b.wide = c2
  generalize com a.deep b.deep = c3
  by_cases h : a.kind = b.kind
  · by_cases h0 : b.kind = 0
    · simp [h, h0]
    · cases c1 <;> cases c2 <;> cases c3 <;> simp [h, h0]
  · by_cases h0 : a.kind = 0
    · have : ¬ b.kind = 0 := fun e => h (by rw [h0, e])
      have h' : ¬ 0 = b.kind := fun e => this e.symm
      simp [h0, this, h']
    · simp [h, h0]
def tab_rlike : Tab := addF tab_rcom 88 rlikeC
theorem tab_rlike_ok : TabOk tab_rlike := tab_rcom_ok.add rlike_s
def rPieceF : Piece × Unit → Bool × AV := fun | (s, _) => (true, .bool false s.ok)
def rPieceC : FC := pureFC (pfOf rPieceF)
set_option maxRecDepth 100000 in
theorem rPiece_t (s : Piece) : execFn (mkE Try.prog tab_rlike) (hnd (mkE Try.prog tab_rlike) 6) false Try.f28 (EncL.enc ((s, ()) : Piece × Unit)) [] 0 =
    Tree.need (true) (Tree.br (!s.up.ok) (Tree.leaf (AV.bool true false) ([])) (Tree.need (true) (Tree.br (!s.right.ok) (Tree.leaf (AV.bool true false) ([])) (Tree.need (true) (Tree.br
    (!s.down.ok) (Tree.leaf (AV.bool true false) ([])) (Tree.need (true) (Tree.br (!s.left.ok) (Tree.leaf (AV.bool true false) ([])) (Tree.leaf (AV.bool true true) ([]))))))))) := by kernel_rfl
theorem rPiece_s : FSound Try.prog 28 rPieceC := by
  refine plain_fn tab_rlike_ok 6 Try.func28 (by kernel_rfl) (by kernel_rfl) ?_
  rintro ⟨s, ⟨⟩⟩ hp
  rw [rPiece_t s]
  simp only [rPieceF, Tree.den, AV.same, AV.sameL, and_true, true_and] at hp ⊢
  simp only [Piece.ok]
  cases s.up.ok <;> cases s.right.ok <;> cases s.down.ok <;> cases s.left.ok <;> simp
def tab_rPiece : Tab := addF tab_rlike 28 rPieceC
theorem tab_rPiece_ok : TabOk tab_rPiece := tab_rlike_ok.add rPiece_s
def rfit7F : WF (Puz × Edge × Edge × Unit) := fun | (d, (a, (b, _))) => (decide (d.ps.n ≤ 1000), .int false .i64 (FitF d.play a b).1, [])
def rfit7C : FC := wFC rfit7F
set_option maxRecDepth 100000 in
theorem rfit7_t (d : Puz) (a : Edge) (b : Edge) : execW (mkE Try.prog tab_rPiece) (hnd (mkE Try.prog tab_rPiece) 0) Try.f41 (ArgsE.vals 0 ((d, a, b, ()) : Puz × Edge × Edge × Unit)) (ArgsE.blks 0 ((d, a, b, ()) : Puz × Edge × Edge × Unit)) 8 =
    Tree.need (true) (Tree.leaf (AV.int false IntKind.i64 (FitF d.play a b).1) ([])) := by kernel_rfl
theorem rfit7_hs : WHnd (mkE Try.prog tab_rPiece) (bodyOf Try.f41) 8 rfit7F (fun x_ => (hnd (mkE Try.prog tab_rPiece) 0)) := by
  refine ⟨?_⟩
  rintro ⟨d, ⟨a, ⟨b, ⟨⟩⟩⟩⟩ hp G h1 h2
  exact hnd_hndOk (mkE_ok tab_rPiece_ok) 0 G _ h1
theorem rfit7_run : WRun (mkE Try.prog tab_rPiece) Try.f41 8 rfit7F (fun x_ => (hnd (mkE Try.prog tab_rPiece) 0)) := by
  refine ⟨?_⟩
  rintro ⟨d, ⟨a, ⟨b, ⟨⟩⟩⟩⟩ hp
  refine ⟨⟨rfl, by simp [rfit7F], rfl⟩, ⟨?_⟩⟩
  rw [rfit7_t d a b]
  simp only [rfit7F] at hp
  refine den_need rfl (endOk_same ?_ rfl)
  exact ⟨rfl, rfl⟩
theorem rfit7_s : FSound Try.prog 41 rfit7C :=
  fn_W (mkE_ok tab_rPiece_ok) Try.func41 (by kernel_rfl) (by kernel_rfl) (by decide) rfit7_hs rfit7_run
def tab_rfit7 : Tab := addF tab_rPiece 41 rfit7C
theorem tab_rfit7_ok : TabOk tab_rfit7 := tab_rPiece_ok.add rfit7_s
def rbesF : WF (Puz × Int × Int × Unit) := fun | (d, (c, (s, _))) => (decide ((1 ≤ d.wide ∧ d.wide ≤ 100) ∧ (1 ≤ d.high ∧ d.high ≤ 100) ∧ (0 ≤ c ∧ c ≤ 100)), .int false .i64 (besF d.wide d.high c s), [])
def rbesC : FC := wFC rbesF
set_option maxRecDepth 100000 in
theorem rbes_t (d : Puz) (c : Int) (s : Int) : execW (mkE Try.prog tab_rfit7) (hnd (mkE Try.prog tab_rfit7) 0) Try.f31 (ArgsE.vals 0 ((d, c, s, ()) : Puz × Int × Int × Unit)) (ArgsE.blks 0 ((d, c, s, ()) : Puz × Int × Int × Unit)) 8 =
    Tree.need (!decide (d.wide = (0 : Int))) (Tree.need (!decide (d.wide = (0 : Int))) (Tree.br (s == (0 : Int)) (Tree.br (decide (IntKind.i64.wrap (c.tdiv d.wide) > (0 : Int)))
    (Tree.leaf (AV.int false IntKind.i64 (IntKind.i64.wrap (c - d.wide))) ([])) (Tree.br (s == (1 : Int)) (Tree.br (decide (c.tmod d.wide < IntKind.i64.wrap (d.wide - (1 : Int))))
    (Tree.leaf (AV.int false IntKind.i64 (IntKind.i64.wrap (c + (1 : Int)))) ([])) (Tree.br (s == (2 : Int)) (Tree.br (decide (IntKind.i64.wrap (c.tdiv d.wide) < IntKind.i64.wrap
    (d.high - (1 : Int)))) (Tree.leaf (AV.int false IntKind.i64 (IntKind.i64.wrap (c + d.wide))) ([])) (Tree.br (s == (3 : Int)) (Tree.br (decide (c.tmod d.wide > (0 : Int))) (Tree.leaf
    (AV.int false IntKind.i64 (IntKind.i64.wrap (c - (1 : Int)))) ([])) (Tree.leaf (AV.int true IntKind.i64 (-1 : Int)) ([]))) (Tree.leaf (AV.int true IntKind.i64 (-1 : Int)) ([]))))
    (Tree.br (s == (3 : Int)) (Tree.br (decide (c.tmod d.wide > (0 : Int))) (Tree.leaf (AV.int false IntKind.i64 (IntKind.i64.wrap (c - (1 : Int)))) ([])) (Tree.leaf (AV.int true
    IntKind.i64 (-1 : Int)) ([]))) (Tree.leaf (AV.int true IntKind.i64 (-1 : Int)) ([]))))) (Tree.br (s == (2 : Int)) (Tree.br (decide (IntKind.i64.wrap (c.tdiv d.wide) <
    IntKind.i64.wrap (d.high - (1 : Int)))) (Tree.leaf (AV.int false IntKind.i64 (IntKind.i64.wrap (c + d.wide))) ([])) (Tree.br (s == (3 : Int)) (Tree.br (decide (c.tmod d.wide > (0 :
    Int))) (Tree.leaf (AV.int false IntKind.i64 (IntKind.i64.wrap (c - (1 : Int)))) ([])) (Tree.leaf (AV.int true IntKind.i64 (-1 : Int)) ([]))) (Tree.leaf (AV.int true IntKind.i64 (-1
    : Int)) ([])))) (Tree.br (s == (3 : Int)) (Tree.br (decide (c.tmod d.wide > (0 : Int))) (Tree.leaf (AV.int false IntKind.i64 (IntKind.i64.wrap (c - (1 : Int)))) ([])) (Tree.leaf
    (AV.int true IntKind.i64 (-1 : Int)) ([]))) (Tree.leaf (AV.int true IntKind.i64 (-1 : Int)) ([])))))) (Tree.br (s == (1 : Int)) (Tree.br (decide (c.tmod d.wide < IntKind.i64.wrap
    (d.wide - (1 : Int)))) (Tree.leaf (AV.int false IntKind.i64 (IntKind.i64.wrap (c + (1 : Int)))) ([])) (Tree.br (s == (2 : Int)) (Tree.br (decide (IntKind.i64.wrap (c.tdiv d.wide) <
    IntKind.i64.wrap (d.high - (1 : Int)))) (Tree.leaf (AV.int false IntKind.i64 (IntKind.i64.wrap (c + d.wide))) ([])) (Tree.br (s == (3 : Int)) (Tree.br (decide (c.tmod d.wide > (0 :
    Int))) (Tree.leaf (AV.int false IntKind.i64 (IntKind.i64.wrap (c - (1 : Int)))) ([])) (Tree.leaf (AV.int true IntKind.i64 (-1 : Int)) ([]))) (Tree.leaf (AV.int true IntKind.i64 (-1
    : Int)) ([])))) (Tree.br (s == (3 : Int)) (Tree.br (decide (c.tmod d.wide > (0 : Int))) (Tree.leaf (AV.int false IntKind.i64 (IntKind.i64.wrap (c - (1 : Int)))) ([])) (Tree.leaf
    (AV.int true IntKind.i64 (-1 : Int)) ([]))) (Tree.leaf (AV.int true IntKind.i64 (-1 : Int)) ([]))))) (Tree.br (s == (2 : Int)) (Tree.br (decide (IntKind.i64.wrap (c.tdiv d.wide) <
    IntKind.i64.wrap (d.high - (1 : Int)))) (Tree.leaf (AV.int false IntKind.i64 (IntKind.i64.wrap (c + d.wide))) ([])) (Tree.br (s == (3 : Int)) (Tree.br (decide (c.tmod d.wide > (0 :
    Int))) (Tree.leaf (AV.int false IntKind.i64 (IntKind.i64.wrap (c - (1 : Int)))) ([])) (Tree.leaf (AV.int true IntKind.i64 (-1 : Int)) ([]))) (Tree.leaf (AV.int true IntKind.i64 (-1
    : Int)) ([])))) (Tree.br (s == (3 : Int)) (Tree.br (decide (c.tmod d.wide > (0 : Int))) (Tree.leaf (AV.int false IntKind.i64 (IntKind.i64.wrap (c - (1 : Int)))) ([])) (Tree.leaf
    (AV.int true IntKind.i64 (-1 : Int)) ([]))) (Tree.leaf (AV.int true IntKind.i64 (-1 : Int)) ([]))))))) := by kernel_rfl
theorem rbes_hs : WHnd (mkE Try.prog tab_rfit7) (bodyOf Try.f31) 8 rbesF (fun x_ => (hnd (mkE Try.prog tab_rfit7) 0)) := by
  refine ⟨?_⟩
  rintro ⟨d, ⟨c, ⟨s, ⟨⟩⟩⟩⟩ hp G h1 h2
  exact hnd_hndOk (mkE_ok tab_rfit7_ok) 0 G _ h1
theorem rbes_run : WRun (mkE Try.prog tab_rfit7) Try.f31 8 rbesF (fun x_ => (hnd (mkE Try.prog tab_rfit7) 0)) := by
  refine ⟨?_⟩
  rintro ⟨d, ⟨c, ⟨s, ⟨⟩⟩⟩⟩ hp
  refine ⟨⟨rfl, by simp [rbesF], rfl⟩, ⟨?_⟩⟩
  rw [rbes_t d c s]
  simp only [rbesF] at hp
  obtain ⟨⟨w1, w2⟩, ⟨h1, h2⟩, c1, c2⟩ := of_decide_eq_true hp
  have q0 : 0 ≤ c.tdiv d.wide := Int.tdiv_nonneg c1 (by omega)
  have q1 : c.tdiv d.wide ≤ c := by rw [Int.tdiv_eq_ediv_of_nonneg c1]; exact Int.ediv_le_self _ c1
  have m0 : 0 ≤ c.tmod d.wide := Int.tmod_nonneg _ c1
  have m1 : c.tmod d.wide < d.wide := Int.tmod_lt_of_pos _ (by omega)
  have e1 : IntKind.i64.wrap (c.tdiv d.wide) = c.tdiv d.wide := w64 (by omega) (by omega)
  have e2 : IntKind.i64.wrap (c - d.wide) = c - d.wide := w64 (by omega) (by omega)
  have e3 : IntKind.i64.wrap (d.wide - 1) = d.wide - 1 := w64 (by omega) (by omega)
  have e4 : IntKind.i64.wrap (c + 1) = c + 1 := w64 (by omega) (by omega)
  have e5 : IntKind.i64.wrap (d.high - 1) = d.high - 1 := w64 (by omega) (by omega)
  have e6 : IntKind.i64.wrap (c + d.wide) = c + d.wide := w64 (by omega) (by omega)
  have e7 : IntKind.i64.wrap (c - 1) = c - 1 := w64 (by omega) (by omega)
  have dz : (!decide (d.wide = 0)) = true := by simp; omega
  rw [e1, e2, e3, e4, e5, e6, e7]
  refine den_need dz (den_need dz ?_)
  have fin : ∀ v : AV, v.same (.int false .i64 (besF d.wide d.high c s)) → (Tree.leaf v []).den (EndOk 8 (rbesF (d, c, s, ())).2.1 (rbesF (d, c, s, ())).2.2) := fun v h => endOk_same h rfl
  repeat' refine den_br (fun _ => ?_) (fun _ => ?_)
  all_goals refine fin _ ?_
  all_goals simp only [AV.same, besF, true_and]
  all_goals grind
theorem rbes_s : FSound Try.prog 31 rbesC :=
  fn_W (mkE_ok tab_rfit7_ok) Try.func31 (by kernel_rfl) (by kernel_rfl) (by decide) rbes_hs rbes_run
def tab_rbes : Tab := addF tab_rfit7 31 rbesC
theorem tab_rbes_ok : TabOk tab_rbes := tab_rfit7_ok.add rbes_s
end Go.Proofs.Ytbpffdkemeoajaa
/- The reference: is a puzzle valid? (layer 3) -/
namespace Go.Proofs.Ytbpffdkemeoajaa
open Go.SX
def badR (l : Rw Piece) (i : Nat) : Bool := !(l.get i).ok
def okR (d : Puz) : Bool := d.play.ok && (within (d.ps.n : Int) 1 9 && (within d.wide 1 9 && (within d.high 1 9 && ((IntKind.i64.wrap (d.wide * d.high) == (d.ps.n : Int)) && (firstN (badR d.ps) d.ps.n 0).isNone))))
theorem okPs_eq (p : Play) (l : Rw Piece) (h : 1 ≤ l.n) : okPs p l = (p.ok && (firstN (badR l) l.n 0).isNone) := by
  unfold okPs
  cases hp : p.ok with
  | true =>
    have : badP ⟨p⟩ l = badR l := by funext i; simp only [badP, badR, hp, Bool.true_and]
    rw [this, Bool.true_and]
  | false =>
    obtain ⟨m, hm⟩ : ∃ m, l.n = m + 1 := ⟨l.n - 1, by omega⟩
    rw [hm, firstN]
    simp only [badP, hp, Bool.false_and, Bool.not_false]; rfl
theorem okR_eq (d : Puz) : okR d = d.ok := by
  rw [Bool.eq_iff_iff]
  simp only [okR, Puz.ok, Puz.okN, Bool.and_eq_true, within, decide_eq_true_eq, beq_iff_eq]
  constructor
  · rintro ⟨hp, hn, hw, hh, hm, ha⟩
    have m1 : d.wide * d.high ≤ 9 * 9 := Int.mul_le_mul hw.2 hh.2 (by omega) (by omega)
    have m0 : 0 ≤ d.wide * d.high := Int.mul_nonneg (by omega) (by omega)
    have e := hm
    rw [w64 (by omega) (by omega)] at e
    have a1 := Int.mul_le_mul_of_nonneg_left (show 1 ≤ d.high from hh.1) (show 0 ≤ d.wide by omega)
    have a2 := Int.mul_le_mul_of_nonneg_right (show 1 ≤ d.wide from hw.1) (show 0 ≤ d.high by omega)
    refine ⟨⟨hn, by omega, by omega, hm⟩, ?_⟩
    rw [okPs_eq _ _ (by omega), hp, ha]; rfl
  · rintro ⟨⟨hn, hw, hh, hm⟩, hs⟩
    rw [okPs_eq _ _ (by omega), Bool.and_eq_true] at hs
    exact ⟨hs.1, hn, by omega, by omega, hm, hs.2⟩
def rpzJ (d : Puz) (k : Nat) : JSt := ⟨60, [(1, .ptr 8 0 0), (3, .int false .i64 k)], [(8, .cells 0 28 (puzC d))] ++ ArgE.blk 0 d.ps, 96⟩
def rpzLs : Ex → List Nat
  | .normal => [1, 3]
  | .exit _ => []
  | .ret => [2]
set_option maxRecDepth 100000 in
theorem rpz_r (d : Puz) (k : Nat) (g : Nat → Value) : exec (mkE Try.prog tab_rbes) (hnd (mkE Try.prog tab_rbes) 6) (bodyK Try.f40 0) (JSt.inst (rpzJ d k) g) (leafW [] rpzLs) =
    Tree.br (decide ((↑k : Int) < (↑d.ps.n : Int))) (Tree.need (decide ((0 : Int) ≤ (↑k : Int) ∧ (↑k : Int) < (↑d.ps.n : Int)) && decide (d.ps.n ≤ d.ps.n)) (Tree.need (decide (k <
    d.ps.n)) (Tree.need (true) (Tree.br (!(d.ps.get k).up.ok) (Tree.leaf (AV.tup [AV.nili, AV.ptr (60 : Nat) (0 : Nat) (0 : Nat), AV.bool true false]) ([])) (Tree.need (decide ((0 :
    Int) ≤ (↑k : Int) ∧ (↑k : Int) < (↑d.ps.n : Int)) && decide (d.ps.n ≤ d.ps.n)) (Tree.need (decide (k < d.ps.n)) (Tree.need (true) (Tree.br (!(d.ps.get k).right.ok) (Tree.leaf
    (AV.tup [AV.nili, AV.ptr (60 : Nat) (0 : Nat) (0 : Nat), AV.bool true false]) ([])) (Tree.need (decide ((0 : Int) ≤ (↑k : Int) ∧ (↑k : Int) < (↑d.ps.n : Int)) && decide (d.ps.n ≤
    d.ps.n)) (Tree.need (decide (k < d.ps.n)) (Tree.need (true) (Tree.br (!(d.ps.get k).down.ok) (Tree.leaf (AV.tup [AV.nili, AV.ptr (60 : Nat) (0 : Nat) (0 : Nat), AV.bool true false])
    ([])) (Tree.need (decide ((0 : Int) ≤ (↑k : Int) ∧ (↑k : Int) < (↑d.ps.n : Int)) && decide (d.ps.n ≤ d.ps.n)) (Tree.need (decide (k < d.ps.n)) (Tree.need (true) (Tree.br (!(d.ps.get
    k).left.ok) (Tree.leaf (AV.tup [AV.nili, AV.ptr (60 : Nat) (0 : Nat) (0 : Nat), AV.bool true false]) ([])) (Tree.leaf (AV.tup [AV.nilp, AV.ptr (60 : Nat) (0 : Nat) (0 : Nat), AV.ptr
    (8 : Nat) (0 : Nat) (0 : Nat), AV.int false IntKind.i64 (IntKind.i64.wrap ((↑k : Int) + (1 : Int)))]) ([((8 : Nat), Blk.cells (0 : Nat) (28 : Nat) [AV.int false IntKind.i64
    d.play.length, AV.int false IntKind.i64 d.play.slack, AV.int false IntKind.i64 d.play.loose, AV.int false IntKind.i64 d.play.damp.lo, AV.int false IntKind.i64 d.play.damp.hi, AV.int
    false IntKind.i64 d.wide, AV.int false IntKind.i64 d.high, AV.bool false d.turn, AV.slz (0 : Nat) (0 : Nat) d.ps.n (Cap.of (0 : Nat))]), ((0 : Nat), Blk.frz [CK.int IntKind.i64,
    CK.int IntKind.i64, CK.int IntKind.i64, CK.int IntKind.i64, CK.int IntKind.i64, CK.int IntKind.i64, CK.int IntKind.i64, CK.int IntKind.i64, CK.int IntKind.i64, CK.int IntKind.i64,
    CK.int IntKind.i64, CK.int IntKind.i64, CK.int IntKind.i64, CK.int IntKind.i64, CK.int IntKind.i64, CK.int IntKind.i64, CK.int IntKind.i64, CK.int IntKind.i64, CK.int IntKind.i64,
    CK.int IntKind.i64, CK.int IntKind.i64, CK.int IntKind.i64, CK.int IntKind.i64, CK.int IntKind.i64, CK.int IntKind.i64, CK.int IntKind.i64, CK.int IntKind.i64, CK.int IntKind.i64]
    d.ps.n fun i => RowT.enc (d.ps.get i))])))))))))))))))))) (Tree.leaf (AV.tup [AV.ptr (0 : Nat) (0 : Nat) (0 : Nat), AV.ptr (60 : Nat) (0 : Nat) (0 : Nat)]) ([])) := by kernel_rfl
def rpzRet : JSt := ⟨60, [(2, .bool false false)], [], 96⟩
def rpzEnd : JSt := ⟨60, [], [], 96⟩
set_option maxRecDepth 100000 in
theorem rpz_r0  : subE 8 [AV.bool true false] ([]) rpzRet = (
    some [false = false]) := by kernel_rfl
set_option maxRecDepth 100000 in
theorem rpz_r1  : subE 8 [AV.bool true false] ([]) rpzRet = (
    some [false = false]) := by kernel_rfl
set_option maxRecDepth 100000 in
theorem rpz_r2  : subE 8 [AV.bool true false] ([]) rpzRet = (
    some [false = false]) := by kernel_rfl
set_option maxRecDepth 100000 in
theorem rpz_r3  : subE 8 [AV.bool true false] ([]) rpzRet = (
    some [false = false]) := by kernel_rfl
set_option maxRecDepth 100000 in
theorem rpz_go (d : Puz) (k k' : Nat) : subE 8 [AV.ptr (8 : Nat) (0 : Nat) (0 : Nat), AV.int false IntKind.i64 (IntKind.i64.wrap ((↑k : Int) + (1 : Int)))] ([((8 : Nat), Blk.cells (0 : Nat) (28 : Nat) [AV.int false IntKind.i64 d.play.length, AV.int false IntKind.i64 d.play.slack, AV.int false IntKind.i64 d.play.loose, AV.int false IntKind.i64 d.play.damp.lo, AV.int false IntKind.i64 d.play.damp.hi, AV.int false IntKind.i64 d.wide, AV.int false IntKind.i64 d.high, AV.bool false d.turn, AV.slz (0 : Nat) (0 : Nat) d.ps.n (Cap.of (0 : Nat))]), ((0 : Nat), Blk.frz [CK.int IntKind.i64, CK.int IntKind.i64, CK.int IntKind.i64, CK.int IntKind.i64, CK.int IntKind.i64, CK.int IntKind.i64, CK.int IntKind.i64, CK.int IntKind.i64, CK.int IntKind.i64, CK.int IntKind.i64, CK.int IntKind.i64, CK.int IntKind.i64, CK.int IntKind.i64, CK.int IntKind.i64, CK.int IntKind.i64, CK.int IntKind.i64, CK.int IntKind.i64, CK.int IntKind.i64, CK.int IntKind.i64, CK.int IntKind.i64, CK.int IntKind.i64, CK.int IntKind.i64, CK.int IntKind.i64, CK.int IntKind.i64, CK.int IntKind.i64, CK.int IntKind.i64, CK.int IntKind.i64, CK.int IntKind.i64] d.ps.n fun i => RowT.enc (d.ps.get i))]) (rpzJ d k') = (
    some [(0 : Nat) = (0 : Nat), (0 : Nat) = (0 : Nat), IntKind.i64.wrap ((↑k : Int) + (1 : Int)) = (↑k' : Int), d.play.length = d.play.length, d.play.slack = d.play.slack, d.play.loose
    = d.play.loose, d.play.damp.lo = d.play.damp.lo, d.play.damp.hi = d.play.damp.hi, d.wide = d.wide, d.high = d.high, d.turn = d.turn, (0 : Nat) = (0 : Nat), d.ps.n = d.ps.n, Cap.of
    (0 : Nat) = Cap.of (0 : Nat), d.ps.n ≤ d.ps.n, RowsEq (28 : Nat) d.ps.n (fun i => RowT.enc (d.ps.get i)) fun i => RowT.enc (d.ps.get i)]) := by kernel_rfl
set_option maxRecDepth 100000 in
theorem rpz_end  : subE 8 [] ([]) rpzEnd = (
    some []) := by kernel_rfl
end Go.Proofs.Ytbpffdkemeoajaa
/- The reference: is a puzzle valid? Its contract (layer 3). -/
namespace Go.Proofs.Ytbpffdkemeoajaa
open Go.SX
def rpzR (d : Puz) (k : Nat) (e : Ex) (J : JSt) : Prop := (e = .ret ∧ (firstN (badR d.ps) (d.ps.n - k) k).isNone = false ∧ J = rpzRet) ∨ (e = .exit 0 ∧ (firstN (badR d.ps) (d.ps.n - k) k).isNone = true ∧ J = rpzEnd)
set_option maxRecDepth 100000 in
theorem rpz_round (d : Puz) (hl : d.ps.n ≤ 1000) : RoundW (rpzJ d) (fun k => k ≤ d.ps.n) (fun k => d.ps.n - k) (rpzR d) 8 rpzLs [] (mkE Try.prog tab_rbes) (fun _ => hnd (mkE Try.prog tab_rbes) 6) (bodyK Try.f40 0) := by
  refine ⟨fun k g hk => denOk_of (rpz_r d k g) ?_⟩
  refine den_br (fun h => ?_) (fun h => ?_)
  · have h : k < d.ps.n := by have := of_decide_eq_true h; omega
    obtain ⟨m, hm⟩ : ∃ m, d.ps.n - k = m + 1 := ⟨d.ps.n - k - 1, by omega⟩
    have hm' : d.ps.n - (k + 1) = m := by omega
    have hA : (decide ((0 : Int) ≤ (k : Int) ∧ (k : Int) < (d.ps.n : Int)) && decide (d.ps.n ≤ d.ps.n)) = true := by simp; omega
    have hB : decide (k < d.ps.n) = true := by simp; omega
    have bad : badR d.ps k = true → firstN (badR d.ps) (d.ps.n - k) k = some k := fun q => by rw [hm, firstN, q]
    have go : badR d.ps k = false → firstN (badR d.ps) (d.ps.n - k) k = firstN (badR d.ps) (d.ps.n - (k + 1)) (k + 1) := fun q => by rw [hm, hm', firstN, q]
    have no : badR d.ps k = true → (firstN (badR d.ps) (d.ps.n - k) k).isNone = false := fun q => by rw [bad q]; rfl
    refine den_need hA (den_need hB (den_need rfl (den_br (fun h0 => ?_) (fun h0 => ?_))))
    · have q : badR d.ps k = true := by simp only [Bool.not_eq_true'] at h0; simp only [badR, Piece.ok, h0, Bool.false_and, Bool.not_false]
      exact ⟨_, .inl ⟨rfl, no q, rfl⟩, rfl, rfl, _, rpz_r0, ⟨rfl, trivial⟩⟩
    refine den_need hA (den_need hB (den_need rfl (den_br (fun h1 => ?_) (fun h1 => ?_))))
    · have q : badR d.ps k = true := by simp only [Bool.not_eq_true'] at h1; simp only [badR, Piece.ok, h1, Bool.false_and, Bool.and_false, Bool.not_false]
      exact ⟨_, .inl ⟨rfl, no q, rfl⟩, rfl, rfl, _, rpz_r1, ⟨rfl, trivial⟩⟩
    refine den_need hA (den_need hB (den_need rfl (den_br (fun h2 => ?_) (fun h2 => ?_))))
    · have q : badR d.ps k = true := by simp only [Bool.not_eq_true'] at h2; simp only [badR, Piece.ok, h2, Bool.false_and, Bool.and_false, Bool.not_false]
      exact ⟨_, .inl ⟨rfl, no q, rfl⟩, rfl, rfl, _, rpz_r2, ⟨rfl, trivial⟩⟩
    refine den_need hA (den_need hB (den_need rfl (den_br (fun h3 => ?_) (fun h3 => ?_))))
    · have q : badR d.ps k = true := by simp only [Bool.not_eq_true'] at h3; simp only [badR, Piece.ok, h3, Bool.and_false, Bool.not_false]
      exact ⟨_, .inl ⟨rfl, no q, rfl⟩, rfl, rfl, _, rpz_r3, ⟨rfl, trivial⟩⟩
    have q : badR d.ps k = false := by simp only [Bool.not_eq_false'] at h0 h1 h2 h3; simp only [badR, Piece.ok, h0, h1, h2, h3, Bool.and_self, Bool.not_true]
    have hw : IntKind.i64.wrap ((k : Int) + 1) = ((k + 1 : Nat) : Int) := (w64 (by omega) (by omega)).trans (by omega)
    refine ⟨k + 1, h, by show d.ps.n - (k + 1) < d.ps.n - k; omega, fun e J h => by unfold rpzR at h ⊢; rw [go q]; exact h, rfl, rfl, _, rpz_go d k (k + 1), ?_⟩
    repeat' first | exact trivial | with_reducible rfl | exact Nat.le_refl _ | exact RowsEq.refl _ _ _ | exact hw | refine And.intro ?_ ?_
  · have h : d.ps.n ≤ k := by have := of_decide_eq_false h; omega
    have hf : firstN (badR d.ps) (d.ps.n - k) k = none := by rw [show d.ps.n - k = 0 by omega]; rfl
    exact ⟨_, .inr ⟨rfl, by rw [hf]; rfl, rfl⟩, rfl, rfl, _, rpz_end, trivial⟩
def rpzX (d : Puz) : List (Prop × Ex × JSt) := [((firstN (badR d.ps) d.ps.n 0).isNone = false, .ret, rpzRet), ((firstN (badR d.ps) d.ps.n 0).isNone = true, .exit 0, rpzEnd)]
abbrev rpzH (P : Program) (d : Puz) : Hnd := { hnd (mkE P tab_rbes) 1 with loop := fun _ => loopT 8 [] (rpzJ d (0 : Nat)) (rpzX d) }
theorem rpz_hnd (d : Puz) (hl : d.ps.n ≤ 1000) (G : Ctx) (hrd : G.rd = none) (hG : G.n = 8) : HndOk (mkE Try.prog tab_rbes) G (rpzH Try.prog d) (bodyOf Try.f40) := by
  refine one_loop (body := bodyK Try.f40 0) (mkE_ok tab_rbes_ok) hrd (by kernel_rfl) ?_
  refine loopT_ok (n0 := 8) (mkE_ok tab_rbes_ok) (by omega) (fun s hs => hnd_hndOk (mkE_ok tab_rbes_ok) 6 G _ hrd) (fun s hs => (by decide : 8 ≤ 96)) ?_ (rpz_round d hl) (s0 := 0) (Nat.zero_le _) ?_
  · rintro s e J (⟨_, _, rfl⟩ | ⟨_, _, rfl⟩) <;> exact (by decide : 8 ≤ 96)
  · rintro e J (⟨rfl, h, rfl⟩ | ⟨rfl, h, rfl⟩)
    · exact ⟨_, List.mem_cons_self, h, rfl, rfl⟩
    · exact ⟨_, List.mem_cons_of_mem _ List.mem_cons_self, h, rfl, rfl⟩
def rpzF : WF (Puz × Unit) := fun | (d, _) => (decide (d.ps.n ≤ 1000), .bool false d.ok, [])
def rpzC : FC := wFC rpzF
set_option maxRecDepth 100000 in
theorem rpz_t (d : Puz) : execW (mkE Try.prog tab_rbes) (rpzH Try.prog d) Try.f40 (ArgsE.vals 0 ((d, ()) : Puz × Unit)) (ArgsE.blks 0 ((d, ()) : Puz × Unit)) 8 =
    Tree.need (true) (Tree.br (!d.play.ok) (Tree.leaf (AV.bool true false) ([])) (Tree.need (true) (Tree.br (!within (↑d.ps.n : Int) (1 : Int) (9 : Int)) (Tree.leaf (AV.bool true false)
    ([])) (Tree.need (true) (Tree.br (!within d.wide (1 : Int) (9 : Int)) (Tree.leaf (AV.bool true false) ([])) (Tree.need (true) (Tree.br (!within d.high (1 : Int) (9 : Int))
    (Tree.leaf (AV.bool true false) ([])) (Tree.br (IntKind.i64.wrap (d.wide * d.high) != (↑d.ps.n : Int)) (Tree.leaf (AV.bool true false) ([])) (Tree.ask ((0 : Nat) = (0 : Nat))
    (Tree.ask ((0 : Nat) = (0 : Nat)) (Tree.ask ((0 : Int) = (0 : Int)) (Tree.ask (d.play.length = d.play.length) (Tree.ask (d.play.slack = d.play.slack) (Tree.ask (d.play.loose =
    d.play.loose) (Tree.ask (d.play.damp.lo = d.play.damp.lo) (Tree.ask (d.play.damp.hi = d.play.damp.hi) (Tree.ask (d.wide = d.wide) (Tree.ask (d.high = d.high) (Tree.ask (d.turn =
    d.turn) (Tree.ask ((0 : Nat) = (0 : Nat)) (Tree.ask (d.ps.n = d.ps.n) (Tree.ask (Cap.of (0 : Nat) = Cap.of (0 : Nat)) (Tree.ask (d.ps.n ≤ d.ps.n) (Tree.ask (RowsEq (28 : Nat) d.ps.n
    (fun i => RowT.enc (d.ps.get i)) fun i => RowT.enc (d.ps.get i)) (Tree.both (Tree.asm ((firstN (badR d.ps) d.ps.n (0 : Nat)).isNone = false) (Tree.all (fun (g0 : Nat → Value) =>
    Tree.leaf (AV.bool false false) ([])))) (Tree.asm ((firstN (badR d.ps) d.ps.n (0 : Nat)).isNone = true) (Tree.all (fun (g1 : Nat → Value) => Tree.leaf (AV.bool true true)
    ([]))))))))))))))))))))))))))))) := by kernel_rfl
theorem rpz_hs : WHnd (mkE Try.prog tab_rbes) (bodyOf Try.f40) 8 rpzF (fun x_ => (rpzH Try.prog x_.1)) := by
  refine ⟨?_⟩
  rintro ⟨d, ⟨⟩⟩ hp G h1 h2
  exact rpz_hnd d (of_decide_eq_true hp) G h1 h2
theorem rpz_run : WRun (mkE Try.prog tab_rbes) Try.f40 8 rpzF (fun x_ => (rpzH Try.prog x_.1)) := by
  refine ⟨?_⟩
  rintro ⟨d, ⟨⟩⟩ hp
  refine ⟨⟨rfl, by simp [rpzF], rfl⟩, ⟨?_⟩⟩
  rw [rpz_t d]
  simp only [rpzF] at hp
  have no : okR d = false → (Tree.leaf (AV.bool true false) []).den (EndOk 8 (rpzF (d, ())).2.1 (rpzF (d, ())).2.2) := fun h => endOk_same (show false = d.ok by rw [← okR_eq, h]) rfl
  refine den_need rfl (den_br (fun h1 => no ?_) (fun h1 => den_need rfl (den_br (fun h2 => no ?_) (fun h2 => den_need rfl (den_br (fun h3 => no ?_) (fun h3 => den_need rfl (den_br (fun h4 => no ?_) (fun h4 => den_br (fun h5 => no ?_) (fun h5 => ?_)))))))))
  · simp only [Bool.not_eq_true'] at h1; simp only [okR, h1, Bool.false_and]
  · simp only [Bool.not_eq_true'] at h2; simp only [okR, h2, Bool.false_and, Bool.and_false]
  · simp only [Bool.not_eq_true'] at h3; simp only [okR, h3, Bool.false_and, Bool.and_false]
  · simp only [Bool.not_eq_true'] at h4; simp only [okR, h4, Bool.false_and, Bool.and_false]
  · have h5 : (IntKind.i64.wrap (d.wide * d.high) == (d.ps.n : Int)) = false := by simpa using h5
    simp only [okR, h5, Bool.false_and, Bool.and_false]
  · have h5 : (IntKind.i64.wrap (d.wide * d.high) == (d.ps.n : Int)) = true := by simpa using h5
    simp only [Bool.not_eq_false'] at h1 h2 h3 h4
    repeat' first | refine den_ask (show _ = _ by with_reducible rfl) ?_ | refine den_ask (show _ ≤ _ from Nat.le_refl _) ?_ | refine den_ask (show RowsEq _ _ _ _ from RowsEq.refl _ _ _) ?_
    refine den_both (den_asm fun h => den_all fun g => ?_) (den_asm fun h => den_all fun g => ?_)
    · exact endOk_same (show false = d.ok by rw [← okR_eq]; simp only [okR, h, Bool.and_false]) rfl
    · exact endOk_same (show true = d.ok by rw [← okR_eq]; simp only [okR, h1, h2, h3, h4, h5, h, Bool.and_self]) rfl
theorem rpz_s : FSound Try.prog 40 rpzC :=
  fn_W (mkE_ok tab_rbes_ok) Try.func40 (by kernel_rfl) (by kernel_rfl) (by decide) rpz_hs rpz_run
def tab_rpz : Tab := addF tab_rbes 40 rpzC
theorem tab_rpz_ok : TabOk tab_rpz := tab_rbes_ok.add rpz_s
end Go.Proofs.Ytbpffdkemeoajaa
