/- The search for a first number, as Last calls it. -/
import Derived.Test.YtdaanchagjamfaaTf
import Derived.Test.YtdaanchagjamfaaSv
import Derived.Test.YtdaanchagjamfaaPb
namespace Go.Proofs.Ytdaanchagjamfaa
open Go.SX

def wideBy2F : Couple × Unit → Bool × AV := fun | (c, _) => (decide (Sm c.t.wide.lo ∧ Sm c.t.wide.hi ∧ Sm c.h.wide.lo ∧ Sm c.h.wide.hi), Enc.enc (wideBy c.t c.h))
def wideBy2C : FC := pureFC (pfOf wideBy2F)
set_option maxRecDepth 100000 in
theorem wideBy2_t (c : Couple) : execFn (mkE Try.prog tab_alive) (hnd (mkE Try.prog tab_alive) 0) false Try.f62 (EncL.enc ((c, ()) : Couple × Unit)) [] 0 =
    Tree.need (decide (Sm c.h.wide.lo ∧ Sm c.h.wide.hi ∧ Sm c.t.wide.lo ∧ Sm c.t.wide.hi)) (Tree.leaf (AV.agg [AV.int false IntKind.i64 (c.h.wide.less c.t.wide).lo, AV.int false
    IntKind.i64 (c.h.wide.less c.t.wide).hi]) []) := by kernel_rfl
theorem wideBy2_s : FSound Try.prog 62 wideBy2C := by
  refine plain_fn tab_alive_ok 0 Try.func62 (by kernel_rfl) (by kernel_rfl) ?_
  rintro ⟨c, ⟨⟩⟩ hp
  rw [wideBy2_t c]
  simp only [wideBy2F, Tree.den, AV.same, AV.sameL, and_true, true_and] at hp ⊢
  have hq := of_decide_eq_true hp
  exact ⟨decide_eq_true ⟨hq.2.2.1, hq.2.2.2, hq.1, hq.2.1⟩, ⟨rfl, rfl⟩, ⟨rfl, rfl⟩, trivial⟩
def tab_wideBy2 : Tab := addF tab_alive 62 wideBy2C
theorem tab_wideBy2_ok : TabOk tab_wideBy2 := tab_alive_ok.add wideBy2_s
def seaB (w2 : Bool) (x : Couple) (w : Sp) (p : Play) : List (Nat × Blk) := [(0, .cellsR 0 3 [.int false .i64 0]), (1, .cellsR 0 73 [match w2 with | false => .fn (.func 61) [.ptr 2 0 0] | true => .fn (.func 63) [.ptr 2 0 0, .ptr 5 0 0]]), (2, .cellsR 0 100 [.fn (.func 59) [.ptr 3 0 0, .ptr 4 0 0, .ptr 5 0 0]]),
  (3, .cellsR 0 86 (Enc.enc x).cells), (4, .cellsR 0 23 (Enc.enc w).cells), (5, .cellsR 0 25 (Enc.enc p).cells)]
structure SeaS where
  w2 : Bool
  x : Couple
  w : Sp
  p : Play
  i : Int
  j : Int
abbrev seaF : AV := .fn (.func 82) [.ptr 1 0 0, .ptr 0 0 0]
def SeaS.I (s : SeaS) : JSt := ⟨26, [(1, seaF), (5, .int false .i64 s.i), (6, .int false .i64 s.j)], seaB s.w2 s.x s.w s.p, 6⟩
def seaLs : Ex → List Nat
  | .normal => [1, 5, 6]
  | .exit _ => [5]
  | .ret => []
def md (i j : Int) : Int := IntKind.i64.wrap ((IntKind.u64.wrap (IntKind.i64.wrap (i + j))).fdiv (2 ^ 1))
def md0 (i j : Int) : Int := IntKind.i64.wrap (0 + md i j)
def SmC (a b : Edge) : Bool := decide (Sm a.wide.lo ∧ Sm a.wide.hi ∧ Sm b.wide.lo ∧ Sm b.wide.hi)
def seaGo (w2 : Bool) (x : Couple) (w : Sp) (p : Play) (a b : Int) : Tree := .leaf (.tup [.nilp, .ptr 26 0 0, seaF, .int false .i64 a, .int false .i64 b]) (seaB w2 x w p)
def sea0 (x : Couple) (w : Sp) (p : Play) (i j : Int) : Tree :=
  .need (SmC (x.t.worn w (md0 i j)) (x.h.worn w (md0 i j))) (.br (!decide ((wideBy (x.t.worn w (md0 i j)) (x.h.worn w (md0 i j))).lo ≥ 0)) (seaGo false x w p (IntKind.i64.wrap (md i j + 1)) j) (seaGo false x w p i (md i j)))
set_option maxRecDepth 100000 in
theorem sea_t0 (x : Couple) (w : Sp) (p : Play) (i j : Int) (g : Nat → Value) : exec (mkE Try.prog tab_wideBy2) (hnd (mkE Try.prog tab_wideBy2) 6) (bodyK Try.f81 0) (JSt.inst (SeaS.I ⟨false, x, w, p, i, j⟩) g) (leafI [0, 1, 2, 3, 4, 5] seaLs) =
    .br (decide (i < j)) (.need (decide (WearB x.t w (md0 i j))) (.need (decide (WearB x.h w (md0 i j))) (.br ((x.t.worn w (md0 i j)).wide.isIn 1 3000) (sea0 x w p i j) (sea0 x w p i j))))
      (.leaf (.tup [.ptr 0 0 0, .ptr 26 0 0, .int false .i64 i]) (seaB false x w p)) := by kernel_rfl
set_option maxRecDepth 100000 in
theorem sea_t1 (x : Couple) (w : Sp) (p : Play) (i j : Int) (g : Nat → Value) : exec (mkE Try.prog tab_wideBy2) (hnd (mkE Try.prog tab_wideBy2) 6) (bodyK Try.f81 0) (JSt.inst (SeaS.I ⟨true, x, w, p, i, j⟩) g) (leafI [0, 1, 2, 3, 4, 5] seaLs) =
    .br (decide (i < j)) (.need (decide (WearB x.t w (md0 i j))) (.need (decide (WearB x.h w (md0 i j))) (.br ((x.t.worn w (md0 i j)).wide.isIn 1 3000)
        (.br (!(x.h.worn w (md0 i j)).wide.isIn 1 3000) (seaGo true x w p i (md i j))
          (.need (SmC (x.t.worn w (md0 i j)) (x.h.worn w (md0 i j))) (.br (!decide (IntKind.i64.wrap ((wideBy (x.t.worn w (md0 i j)) (x.h.worn w (md0 i j))).hi * IntKind.i64.wrap (1000 + p.damp.hi)) > IntKind.i64.wrap (1000 * p.loose)))
            (seaGo true x w p (IntKind.i64.wrap (md i j + 1)) j) (seaGo true x w p i (md i j)))))
        (seaGo true x w p i (md i j)))))
      (.leaf (.tup [.ptr 0 0 0, .ptr 26 0 0, .int false .i64 i]) (seaB true x w p)) := by kernel_rfl

def SeaS.q (s : SeaS) : Int → Bool := match s.w2 with
  | false => wideOk s.x.t s.x.h s.w
  | true => tooLate s.p s.x.t s.x.h s.w
def SeaB (x : Couple) (w : Sp) (p : Play) : Prop := x.t.ok = true ∧ x.h.ok = true ∧ x.t.kind = 1 ∧ x.h.kind = 2 ∧ w.isIn 0 100 = true ∧ p.ok = true
instance (x : Couple) (w : Sp) (p : Play) : Decidable (SeaB x w p) := by unfold SeaB; infer_instance
def SeaS.pre (s : SeaS) : Prop := SeaB s.x s.w s.p ∧ 0 ≤ s.i ∧ s.i ≤ s.j ∧ s.j ≤ 20001 ∧ (∀ k, 0 ≤ k → k < s.i → s.q k = false) ∧ (s.j < 20001 → s.q s.j = true)
def SeaS.mu (s : SeaS) : Nat := (s.j - s.i).toNat
def seaR (s : SeaS) (e : Ex) (J : JSt) : Prop := e = .exit 0 ∧ J = ⟨26, [(5, .int false .i64 (firstN s.q 20001 0))], [], 6⟩
theorem SeaS.mono {s : SeaS} (h : SeaB s.x s.w s.p) {n m : Int} (h0 : 0 ≤ n) (hnm : n ≤ m) (hq : s.q n = true) : s.q m = true := by
  obtain ⟨h1, h2, h3, h4, h5, h6⟩ := h
  unfold SeaS.q at *
  cases hw : s.w2 with
  | false => simp only [hw] at *; exact wideOk_mono h3 h4 h5 h0 hnm hq
  | true => simp only [hw] at *; exact tooLate_mono h3 h4 h1 h2 h6 h5 h0 hnm hq
theorem md_eq {i j : Int} (h0 : 0 ≤ i) (h1 : i ≤ j) (h2 : j ≤ 20001) : md i j = (i + j) / 2 ∧ md0 i j = (i + j) / 2 := by
  have e1 : IntKind.i64.wrap (i + j) = i + j := w64 (by omega) (by omega)
  have e2 : IntKind.u64.wrap (i + j) = i + j := by
    unfold IntKind.wrap
    simp [IntKind.bits, IntKind.signed]
    omega
  have e3 : (i + j).fdiv (2 ^ 1) = (i + j) / 2 := by rw [Int.fdiv_eq_ediv_of_nonneg _ (by decide)]; rfl
  have e4 : md i j = (i + j) / 2 := by unfold md; rw [e1, e2, e3]; exact w64 (by omega) (by omega)
  exact ⟨e4, by unfold md0; rw [e4]; exact (w64 (by omega) (by omega)).trans (by omega)⟩
theorem sea_wear {s : Edge} {w : Sp} {n : Int} (h : s.ok = true) (hk : s.kind = 1 ∨ s.kind = 2) (hw : w.isIn 0 100 = true) (h0 : 0 ≤ n) (h1 : n ≤ 20000) : WearB s w n :=
  wear_B h hw (by simp [within]; omega) (by omega)
theorem worn_sm {s : Edge} {w : Sp} {n : Int} (h : WearB s w n) : Sm (s.worn w n).wide.lo ∧ Sm (s.worn w n).wide.hi ∧ (-50000 ≤ (s.worn w n).wide.lo ∧ (s.worn w n).wide.lo ≤ 50000) ∧ (-50000 ≤ (s.worn w n).wide.hi ∧ (s.worn w n).wide.hi ≤ 50000) := by
  obtain ⟨h1, ⟨h2, h3, h4, h5⟩, h6, h7⟩ := h
  obtain ⟨p1, p2⟩ := mul_bd (a := w.lo) (n := n) h2 h3 h6 h7
  obtain ⟨p3, p4⟩ := mul_bd (a := w.hi) (n := n) h4 h5 h6 h7
  unfold SideB at h1
  unfold Sm
  simp only [Edge.worn, wornSpan]
  split <;> simp only [down, up] <;> omega
theorem seaB_sub (w2 : Bool) (x : Couple) (w : Sp) (p : Play) : subH (fun i => i) (seaB w2 x w p) (seaB w2 x w p) := by
  cases w2 <;> refine ⟨⟨_, rfl, rfl, rfl, ?_⟩, ⟨_, rfl, rfl, rfl, ?_⟩, ⟨_, rfl, rfl, rfl, ?_⟩, ⟨_, rfl, rfl, rfl, ?_⟩, ⟨_, rfl, rfl, rfl, ?_⟩, ⟨_, rfl, rfl, rfl, ?_⟩, trivial⟩ <;> simp [Enc.enc, AV.cells, AV.sameRL, AV.sameR]
theorem seaB_ok (w2 : Bool) (x : Couple) (w : Sp) (p : Play) : noDfr (seaB w2 x w p) = true ∧ injB (fun i => i) (seaB w2 x w p) = true := by cases w2 <;> exact ⟨rfl, rfl⟩
theorem seaI_ok (s : SeaS) : scopeJ s.I = true := by
  obtain ⟨w2, x, w, p, i, j⟩ := s
  cases w2 <;> rfl
theorem seaI_sub (s : SeaS) : SubV 6 (fun i => i) [1, 5, 6] 26 [seaF, .int false .i64 s.i, .int false .i64 s.j] (seaB s.w2 s.x s.w s.p) s.I :=
  SubV.same rfl rfl ⟨⟨rfl, ⟨rfl, rfl, rfl⟩, ⟨rfl, rfl, rfl⟩, trivial⟩, ⟨rfl, rfl⟩, ⟨rfl, rfl⟩, trivial⟩ (seaB_sub _ _ _ _) (seaI_ok s) (seaB_ok _ _ _ _).2 (seaB_ok _ _ _ _).1 (Nat.le_refl _)
theorem seaGo_low {s : SeaS} (hp : s.pre) (hlt : s.i < s.j) (hq : s.q ((s.i + s.j) / 2) = false) : (seaGo s.w2 s.x s.w s.p ((s.i + s.j) / 2 + 1) s.j).den (LoopLeaf (Goes SeaS.I SeaS.pre SeaS.mu seaR 6 seaLs s) (Go.SX.Leaves seaR 6 seaLs s)) := by
  obtain ⟨hB, h0, h1, h2, h3, h4⟩ := hp
  refine ⟨{ s with i := (s.i + s.j) / 2 + 1 }, fun i => i, ⟨hB, ?_, ?_, h2, fun k hk0 hk1 => ?_, h4⟩, ?_, fun e J h => h, seaI_sub { s with i := (s.i + s.j) / 2 + 1 }⟩
  · show 0 ≤ (s.i + s.j) / 2 + 1; omega
  · show (s.i + s.j) / 2 + 1 ≤ s.j; omega
  · show s.q k = false
    have hk1 : k < (s.i + s.j) / 2 + 1 := hk1
    cases hqk : s.q k with
    | false => rfl
    | true =>
      have := SeaS.mono hB hk0 (show k ≤ (s.i + s.j) / 2 by omega) hqk
      rw [hq] at this; cases this
  · show (s.j - ((s.i + s.j) / 2 + 1)).toNat < (s.j - s.i).toNat; omega
theorem seaGo_high {s : SeaS} (hp : s.pre) (hlt : s.i < s.j) (hq : s.q ((s.i + s.j) / 2) = true) : (seaGo s.w2 s.x s.w s.p s.i ((s.i + s.j) / 2)).den (LoopLeaf (Goes SeaS.I SeaS.pre SeaS.mu seaR 6 seaLs s) (Go.SX.Leaves seaR 6 seaLs s)) := by
  obtain ⟨hB, h0, h1, h2, h3, h4⟩ := hp
  refine ⟨{ s with j := (s.i + s.j) / 2 }, fun i => i, ⟨hB, h0, ?_, ?_, h3, fun _ => hq⟩, ?_, fun e J h => h, seaI_sub { s with j := (s.i + s.j) / 2 }⟩
  · show s.i ≤ (s.i + s.j) / 2; omega
  · show (s.i + s.j) / 2 ≤ 20001; omega
  · show ((s.i + s.j) / 2 - s.i).toNat < (s.j - s.i).toNat; omega
theorem sea_end {s : SeaS} (hp : s.pre) (hlt : ¬ s.i < s.j) : (Tree.leaf (.tup [.ptr 0 0 0, .ptr 26 0 0, .int false .i64 s.i]) (seaB s.w2 s.x s.w s.p)).den (LoopLeaf (Goes SeaS.I SeaS.pre SeaS.mu seaR 6 seaLs s) (Go.SX.Leaves seaR 6 seaLs s)) := by
  obtain ⟨hB, h0, h1, h2, h3, h4⟩ := hp
  have hij : s.i = s.j := by omega
  have e : firstN s.q 20001 0 = s.i := firstN_unique h0 (by omega) h3 (fun h => by rw [hij]; exact h4 (by omega))
  exact ⟨⟨26, [(5, .int false .i64 (firstN s.q 20001 0))], [], 6⟩, fun i => i, ⟨rfl, rfl⟩, SubV.same rfl rfl ⟨⟨rfl, e.symm⟩, trivial⟩ trivial rfl rfl (seaB_ok _ _ _ _).1 (Nat.le_refl _)⟩
theorem sea_round : RoundOkI SeaS.I SeaS.pre SeaS.mu seaR 6 seaLs [0, 1, 2, 3, 4, 5] (mkE Try.prog tab_wideBy2) (hnd (mkE Try.prog tab_wideBy2) 6) (bodyK Try.f81 0) := by
  rintro ⟨w2, x, w, p, i, j⟩ g hp
  have hpp := hp
  obtain ⟨hB, h0, h1, h2, h3, h4⟩ := hpp
  obtain ⟨b1, b2, b3, b4, b5, b6⟩ := hB
  simp only at h0 h1 h2
  have hlow := seaGo_low hp
  have hhigh := seaGo_high hp
  have hend := sea_end hp
  simp only at b1 b2 b3 b4 b5 b6 hlow hhigh hend
  obtain ⟨e1, e2⟩ := md_eq h0 h1 h2
  have hm0 : 0 ≤ (i + j) / 2 := by omega
  by_cases hlt : i < j
  · have hm1 : (i + j) / 2 ≤ 20000 := by omega
    have w1 : WearB x.t w ((i + j) / 2) := sea_wear b1 (.inl b3) b5 hm0 hm1
    have w2' : WearB x.h w ((i + j) / 2) := sea_wear b2 (.inr b4) b5 hm0 hm1
    obtain ⟨m1, m2, m3, m4⟩ := worn_sm w1
    obtain ⟨m5, m6, m7, m8⟩ := worn_sm w2'
    have hSm : SmC (x.t.worn w ((i + j) / 2)) (x.h.worn w ((i + j) / 2)) = true := decide_eq_true ⟨m1, m2, m5, m6⟩
    have e3 : IntKind.i64.wrap ((i + j) / 2 + 1) = (i + j) / 2 + 1 := w64 (by omega) (by omega)
    cases w2 with
    | false =>
      rw [sea_t0]
      simp only [Tree.den, sea0, e1, e2, e3, hSm, decide_eq_true w1, decide_eq_true w2', true_and, decide_eq_true_eq, Bool.not_eq_true', decide_eq_false_iff_not, Bool.not_eq_false']
      refine ⟨fun _ => ?_, fun h => absurd hlt h⟩
      have key : (¬ (wideBy (x.t.worn w ((i + j) / 2)) (x.h.worn w ((i + j) / 2))).lo ≥ 0 → (seaGo false x w p ((i + j) / 2 + 1) j).den (LoopLeaf (Goes SeaS.I SeaS.pre SeaS.mu seaR 6 seaLs ⟨false, x, w, p, i, j⟩) (Go.SX.Leaves seaR 6 seaLs ⟨false, x, w, p, i, j⟩))) ∧
          ((wideBy (x.t.worn w ((i + j) / 2)) (x.h.worn w ((i + j) / 2))).lo ≥ 0 → (seaGo false x w p i ((i + j) / 2)).den (LoopLeaf (Goes SeaS.I SeaS.pre SeaS.mu seaR 6 seaLs ⟨false, x, w, p, i, j⟩) (Go.SX.Leaves seaR 6 seaLs ⟨false, x, w, p, i, j⟩))) :=
        ⟨fun h => hlow hlt (decide_eq_false h), fun h => hhigh hlt (decide_eq_true h)⟩
      exact ⟨fun _ => key, fun _ => key⟩
    | true =>
      have hp6 := b6
      rw [Play.ok_iff] at hp6
      have hm := mul_sm (a := (wideBy (x.t.worn w ((i + j) / 2)) (x.h.worn w ((i + j) / 2))).hi) (m := 1000 + p.damp.hi) (by simp only [wideBy]; omega) (by simp only [wideBy]; omega) (by omega) (by omega)
      rw [sea_t1]
      rw [w64 (n := 1000 + p.damp.hi) (by omega) (by omega), w64 (n := 1000 * p.loose) (by omega) (by omega)]
      simp only [Tree.den, e1, e2, e3, hSm, decide_eq_true w1, decide_eq_true w2', true_and, decide_eq_true_eq, Bool.not_eq_true', decide_eq_false_iff_not, Bool.not_eq_false']
      rw [w64 (by omega) (by omega)]
      refine ⟨fun _ => ⟨fun ht => ⟨fun hh => hhigh hlt ?_, fun hh => ⟨fun h => hlow hlt ?_, fun h => hhigh hlt ?_⟩⟩, fun ht => hhigh hlt ?_⟩, fun h => absurd hlt h⟩
      · show tooLate p x.t x.h w ((i + j) / 2) = true
        simp [tooLate, hh]
      · show tooLate p x.t x.h w ((i + j) / 2) = false
        simp only [tooLate, ht, hh, Bool.not_true, Bool.false_or, decide_eq_false_iff_not]
        omega
      · show tooLate p x.t x.h w ((i + j) / 2) = true
        simp only [tooLate, ht, hh, Bool.not_true, Bool.false_or, decide_eq_true_eq]
        omega
      · show tooLate p x.t x.h w ((i + j) / 2) = true
        simp [tooLate, ht]
  · have := hend hlt
    cases w2 with
    | false => rw [sea_t0]; exact ⟨fun h => absurd (of_decide_eq_true h) hlt, fun _ => this⟩
    | true => rw [sea_t1]; exact ⟨fun h => absurd (of_decide_eq_true h) hlt, fun _ => this⟩
end Go.Proofs.Ytdaanchagjamfaa
