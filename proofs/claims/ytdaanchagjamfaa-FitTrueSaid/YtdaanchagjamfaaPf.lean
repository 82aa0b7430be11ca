/- What FitTrue says: plain numbers. -/
import Derived.Test.YtdaanchagjamfaaPe
import Derived.Test.YtdaanchagjamfaaSw
import Derived.Test.YtdaanchagjamfaaTa
namespace Go.Proofs.Ytdaanchagjamfaa
open Go.SX

theorem alw_at {sl sh lo hi dl dh v m : Int} (h : alwaysB sl sh lo hi dh = true) (h0 : lo ≤ 0) (h1 : 0 ≤ hi) (d0 : 0 ≤ dl) (v0 : sl ≤ v) (v1 : v ≤ sh) (m0 : dl ≤ m) (m1 : m ≤ dh) : 1000 * lo ≤ v * (1000 + m) ∧ v * (1000 + m) ≤ 1000 * hi := by
  have := always_mono (sl' := v) (sh' := v) (dh' := m) h h0 h1 v0 v1 (Int.le_refl _) (Int.le_refl _) (by omega) m1
  rw [alwaysB_iff] at this
  exact this
theorem may_at {sl sh lo hi dl v m : Int} (h0 : lo ≤ 0) (h1 : 0 ≤ hi) (d0 : 0 ≤ dl) (v0 : sl ≤ v) (v1 : v ≤ sh) (m0 : dl ≤ m) (g0 : 1000 * lo ≤ v * (1000 + m)) (g1 : v * (1000 + m) ≤ 1000 * hi) : perhapsB sl sh lo hi dl = true := by
  refine perhaps_some (n := v) h0 h1 d0 v0 v1 ?_ ?_
  · rcases (show 0 ≤ v ∨ v < 0 by omega) with q | q
    · have := Int.mul_nonneg q (show 0 ≤ 1000 + dl by omega); omega
    · have : (-v) * (1000 + dl) ≤ (-v) * (1000 + m) := Int.mul_le_mul_of_nonneg_left (by omega) (by omega)
      rw [Int.neg_mul, Int.neg_mul] at this; omega
  · rcases (show v ≤ 0 ∨ 0 < v by omega) with q | q
    · have := Int.mul_nonneg (show 0 ≤ -v by omega) (show 0 ≤ 1000 + dl by omega)
      rw [Int.neg_mul] at this; omega
    · have : v * (1000 + dl) ≤ v * (1000 + m) := Int.mul_le_mul_of_nonneg_left (by omega) (by omega)
      omega
theorem damped_at {s d : Sp} {v m : Int} (d0 : 0 ≤ d.lo) (v0 : s.lo ≤ v) (v1 : v ≤ s.hi) (m0 : d.lo ≤ m) (m1 : m ≤ d.hi) : 1000 * (s.damped d).lo ≤ v * (1000 + m) ∧ v * (1000 + m) ≤ 1000 * (s.damped d).hi := by
  have a1 := mul_le_pos (m := 1000 + m) v0 (by omega)
  have a2 := mul_le_pos (m := 1000 + m) v1 (by omega)
  have b1 : min (s.lo * (1000 + d.lo)) (s.lo * (1000 + d.hi)) ≤ s.lo * (1000 + m) := by
    rcases (show 0 ≤ s.lo ∨ s.lo < 0 by omega) with q | q
    · have : s.lo * (1000 + d.lo) ≤ s.lo * (1000 + m) := Int.mul_le_mul_of_nonneg_left (by omega) q
      omega
    · have : (-s.lo) * (1000 + m) ≤ (-s.lo) * (1000 + d.hi) := Int.mul_le_mul_of_nonneg_left (by omega) (by omega)
      rw [Int.neg_mul, Int.neg_mul] at this; omega
  have b2 : s.hi * (1000 + m) ≤ max (s.hi * (1000 + d.lo)) (s.hi * (1000 + d.hi)) := by
    rcases (show 0 ≤ s.hi ∨ s.hi < 0 by omega) with q | q
    · have : s.hi * (1000 + m) ≤ s.hi * (1000 + d.hi) := Int.mul_le_mul_of_nonneg_left (by omega) q
      omega
    · have : (-s.hi) * (1000 + d.lo) ≤ (-s.hi) * (1000 + m) := Int.mul_le_mul_of_nonneg_left (by omega) (by omega)
      rw [Int.neg_mul, Int.neg_mul] at this; omega
  simp only [Sp.damped, down, up]
  generalize min (s.lo * (1000 + d.lo)) (s.lo * (1000 + d.hi)) = x1 at *
  generalize max (s.hi * (1000 + d.lo)) (s.hi * (1000 + d.hi)) = x2 at *
  omega
def Good (p : Play) (x0 x1 x2 : Int) : Prop := (x0 ≤ 1000 * p.slack ∧ -1000 * p.slack ≤ x0) ∧ (0 ≤ x1 ∧ x1 ≤ 1000 * p.loose) ∧ 0 ≤ x2 ∧ x2 ≤ 1000 * p.loose
def InGap (g : Gap) (x0 x1 x2 : Int) : Prop := (1000 * g.off.lo ≤ x0 ∧ x0 ≤ 1000 * g.off.hi) ∧ (1000 * g.wide.lo ≤ x1 ∧ x1 ≤ 1000 * g.wide.hi) ∧ 1000 * g.deep.lo ≤ x2 ∧ x2 ≤ 1000 * g.deep.hi
/-- In each truth. -/
theorem tru {p : Play} {t h : Edge} (hp : p.ok = true) (ht : t.ok = true) (hh : h.ok = true) (kt : t.kind = 1) (kh : h.kind = 2) {m u1 u2 v1 v2 w1 w2 : Int} (hm : p.damp.lo ≤ m ∧ m ≤ p.damp.hi) (hu1 : t.at_.lo ≤ u1 ∧ u1 ≤ t.at_.hi) (hu2 : h.at_.lo ≤ u2 ∧ u2 ≤ h.at_.hi)
    (hv2 : h.wide.lo ≤ v2 ∧ v2 ≤ h.wide.hi) (hv1 : t.wide.lo ≤ v1 ∧ v1 ≤ t.wide.hi) (hw2 : h.deep.lo ≤ w2 ∧ w2 ≤ h.deep.hi) (hw1 : t.deep.lo ≤ w1 ∧ w1 ≤ t.deep.hi) :
    (verd p t h = 2 → Good p ((u1 + u2 - p.length) * (1000 + m)) ((v2 - v1) * (1000 + m)) ((w2 - w1) * (1000 + m))) ∧
    (verd p t h = 0 → ¬ Good p ((u1 + u2 - p.length) * (1000 + m)) ((v2 - v1) * (1000 + m)) ((w2 - w1) * (1000 + m))) ∧
    InGap (gapOf p t h) ((u1 + u2 - p.length) * (1000 + m)) ((v2 - v1) * (1000 + m)) ((w2 - w1) * (1000 + m)) := by
  have hpi := hp
  rw [Play.ok_iff] at hpi
  have o0 : (offBy p t h).lo ≤ u1 + u2 - p.length ∧ u1 + u2 - p.length ≤ (offBy p t h).hi := by simp only [offBy]; omega
  have o1 : (wideBy t h).lo ≤ v2 - v1 ∧ v2 - v1 ≤ (wideBy t h).hi := by simp only [wideBy]; omega
  have o2 : (deepBy t h).lo ≤ w2 - w1 ∧ w2 - w1 ≤ (deepBy t h).hi := by simp only [deepBy]; omega
  refine ⟨fun hv => ?_, fun hv hg => ?_, ?_⟩
  · rw [verd_two] at hv
    have a0 := alw_at (dl := p.damp.lo) hv.1 (by omega) (by omega) (by omega) o0.1 o0.2 hm.1 hm.2
    have a1 := alw_at (dl := p.damp.lo) hv.2.1 (by omega) (by omega) (by omega) o1.1 o1.2 hm.1 hm.2
    have a2 := alw_at (dl := p.damp.lo) hv.2.2 (by omega) (by omega) (by omega) o2.1 o2.2 hm.1 hm.2
    unfold Good
    omega
  · rw [verd_zero hp ht hh kt kh] at hv
    unfold Good at hg
    refine hv ⟨may_at (by omega) (by omega) (by omega) o0.1 o0.2 hm.1 (by omega) (by omega), may_at (by omega) (by omega) (by omega) o1.1 o1.2 hm.1 (by omega) (by omega), may_at (by omega) (by omega) (by omega) o2.1 o2.2 hm.1 (by omega) (by omega)⟩
  · exact ⟨damped_at (by omega) o0.1 o0.2 hm.1 hm.2, damped_at (by omega) o1.1 o1.2 hm.1 hm.2, damped_at (by omega) o2.1 o2.2 hm.1 hm.2⟩
theorem gap_bd {p : Play} {t h : Edge} (hp : p.ok = true) (ht : t.ok = true) (hh : h.ok = true) (kt : t.kind = 1) (kh : h.kind = 2) :
    (Sm (gapOf p t h).off.lo ∧ Sm (gapOf p t h).off.hi) ∧ (Sm (gapOf p t h).wide.lo ∧ Sm (gapOf p t h).wide.hi) ∧ Sm (gapOf p t h).deep.lo ∧ Sm (gapOf p t h).deep.hi := by
  have key : ∀ s : Sp, -100000 ≤ s.lo → s.lo ≤ 100000 → -100000 ≤ s.hi → s.hi ≤ 100000 → Sm (s.damped p.damp).lo ∧ Sm (s.damped p.damp).hi := by
    intro s h1 h2 h3 h4
    rw [Play.ok_iff] at hp
    obtain ⟨m1, m2⟩ := mul_sm (a := s.lo) (m := 1000 + p.damp.lo) (by omega) (by omega) (by omega) (by omega)
    obtain ⟨m3, m4⟩ := mul_sm (a := s.lo) (m := 1000 + p.damp.hi) (by omega) (by omega) (by omega) (by omega)
    obtain ⟨m5, m6⟩ := mul_sm (a := s.hi) (m := 1000 + p.damp.lo) (by omega) (by omega) (by omega) (by omega)
    obtain ⟨m7, m8⟩ := mul_sm (a := s.hi) (m := 1000 + p.damp.hi) (by omega) (by omega) (by omega) (by omega)
    exact ⟨down_sm (by unfold Sm; omega), up_sm (by unfold Sm; omega)⟩
  rw [Play.ok_iff] at hp
  rw [Edge.ok_iff] at ht hh
  refine ⟨key _ ?_ ?_ ?_ ?_, key _ ?_ ?_ ?_ ?_, key _ ?_ ?_ ?_ ?_⟩ <;> simp only [offBy, wideBy, deepBy] <;> omega
/-- A true width of a worn side. -/
theorem worn_at {s : Edge} {w : Sp} {k y z : Int} (hy : s.wide.lo ≤ y ∧ y ≤ s.wide.hi) (hz : w.lo ≤ z ∧ z ≤ w.hi) (hk : 0 ≤ k) :
    (s.kind = 1 → 1000 * (s.worn w k).wide.lo ≤ 1000 * y - z * k ∧ 1000 * y - z * k ≤ 1000 * (s.worn w k).wide.hi) ∧ (s.kind ≠ 1 → 1000 * (s.worn w k).wide.lo ≤ 1000 * y + z * k ∧ 1000 * y + z * k ≤ 1000 * (s.worn w k).wide.hi) := by
  have a1 := mul_le_pos (m := k) hz.1 hk
  have a2 := mul_le_pos (m := k) hz.2 hk
  refine ⟨fun h1 => ?_, fun h1 => ?_⟩
  · simp only [Edge.worn, wornSpan, if_pos h1, down, up]
    generalize w.lo * k = x1 at *
    generalize z * k = x2 at *
    generalize w.hi * k = x3 at *
    omega
  · simp only [Edge.worn, wornSpan, if_neg h1, down, up]
    generalize w.lo * k = x1 at *
    generalize z * k = x2 at *
    generalize w.hi * k = x3 at *
    omega
theorem bad_no {p : Play} {V x0 x1 x2 : Int} {b1 b2 b3 b4 b5 c1 c2 c3 c4 c5 : Bool} (vc : V = 0 ∨ V = 1 ∨ V = 2) (T1 : V = 2 → Good p x0 x1 x2) (T2 : V = 0 → ¬ Good p x0 x1 x2)
    (h1 : b1 = (decide (x0 ≤ 1000 * p.slack) && decide (x0 ≥ -1000 * p.slack))) (h2 : b2 = (b1 && decide (x1 ≥ 0))) (h3 : b3 = (b2 && decide (x1 ≤ 1000 * p.loose))) (h4 : b4 = (b3 && decide (x2 ≥ 0))) (h5 : b5 = (b4 && decide (x2 ≤ 1000 * p.loose)))
    (g1 : c1 = (V == 2 && !b5)) (g2 : c2 = (V == 0 && b5)) (g3 : c3 = (c1 || c2)) (g4 : c4 = (c3 || decide (V < 0))) (g5 : c5 = (c4 || decide (V > 2))) : c5 = false := by
  have e5 : b5 = true ↔ Good p x0 x1 x2 := by
    subst h1 h2 h3 h4 h5
    unfold Good
    simp only [Bool.and_eq_true, decide_eq_true_eq]
    constructor <;> intro h <;> omega
  clear h1 h2 h3 h4 h5
  subst g1 g2 g3 g4 g5
  rcases vc with rfl | rfl | rfl
  · have : b5 = false := by rw [← Bool.not_eq_true, e5]; exact T2 rfl
    simp [this]
  · simp
  · have : b5 = true := e5.2 (T1 rfl)
    simp [this]
/-- A draw. -/
theorem den_draw {Q : AV → List (Nat × Go.SX.Blk) → Prop} {n : Nat} {c lo hi X : Int} {f : Int → Go.SX.Tree} (hn : 0 < n) (hc : 0 ≤ c) (hl : -1000000 ≤ lo) (hlh : lo ≤ hi) (hh : hi ≤ 1000000) (h : ∀ y, lo ≤ y → y ≤ hi → (f y).den Q) :
    (Go.SX.Tree.need (!decide ((n : Int) = 0) && (decide (0 ≤ c.tmod n ∧ c.tmod n < n) && (decide (0 + (c.tmod n).toNat < n) && (!decide (IntKind.i64.wrap (IntKind.i64.wrap (hi - lo) + 1) = 0) && true))))
      (Go.SX.Tree.bndI (IntKind.i64.wrap (lo + (IntKind.i64.wrap (IntKind.u16.wrap X)).tmod (IntKind.i64.wrap (IntKind.i64.wrap (hi - lo) + 1)))) f)).den Q := by
  have e1 : IntKind.i64.wrap (IntKind.i64.wrap (hi - lo) + 1) = hi - lo + 1 := by
    rw [w64 (n := hi - lo) (by omega) (by omega), w64 (n := hi - lo + 1) (by omega) (by omega)]
  have hX : 0 ≤ IntKind.u16.wrap X ∧ IntKind.u16.wrap X ≤ 65535 := by
    have e : IntKind.u16.wrap X = X % 65536 := rfl
    rw [e]; omega
  have e2 : IntKind.i64.wrap (IntKind.u16.wrap X) = IntKind.u16.wrap X := w64 (by omega) (by omega)
  have t1 : 0 ≤ c.tmod n ∧ c.tmod n < n := by
    rw [Int.tmod_eq_emod_of_nonneg hc]
    exact ⟨Int.emod_nonneg _ (by omega), Int.emod_lt_of_pos _ (by omega)⟩
  have t2 : 0 ≤ (IntKind.u16.wrap X).tmod (hi - lo + 1) ∧ (IntKind.u16.wrap X).tmod (hi - lo + 1) < hi - lo + 1 := by
    rw [Int.tmod_eq_emod_of_nonneg hX.1]
    exact ⟨Int.emod_nonneg _ (by omega), Int.emod_lt_of_pos _ (by omega)⟩
  rw [e1, e2]
  refine Go.SX.den_need ?_ (Go.SX.den_bndI fun y hy => ?_)
  · simp only [Bool.and_eq_true, Bool.not_eq_true', decide_eq_true_eq, decide_eq_false_iff_not, and_true]
    omega
  · rw [w64 (by omega) (by omega)] at hy
    exact h y (by omega) (by omega)
end Go.Proofs.Ytdaanchagjamfaa
