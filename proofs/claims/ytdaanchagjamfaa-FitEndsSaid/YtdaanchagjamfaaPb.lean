/- The first number for which something holds; what Last looks for: plain numbers. -/
import Derived.Test.YtdaanchagjamfaaPa
namespace Go.Proofs.Ytdaanchagjamfaa

def firstN (q : Int → Bool) : Nat → Int → Int
  | 0, k => k
  | n + 1, k => match q k with
    | true => k
    | false => firstN q n (k + 1)
theorem firstN_spec (q : Int → Bool) : ∀ (n : Nat) (k : Int), k ≤ firstN q n k ∧ firstN q n k ≤ k + n ∧ (∀ j, k ≤ j → j < firstN q n k → q j = false) ∧ (firstN q n k < k + n → q (firstN q n k) = true)
  | 0, k => ⟨Int.le_refl _, by simp [firstN], fun j h1 h2 => by simp only [firstN] at h2; omega, fun h => by simp [firstN] at h⟩
  | n + 1, k => by
    simp only [firstN]
    split
    · rename_i h
      exact ⟨Int.le_refl _, by omega, fun j h1 h2 => by omega, fun _ => h⟩
    · rename_i h
      obtain ⟨h1, h2, h3, h4⟩ := firstN_spec q n (k + 1)
      refine ⟨by omega, by omega, fun j g1 g2 => ?_, fun g => h4 (by omega)⟩
      rcases (show j = k ∨ k + 1 ≤ j by omega) with rfl | g3
      · exact h
      · exact h3 j g3 g2
theorem firstN_unique {q : Int → Bool} {n : Nat} {k i : Int} (h0 : k ≤ i) (h1 : i ≤ k + n) (h2 : ∀ j, k ≤ j → j < i → q j = false) (h3 : i < k + n → q i = true) : firstN q n k = i := by
  obtain ⟨g1, g2, g3, g4⟩ := firstN_spec q n k
  rcases (show firstN q n k < i ∨ firstN q n k = i ∨ i < firstN q n k by omega) with h | h | h
  · have := g4 (by omega)
    rw [h2 _ g1 h] at this; cases this
  · exact h
  · have := g3 i h0 h
    rw [h3 (by omega)] at this; cases this
/-- Is the hole wide enough after some strokes? Is it too late? -/
def wideOk (t h : Edge) (w : Sp) (n : Int) : Bool := decide (0 ≤ (wideBy (t.worn w n) (h.worn w n)).lo)
def tooLate (p : Play) (t h : Edge) (w : Sp) (n : Int) : Bool := !((t.worn w n).wide.isIn 1 3000) || (!((h.worn w n).wide.isIn 1 3000) || decide (1000 * p.loose < (wideBy (t.worn w n) (h.worn w n)).hi * (1000 + p.damp.hi)))
theorem wear_mono {w : Sp} {n m : Int} (hw : w.isIn 0 100 = true) (h0 : 0 ≤ n) (h : n ≤ m) : w.lo * n ≤ w.lo * m ∧ w.hi * n ≤ w.hi * m ∧ 0 ≤ w.lo * n ∧ w.lo * n ≤ w.hi * n ∧ w.lo * m ≤ w.hi * m := by
  rw [Sp.isIn_iff] at hw
  exact ⟨Int.mul_le_mul_of_nonneg_left h hw.1, Int.mul_le_mul_of_nonneg_left h (by omega), Int.mul_nonneg hw.1 h0, Int.mul_le_mul_of_nonneg_right hw.2.1 h0, Int.mul_le_mul_of_nonneg_right hw.2.1 (by omega)⟩
theorem wideOk_mono {t h : Edge} {w : Sp} {n m : Int} (ht : t.kind = 1) (hh : h.kind = 2) (hw : w.isIn 0 100 = true) (h0 : 0 ≤ n) (hnm : n ≤ m) (hq : wideOk t h w n = true) : wideOk t h w m = true := by
  obtain ⟨p1, p2, p3, p4, p5⟩ := wear_mono hw h0 hnm
  simp only [wideOk, decide_eq_true_eq, wideBy, Edge.worn, wornSpan, ht, hh, if_pos, show ¬ (2 : Int) = 1 by decide, if_false, down, up] at *
  generalize w.lo * n = x1 at *
  generalize w.lo * m = x2 at *
  omega
theorem tooLate_mono {p : Play} {t h : Edge} {w : Sp} {n m : Int} (ht : t.kind = 1) (hh : h.kind = 2) (hto : t.ok = true) (hho : h.ok = true) (hp : p.ok = true) (hw : w.isIn 0 100 = true) (h0 : 0 ≤ n) (hnm : n ≤ m) (hq : tooLate p t h w n = true) : tooLate p t h w m = true := by
  obtain ⟨p1, p2, p3, p4, p5⟩ := wear_mono hw h0 hnm
  rw [Play.ok_iff] at hp
  rw [Edge.ok_iff] at hto hho
  simp only [tooLate, Bool.or_eq_true, Bool.not_eq_true', Bool.eq_false_iff, ne_eq, Sp.isIn_iff, decide_eq_true_eq, wideBy, Edge.worn, wornSpan, ht, hh, if_pos, show ¬ (2 : Int) = 1 by decide, if_false, down, up] at *
  have hm : (-((-(1000 * h.wide.hi + w.hi * n)) / 1000) - (1000 * t.wide.lo - w.hi * n) / 1000) * (1000 + p.damp.hi) ≤ (-((-(1000 * h.wide.hi + w.hi * m)) / 1000) - (1000 * t.wide.lo - w.hi * m) / 1000) * (1000 + p.damp.hi) :=
    Int.mul_le_mul_of_nonneg_right (by omega) (by omega)
  generalize (-((-(1000 * h.wide.hi + w.hi * n)) / 1000) - (1000 * t.wide.lo - w.hi * n) / 1000) * (1000 + p.damp.hi) = z1 at *
  generalize (-((-(1000 * h.wide.hi + w.hi * m)) / 1000) - (1000 * t.wide.lo - w.hi * m) / 1000) * (1000 + p.damp.hi) = z2 at *
  generalize w.lo * n = x1 at *
  generalize w.lo * m = x2 at *
  generalize w.hi * n = y1 at *
  generalize w.hi * m = y2 at *
  omega
end Go.Proofs.Ytdaanchagjamfaa
