/- A side that is worn twice: plain numbers. -/
import Derived.Test.YtdaanchagjamfaaTc
namespace Go.Proofs.Ytdaanchagjamfaa

theorem worn_in {s : Edge} {w : Sp} {n : Int} (hs : s.ok = true) (hw : w.isIn 0 100 = true) (hk : s.kind ≠ 0) (h0 : 0 ≤ n) (h1 : n ≤ 20000) : WornF s w n = if (s.worn w n).wide.isIn 1 3000 = true then (s.worn w n, 0) else (.zero, 11) := by
  unfold WornF
  rw [if_pos hs, if_pos ⟨hw, by simp [within]; omega⟩, if_neg hk]
theorem worn_err {s : Edge} {w : Sp} {n : Int} (h : (WornF s w n).2 ≠ 0) : (WornF s w n).1 = .zero ∧ ((WornF s w n).2 = 1 ↔ s.ok = false) := by
  unfold WornF at *
  by_cases h1 : s.ok = true
  · rw [if_pos h1] at *
    by_cases h2 : w.isIn 0 100 = true ∧ within n 0 20000 = true
    · rw [if_pos h2] at *
      by_cases h3 : s.kind = 0
      · rw [if_pos h3] at *; simp [h1]
      · rw [if_neg h3] at *
        by_cases h4 : (s.worn w n).wide.isIn 1 3000 = true
        · rw [if_pos h4] at h; exact absurd rfl h
        · rw [if_neg h4] at *; simp [h1]
    · rw [if_neg h2] at *; simp [h1]
  · rw [if_neg h1] at *; simp at h1; simp [h1]
theorem worn_ok {s : Edge} {w : Sp} {n : Int} (h : (WornF s w n).2 = 0) : s.ok = true ∧ w.isIn 0 100 = true ∧ s.kind ≠ 0 ∧ (0 ≤ n ∧ n ≤ 20000) ∧ (s.worn w n).wide.isIn 1 3000 = true ∧ (WornF s w n).1 = s.worn w n := by
  unfold WornF at *
  by_cases h1 : s.ok = true
  · rw [if_pos h1] at *
    by_cases h2 : w.isIn 0 100 = true ∧ within n 0 20000 = true
    · rw [if_pos h2] at *
      by_cases h3 : s.kind = 0
      · rw [if_pos h3] at h; simp at h
      · rw [if_neg h3] at *
        by_cases h4 : (s.worn w n).wide.isIn 1 3000 = true
        · rw [if_pos h4] at *; exact ⟨h1, h2.1, h3, by simpa [within] using h2.2, h4, rfl⟩
        · rw [if_neg h4] at h; simp at h
    · rw [if_neg h2] at h; simp at h
  · rw [if_neg h1] at h; simp at h
theorem worn_same {s : Edge} {w : Sp} (h : (WornF s w 0).2 = 0) : (WornF s w 0).1 = s := by
  obtain ⟨_, _, _, _, _, e⟩ := worn_ok h
  rw [e]
  obtain ⟨k, a, ⟨wl, wh⟩, d⟩ := s
  unfold Edge.worn wornSpan
  have e1 : down (1000 * wl) = wl := by unfold down; omega
  have e2 : up (1000 * wh) = wh := by unfold up; omega
  simp only [Int.mul_zero, Int.sub_zero, Int.add_zero, e1, e2]
  split <;> rfl
theorem edge_kind {s : Edge} (h : s.ok = true) (hk : s.kind ≠ 0) : s.kind = 1 ∨ s.kind = 2 := by rw [Edge.ok_iff] at h; omega
theorem worn_side {s : Edge} {w : Sp} {n : Int} (h : s.ok = true) (hk : s.kind ≠ 0) (hi : (s.worn w n).wide.isIn 1 3000 = true) : (s.worn w n).ok = true := by
  rw [Edge.ok_iff] at h ⊢
  rw [Sp.isIn_iff] at hi
  simp only [Edge.worn] at *
  omega
theorem wear_prod {w : Sp} {a b : Int} (hw : w.isIn 0 100 = true) (ha : 0 ≤ a) (hb : 0 ≤ b) : 0 ≤ w.lo * a ∧ w.lo * a ≤ w.hi * a ∧ 0 ≤ w.lo * b ∧ w.lo * b ≤ w.hi * b ∧ w.lo * (a + b) = w.lo * a + w.lo * b ∧ w.hi * (a + b) = w.hi * a + w.hi * b := by
  rw [Sp.isIn_iff] at hw
  exact ⟨Int.mul_nonneg hw.1 ha, Int.mul_le_mul_of_nonneg_right hw.2.1 ha, Int.mul_nonneg hw.1 hb, Int.mul_le_mul_of_nonneg_right hw.2.1 hb, Int.mul_add _ _ _, Int.mul_add _ _ _⟩
/-- What wears on wears on; twice is no more than once. -/
theorem again {s : Edge} {w : Sp} {a b : Int} (hs : s.ok = true) (hw : w.isIn 0 100 = true) (hk : s.kind ≠ 0) (ha : 0 ≤ a) (hb : 0 ≤ b) :
    ((s.worn w (a + b)).wide.isIn 1 3000 = true → (s.worn w a).wide.isIn 1 3000 = true) ∧
    (((s.worn w a).worn w b).wide.lo ≤ (s.worn w (a + b)).wide.lo ∧ (s.worn w (a + b)).wide.hi ≤ ((s.worn w a).worn w b).wide.hi) ∧
    (s.kind = 1 → (s.worn w (a + b)).wide.lo ≤ s.wide.lo ∧ (s.worn w (a + b)).wide.hi ≤ s.wide.hi) ∧ (s.kind ≠ 1 → s.wide.lo ≤ (s.worn w (a + b)).wide.lo ∧ s.wide.hi ≤ (s.worn w (a + b)).wide.hi) ∧
    (s.worn w (a + b)).wide.lo ≤ (s.worn w (a + b)).wide.hi := by
  obtain ⟨p1, p2, p3, p4, p5, p6⟩ := wear_prod hw ha hb
  have hwd : s.wide.lo ≤ s.wide.hi ∧ 1 ≤ s.wide.lo ∧ s.wide.hi ≤ 3000 := by rw [Edge.ok_iff] at hs; omega
  simp only [Edge.worn, wornSpan, p5, p6, Sp.isIn_iff]
  generalize w.lo * a = x1 at *
  generalize w.hi * a = x2 at *
  generalize w.lo * b = y1 at *
  generalize w.hi * b = y2 at *
  by_cases hk1 : s.kind = 1
  · simp only [hk1, if_pos, down, up]
    refine ⟨?_, ?_, ?_, ?_, ?_⟩
    all_goals first | omega | (intros; omega) | (intro h; exact absurd h (by simp))
  · simp only [hk1, if_false, down, up]
    refine ⟨?_, ?_, ?_, ?_, ?_⟩
    all_goals first | omega | (intros; omega) | (intro h; exact absurd h (by simp))
end Go.Proofs.Ytdaanchagjamfaa
