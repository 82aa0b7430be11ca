/- What FitStrokes says: plain numbers. -/
import Derived.Test.YtdaanchagjamfaaPc
namespace Go.Proofs.Ytdaanchagjamfaa

/-- A tab and a hole, in either order, and all is valid. -/
def pairOk (p : Play) (a b : Edge) (w : Sp) : Prop := p.ok = true ∧ a.ok = true ∧ b.ok = true ∧ w.isIn 0 100 = true ∧ ((a.kind = 1 ∧ b.kind = 2) ∨ (a.kind = 2 ∧ b.kind = 1))
def goodB (p : Play) (t h : Edge) (w : Sp) (n : Int) : Bool := wideOk t h w n && (!(tooLate p t h w n) && (alw p t h 0 && alw p t h 2))
def tabOf (a b : Edge) : Edge := if a.kind = 2 then b else a
def holeOf (a b : Edge) : Edge := if a.kind = 2 then a else b
theorem lastsB_good {p : Play} {a b : Edge} {w : Sp} (h : pairOk p a b w) {n : Int} (h0 : 0 ≤ n) (h1 : n ≤ 20000) : lastsB p a b w n = goodB p (tabOf a b) (holeOf a b) w n := by
  obtain ⟨hp, ha, hb, hw, hk⟩ := h
  unfold lastsB goodB tabOf holeOf
  rcases hk with ⟨ka, kb⟩ | ⟨ka, kb⟩
  · rw [if_neg (by omega), if_neg (by omega), ← lasts_core hp ha hb hw ka kb h0 h1]
    by_cases ga : (WornF a w n).2 = 0
    · by_cases gb : (WornF b w n).2 = 0
      · obtain ⟨_, _, _, _, _, ea⟩ := worn_ok ga
        obtain ⟨_, _, _, _, _, eb⟩ := worn_ok gb
        have e1 : (WornF a w n).1.kind = 1 := by rw [ea]; exact ka
        have e2 : (WornF b w n).1.kind = 2 := by rw [eb]; exact kb
        simp only [ga, gb, fitsF, e1, e2]
        rfl
      · have hb : ((WornF b w n).2 == 0) = false := by simpa using gb
        simp only [hb, Bool.false_and, Bool.and_false]
    · have hb : ((WornF a w n).2 == 0) = false := by simpa using ga
      simp only [hb, Bool.false_and, Bool.and_false]
  · rw [if_pos ka, if_pos ka, ← lasts_core hp hb ha hw kb ka h0 h1]
    by_cases ga : (WornF a w n).2 = 0
    · by_cases gb : (WornF b w n).2 = 0
      · obtain ⟨_, _, _, _, _, ea⟩ := worn_ok ga
        obtain ⟨_, _, _, _, _, eb⟩ := worn_ok gb
        have e1 : (WornF a w n).1.kind = 2 := by rw [ea]; exact ka
        have e2 : (WornF b w n).1.kind = 1 := by rw [eb]; exact kb
        simp only [ga, gb, fitsF, e1, e2, if_pos]
      · have hb : ((WornF b w n).2 == 0) = false := by simpa using gb
        simp only [hb, Bool.false_and, Bool.and_false]
    · have hb : ((WornF a w n).2 == 0) = false := by simpa using ga
      simp only [hb, Bool.false_and, Bool.and_false]
theorem pair_parts {p : Play} {a b : Edge} {w : Sp} (h : pairOk p a b w) : (tabOf a b).ok = true ∧ (holeOf a b).ok = true ∧ (tabOf a b).kind = 1 ∧ (holeOf a b).kind = 2 ∧ LastF p a b w = lastOf p (tabOf a b) (holeOf a b) w := by
  obtain ⟨hp, ha, hb, hw, hk⟩ := h
  rcases hk with ⟨ka, kb⟩ | ⟨ka, kb⟩
  · have ha2 : ¬ a.kind = 2 := by omega
    have e1 : tabOf a b = a := if_neg ha2
    have e2 : holeOf a b = b := if_neg ha2
    rw [e1, e2]
    refine ⟨ha, hb, ka, kb, ?_⟩
    unfold LastF
    rw [if_pos ⟨hp, ha, hb⟩, if_pos hw, if_neg ha2, if_pos ⟨ka, kb⟩]
  · have e1 : tabOf a b = b := if_pos ka
    have e2 : holeOf a b = a := if_pos ka
    rw [e1, e2]
    refine ⟨hb, ha, kb, ka, ?_⟩
    unfold LastF
    rw [if_pos ⟨hp, ha, hb⟩, if_pos hw, if_pos ka, if_pos kb]
/-- What Last returns, and after which strokes the sides are good. -/
theorem last_good {p : Play} {a b : Edge} {w : Sp} (h : pairOk p a b w) :
    (∃ f l, 0 ≤ f ∧ f < l ∧ l ≤ 20001 ∧ LastF p a b w = (f, l - 1, 0) ∧ ∀ n, 0 ≤ n → n ≤ 20000 → lastsB p a b w n = decide (f ≤ n ∧ n < l)) ∨
    (LastF p a b w = (0, 0, 4) ∧ ∀ n, 0 ≤ n → n ≤ 20000 → lastsB p a b w n = false) := by
  obtain ⟨ht, hh, kt, kh, eL⟩ := pair_parts h
  have hg := fun n h0 h1 => lastsB_good h (n := n) h0 h1
  obtain ⟨hp, _, _, hw, _⟩ := h
  generalize tabOf a b = t at *
  generalize holeOf a b = u at *
  obtain ⟨f1, f2, f3, f4⟩ := firstN_spec (wideOk t u w) 20001 0
  obtain ⟨l1, l2, l3, l4⟩ := firstN_spec (tooLate p t u w) 20001 0
  have ef : seaVal false ⟨p, t, u⟩ w p = firstN (wideOk t u w) 20001 0 := rfl
  have el : seaVal true ⟨p, t, u⟩ w p = firstN (tooLate p t u w) 20001 0 := rfl
  unfold lastOf at eL
  rw [ef, el] at eL
  generalize firstN (wideOk t u w) 20001 0 = f at *
  generalize firstN (tooLate p t u w) 20001 0 = l at *
  have hw1 : ∀ n, 0 ≤ n → n ≤ 20000 → wideOk t u w n = decide (f ≤ n) := by
    intro n h0 h1
    by_cases g : f ≤ n
    · rw [decide_eq_true g]; exact wideOk_mono kt kh hw f1 g (f4 (by omega))
    · rw [decide_eq_false g]; exact f3 n (by omega) (by omega)
  have hl1 : ∀ n, 0 ≤ n → n ≤ 20000 → tooLate p t u w n = decide (l ≤ n) := by
    intro n h0 h1
    by_cases g : l ≤ n
    · rw [decide_eq_true g]; exact tooLate_mono kt kh ht hh hp hw l1 g (l4 (by omega))
    · rw [decide_eq_false g]; exact l3 n (by omega) (by omega)
  by_cases hc : f < l ∧ alw p t u 0 = true ∧ alw p t u 2 = true
  · rw [if_pos hc] at eL
    refine .inl ⟨f, l, f1, hc.1, by omega, eL, fun n h0 h1 => ?_⟩
    rw [hg n h0 h1]
    unfold goodB
    rw [hw1 n h0 h1, hl1 n h0 h1, hc.2.1, hc.2.2]
    by_cases g1 : f ≤ n <;> by_cases g2 : l ≤ n <;> simp [g1, g2] <;> omega
  · rw [if_neg hc] at eL
    refine .inr ⟨eL, fun n h0 h1 => ?_⟩
    rw [hg n h0 h1]
    unfold goodB
    rw [hw1 n h0 h1, hl1 n h0 h1]
    cases h0 : alw p t u 0 <;> cases h2 : alw p t u 2 <;> simp [h0, h2] at hc ⊢
    omega
theorem last_err {p : Play} {a b : Edge} {w : Sp} (h : ¬ pairOk p a b w) : ∃ e, LastF p a b w = (0, 0, e) ∧ (e = 1 ∨ e = 2 ∨ e = 6) := by
  unfold LastF
  by_cases h1 : p.ok = true ∧ a.ok = true ∧ b.ok = true
  · rw [if_pos h1]
    by_cases h2 : w.isIn 0 100 = true
    · rw [if_pos h2]
      have hk : ¬ ((a.kind = 1 ∧ b.kind = 2) ∨ (a.kind = 2 ∧ b.kind = 1)) := fun hk => h ⟨h1.1, h1.2.1, h1.2.2, h2, hk⟩
      by_cases ka : a.kind = 2
      · rw [if_pos ka, if_neg (by omega)]; exact ⟨6, rfl, by decide⟩
      · rw [if_neg ka, if_neg (by omega)]; exact ⟨6, rfl, by decide⟩
    · rw [if_neg h2]; exact ⟨2, rfl, by decide⟩
  · rw [if_neg h1]; exact ⟨1, rfl, by decide⟩
/-- With a narrower wear the sides are good where they were. -/
theorem lasts_wear {p : Play} {a b : Edge} {w v : Sp} (h : pairOk p a b w) (hv : w.lo ≤ v.lo ∧ v.lo ≤ w.hi ∧ v.hi = w.hi) : pairOk p a b v ∧ ∀ n, 0 ≤ n → n ≤ 20000 → lastsB p a b w n = true → lastsB p a b v n = true := by
  have hv' : v.isIn 0 100 = true := by
    have := h.2.2.2.1
    rw [Sp.isIn_iff] at this ⊢; omega
  have hp' : pairOk p a b v := ⟨h.1, h.2.1, h.2.2.1, hv', h.2.2.2.2⟩
  refine ⟨hp', fun n h0 h1 hq => ?_⟩
  rw [lastsB_good h h0 h1] at hq
  rw [lastsB_good hp' h0 h1]
  obtain ⟨ht, hh, kt, kh, _⟩ := pair_parts h
  have hw := h.2.2.2.1
  generalize tabOf a b = t at *
  generalize holeOf a b = u at *
  unfold goodB at *
  simp only [Bool.and_eq_true, Bool.not_eq_true'] at hq ⊢
  obtain ⟨q1, q2, q3, q4⟩ := hq
  rw [Sp.isIn_iff] at hw
  have m1 : w.lo * n ≤ v.lo * n := Int.mul_le_mul_of_nonneg_right hv.1 h0
  have m2 : v.lo * n ≤ w.hi * n := Int.mul_le_mul_of_nonneg_right hv.2.1 h0
  have m3 : 0 ≤ w.lo * n := Int.mul_nonneg hw.1 h0
  rw [Edge.ok_iff] at ht hh
  refine ⟨?_, ?_, q3, q4⟩
  · simp only [wideOk, decide_eq_true_eq, wideBy, Edge.worn, wornSpan, kt, kh, if_pos, show ¬ (2 : Int) = 1 by decide, if_false, down, up, hv.2.2] at *
    generalize w.lo * n = x1 at *
    generalize v.lo * n = x2 at *
    omega
  · simp only [tooLate, Bool.or_eq_false_iff, Bool.not_eq_false', Sp.isIn_iff, decide_eq_false_iff_not, wideBy, Edge.worn, wornSpan, kt, kh, if_pos, show ¬ (2 : Int) = 1 by decide, if_false, down, up, hv.2.2] at *
    refine ⟨?_, ?_, q2.2.2⟩
    · generalize w.lo * n = x1 at *
      generalize v.lo * n = x2 at *
      generalize w.hi * n = x3 at *
      omega
    · generalize w.lo * n = x1 at *
      generalize v.lo * n = x2 at *
      generalize w.hi * n = x3 at *
      omega
end Go.Proofs.Ytdaanchagjamfaa
