/- What the reference's Last computes is what the program's computes: plain numbers. -/
import Derived.Test.YtdaanchagjamfaaTl
namespace Go.Proofs.Ytdaanchagjamfaa

def lastsB (p : Play) (a b : Edge) (w : Sp) (n : Int) : Bool := ((WornF a w n).2 == 0) && (((WornF b w n).2 == 0) && (fitsF p (WornF a w n).1 (WornF b w n).1 == 2))
def scan (q : Int → Bool) : Nat → Int × Int
  | 0 => (-1, -1)
  | k + 1 => match q k with
    | true => (match decide ((scan q k).1 < 0) with | true => (k, k) | false => ((scan q k).1, k))
    | false => scan q k
/-- Last, as the reference computes it. -/
def lastR (p : Play) (a b : Edge) (w : Sp) : Int × Int × Int :=
  if p.ok = true ∧ a.ok = true ∧ b.ok = true then
    if w.isIn 0 100 = true then
      if (a.kind = 1 ∧ b.kind = 2) ∨ (b.kind = 1 ∧ a.kind = 2) then (if (scan (lastsB p a b w) 20001).1 < 0 then (0, 0, 4) else ((scan (lastsB p a b w) 20001).1, (scan (lastsB p a b w) 20001).2, 0)) else (0, 0, 6)
    else (0, 0, 2)
  else (0, 0, 1)

theorem scan_range {q : Int → Bool} {f l : Int} (hf : 0 ≤ f) : ∀ (k : Nat), (∀ n : Nat, n < k → q n = decide (f ≤ n ∧ n < l)) → scan q k = if f < min l k then (f, min l k - 1) else (-1, -1)
  | 0, _ => by
    simp only [scan]
    rw [if_neg (by omega)]
  | k + 1, h => by
    have ih := scan_range hf k (fun n hn => h n (by omega))
    have hk := h k (by omega)
    simp only [scan, ih, hk]
    by_cases h1 : f ≤ (k : Int) ∧ (k : Int) < l
    · simp only [decide_eq_true h1]
      by_cases h2 : f < min l (k : Int)
      · rw [if_pos h2, if_pos (by omega)]
        simp only [decide_eq_false (show ¬ f < 0 by omega)]
        rw [show min l ((k + 1 : Nat) : Int) - 1 = k by omega]
      · rw [if_neg h2, if_pos (by omega)]
        simp only [show decide ((-1 : Int) < 0) = true by decide]
        rw [show min l ((k + 1 : Nat) : Int) - 1 = k by omega, show f = k by omega]
    · simp only [decide_eq_false h1]
      by_cases h2 : f < min l (k : Int)
      · rw [if_pos h2, if_pos (by omega), show min l ((k + 1 : Nat) : Int) = min l k by omega]
      · rw [if_neg h2, if_neg (by omega)]
theorem verd_two (p : Play) (t h : Edge) : verd p t h = 2 ↔ alw p t h 0 = true ∧ alw p t h 1 = true ∧ alw p t h 2 = true := by
  rw [verd_eq]
  cases alw p t h 0 <;> cases alw p t h 1 <;> cases alw p t h 2 <;> cases may p t h 0 <;> cases may p t h 1 <;> cases may p t h 2 <;> simp
/-- Whether a tab and a hole fit always after some strokes. -/
theorem lasts_core {p : Play} {t h : Edge} {w : Sp} {n : Int} (hp : p.ok = true) (ht : t.ok = true) (hh : h.ok = true) (hw : w.isIn 0 100 = true) (kt : t.kind = 1) (kh : h.kind = 2) (h0 : 0 ≤ n) (h1 : n ≤ 20000) :
    (((WornF t w n).2 == 0) && (((WornF h w n).2 == 0) && (verd p (WornF t w n).1 (WornF h w n).1 == 2))) = (wideOk t h w n && (!(tooLate p t h w n) && (alw p t h 0 && alw p t h 2))) := by
  have ft := worn_in ht hw (by omega) h0 h1
  have fh := worn_in hh hw (by omega) h0 h1
  rw [Play.ok_iff] at hp
  by_cases it : (t.worn w n).wide.isIn 1 3000 = true
  · by_cases ih : (h.worn w n).wide.isIn 1 3000 = true
    · rw [if_pos it] at ft; rw [if_pos ih] at fh
      rw [ft, fh]
      have e0 : alw p (t.worn w n) (h.worn w n) 0 = alw p t h 0 := rfl
      have e2 : alw p (t.worn w n) (h.worn w n) 2 = alw p t h 2 := rfl
      have e1 : alw p (t.worn w n) (h.worn w n) 1 = (wideOk t h w n && !(tooLate p t h w n)) := by
        simp only [alw, alwaysB, wideOk, tooLate, it, ih, Bool.not_true, Bool.false_or, Int.mul_zero]
        generalize (wideBy (t.worn w n) (h.worn w n)).lo = lo
        generalize (wideBy (t.worn w n) (h.worn w n)).hi * (1000 + p.damp.hi) = hi
        have a1 : (decide (0 ≤ lo * (1000 + p.damp.hi))) = decide (0 ≤ lo) := by
          apply decide_eq_decide.2
          constructor
          · intro g
            rcases (show 0 ≤ lo ∨ lo ≤ -1 by omega) with g' | g'
            · exact g'
            · have := Int.mul_le_mul_of_nonneg_right g' (show 0 ≤ 1000 + p.damp.hi by omega)
              omega
          · intro g; exact Int.mul_nonneg g (by omega)
        have a2 : (!decide (1000 * p.loose < hi)) = decide (hi ≤ 1000 * p.loose) := by
          by_cases g : 1000 * p.loose < hi
          · rw [decide_eq_true g, decide_eq_false (by omega)]; rfl
          · rw [decide_eq_false g, decide_eq_true (by omega)]; rfl
        rw [a1, a2]
      have hv := verd_two p (t.worn w n) (h.worn w n)
      rw [e0, e1, e2] at hv
      have hv2 : (verd p (t.worn w n) (h.worn w n) == 2) = (wideOk t h w n && (!(tooLate p t h w n) && (alw p t h 0 && alw p t h 2))) := by
        rw [Bool.eq_iff_iff, beq_iff_eq, hv]
        simp only [Bool.and_eq_true]
        constructor
        · rintro ⟨x, ⟨y, z⟩, u⟩; exact ⟨y, z, x, u⟩
        · rintro ⟨y, z, x, u⟩; exact ⟨x, ⟨y, z⟩, u⟩
      simp only [beq_self_eq_true, Bool.true_and]
      exact hv2
    · rw [if_pos it] at ft; rw [if_neg ih] at fh
      have : tooLate p t h w n = true := by simp [tooLate, ih]
      simp [ft, fh, this]
  · rw [if_neg it] at ft
    have : tooLate p t h w n = true := by simp [tooLate, it]
    simp [ft, this]
theorem lasts_range {p : Play} {t h : Edge} {w : Sp} (hp : p.ok = true) (ht : t.ok = true) (hh : h.ok = true) (hw : w.isIn 0 100 = true) (kt : t.kind = 1) (kh : h.kind = 2) {q : Int → Bool}
    (hq : ∀ n, q n = (((WornF t w n).2 == 0) && (((WornF h w n).2 == 0) && (verd p (WornF t w n).1 (WornF h w n).1 == 2)))) :
    (if (scan q 20001).1 < 0 then ((0, 0, 4) : Int × Int × Int) else ((scan q 20001).1, (scan q 20001).2, 0)) = lastOf p t h w := by
  obtain ⟨f1, f2, f3, f4⟩ := firstN_spec (wideOk t h w) 20001 0
  obtain ⟨l1, l2, l3, l4⟩ := firstN_spec (tooLate p t h w) 20001 0
  have ef : seaVal false ⟨p, t, h⟩ w p = firstN (wideOk t h w) 20001 0 := rfl
  have el : seaVal true ⟨p, t, h⟩ w p = firstN (tooLate p t h w) 20001 0 := rfl
  unfold lastOf
  rw [ef, el]
  generalize firstN (wideOk t h w) 20001 0 = f at *
  generalize firstN (tooLate p t h w) 20001 0 = l at *
  by_cases ha : alw p t h 0 = true ∧ alw p t h 2 = true
  · have hr := scan_range (q := q) (f := f) (l := l) f1 20001 (fun n hn => by
      rw [hq, lasts_core hp ht hh hw kt kh (by omega) (by omega), ha.1, ha.2]
      have hw1 : wideOk t h w n = decide (f ≤ n) := by
        by_cases g : f ≤ (n : Int)
        · rw [decide_eq_true g]; exact wideOk_mono kt kh hw f1 g (f4 (by omega))
        · rw [decide_eq_false g]; exact f3 n (by omega) (by omega)
      have hl1 : tooLate p t h w n = decide (l ≤ n) := by
        by_cases g : l ≤ (n : Int)
        · rw [decide_eq_true g]; exact tooLate_mono kt kh ht hh hp hw l1 g (l4 (by omega))
        · rw [decide_eq_false g]; exact l3 n (by omega) (by omega)
      rw [hw1, hl1]
      by_cases g1 : f ≤ (n : Int) <;> by_cases g2 : l ≤ (n : Int) <;> simp [g1, g2] <;> omega)
    rw [hr]
    have hmin : min l ((20001 : Nat) : Int) = l := by omega
    rw [hmin]
    by_cases hlt : f < l
    · rw [if_pos hlt, if_neg (by simp only; omega), if_pos ⟨hlt, ha⟩]
    · rw [if_neg hlt, if_pos (by decide), if_neg (fun h => hlt h.1)]
  · have hr := scan_range (q := q) (f := 0) (l := 0) (Int.le_refl _) 20001 (fun n hn => by
      rw [hq, lasts_core hp ht hh hw kt kh (by omega) (by omega)]
      have : (alw p t h 0 && alw p t h 2) = false := by
        cases h0 : alw p t h 0 <;> cases h2 : alw p t h 2 <;> simp [h0, h2] at ha ⊢
      rw [this, Bool.and_false, Bool.and_false]
      exact (decide_eq_false (by omega)).symm)
    rw [if_neg (by omega)] at hr
    rw [hr, if_pos (by decide), if_neg (fun h => ha h.2)]
theorem last_same (p : Play) (a b : Edge) (w : Sp) : lastR p a b w = LastF p a b w := by
  unfold lastR LastF
  by_cases h1 : p.ok = true ∧ a.ok = true ∧ b.ok = true
  · rw [if_pos h1, if_pos h1]
    by_cases h2 : w.isIn 0 100 = true
    · rw [if_pos h2, if_pos h2]
      by_cases ka2 : a.kind = 2
      · rw [if_pos ka2]
        by_cases kb1 : b.kind = 1
        · rw [if_pos kb1, if_pos (.inr ⟨kb1, ka2⟩)]
          refine lasts_range h1.1 h1.2.2 h1.2.1 h2 kb1 ka2 fun n => ?_
          unfold lastsB
          by_cases ga : (WornF a w n).2 = 0
          · by_cases gb : (WornF b w n).2 = 0
            · obtain ⟨_, _, _, _, _, ea⟩ := worn_ok ga
              obtain ⟨_, _, _, _, _, eb⟩ := worn_ok gb
              have e1 : (WornF a w n).1.kind = 2 := by rw [ea]; exact ka2
              have e2 : (WornF b w n).1.kind = 1 := by rw [eb]; exact kb1
              simp only [ga, gb, fitsF, e1, e2, if_pos]
            · have hb : ((WornF b w n).2 == 0) = false := by simpa using gb
              simp only [hb, Bool.false_and, Bool.and_false]
          · have hb : ((WornF a w n).2 == 0) = false := by simpa using ga
            simp only [hb, Bool.false_and, Bool.and_false]
        · rw [if_neg kb1, if_neg (by rintro (⟨h, _⟩ | ⟨h, _⟩) <;> omega)]
      · rw [if_neg ka2]
        by_cases hk : a.kind = 1 ∧ b.kind = 2
        · rw [if_pos hk, if_pos (.inl hk)]
          refine lasts_range h1.1 h1.2.1 h1.2.2 h2 hk.1 hk.2 fun n => ?_
          unfold lastsB
          by_cases ga : (WornF a w n).2 = 0
          · by_cases gb : (WornF b w n).2 = 0
            · obtain ⟨_, _, _, _, _, ea⟩ := worn_ok ga
              obtain ⟨_, _, _, _, _, eb⟩ := worn_ok gb
              have e1 : (WornF a w n).1.kind = 1 := by rw [ea]; exact hk.1
              have e2 : (WornF b w n).1.kind = 2 := by rw [eb]; exact hk.2
              simp only [ga, gb, fitsF, e1, e2]
              rfl
            · have hb : ((WornF b w n).2 == 0) = false := by simpa using gb
              simp only [hb, Bool.false_and, Bool.and_false]
          · have hb : ((WornF a w n).2 == 0) = false := by simpa using ga
            simp only [hb, Bool.false_and, Bool.and_false]
        · rw [if_neg hk, if_neg (by rintro (h | h) <;> omega)]
    · rw [if_neg h2, if_neg h2]
  · rw [if_neg h1, if_neg h1]
end Go.Proofs.Ytdaanchagjamfaa
