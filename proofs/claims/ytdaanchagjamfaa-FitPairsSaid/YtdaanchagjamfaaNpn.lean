/- Plain numbers and lists of the layer fit: what its functions compute, with no program in sight. -/
namespace Go.Proofs.Ytdaanchagjamfaa

structure Sp where
  lo : Int
  hi : Int
structure Edge where
  kind : Int
  at_ : Sp
  wide : Sp
  deep : Sp
structure Play where
  length : Int
  slack : Int
  loose : Int
  damp : Sp

def Sp.isIn (s : Sp) (a b : Int) : Bool := decide (a ≤ s.lo ∧ s.lo ≤ s.hi ∧ s.hi ≤ b)
def within (n a b : Int) : Bool := decide (a ≤ n ∧ n ≤ b)
def Edge.ok (e : Edge) : Bool := (e.kind == 0) || ((e.kind == 1) || (e.kind == 2)) && (e.at_.isIn 0 10000 && e.wide.isIn 1 3000 && e.deep.isIn 1 3000)
def Play.ok (p : Play) : Bool := within p.length 1 10000 && within p.slack 0 500 && within p.loose 0 500 && p.damp.isIn 0 100

def hasIdx (q : Nat → Bool) (n : Nat) : Bool := (List.range n).any q
theorem hasIdx_true {q : Nat → Bool} {n k : Nat} (h : k < n) (hq : q k = true) : hasIdx q n = true := by
  unfold hasIdx; rw [List.any_eq_true]; exact ⟨k, List.mem_range.2 h, hq⟩
theorem hasIdx_false {q : Nat → Bool} {n : Nat} (h : ∀ j, j < n → q j = false) : hasIdx q n = false := by
  unfold hasIdx; rw [List.any_eq_false]; exact fun k hk => by rw [h k (List.mem_range.1 hk)]; decide
theorem Sp.isIn_iff {s : Sp} {a b : Int} : s.isIn a b = true ↔ a ≤ s.lo ∧ s.lo ≤ s.hi ∧ s.hi ≤ b := by unfold Sp.isIn; simp
theorem Play.ok_iff {p : Play} : p.ok = true ↔ (1 ≤ p.length ∧ p.length ≤ 10000) ∧ (0 ≤ p.slack ∧ p.slack ≤ 500) ∧ (0 ≤ p.loose ∧ p.loose ≤ 500) ∧ 0 ≤ p.damp.lo ∧ p.damp.lo ≤ p.damp.hi ∧ p.damp.hi ≤ 100 := by
  unfold Play.ok; simp only [within, Bool.and_eq_true, decide_eq_true_eq, Sp.isIn_iff]; constructor <;> intro h <;> omega
theorem Edge.ok_iff {e : Edge} : e.ok = true ↔ e.kind = 0 ∨ (e.kind = 1 ∨ e.kind = 2) ∧ (0 ≤ e.at_.lo ∧ e.at_.lo ≤ e.at_.hi ∧ e.at_.hi ≤ 10000) ∧ (1 ≤ e.wide.lo ∧ e.wide.lo ≤ e.wide.hi ∧ e.wide.hi ≤ 3000) ∧ (1 ≤ e.deep.lo ∧ e.deep.lo ≤ e.deep.hi ∧ e.deep.hi ≤ 3000) := by
  unfold Edge.ok; simp only [Bool.and_eq_true, Bool.or_eq_true, beq_iff_eq, Sp.isIn_iff]; constructor <;> intro h <;> omega
/-- A number that is far from int's ends. -/
def Sm (x : Int) : Prop := -1000000000 ≤ x ∧ x ≤ 1000000000
instance (x : Int) : Decidable (Sm x) := by unfold Sm; infer_instance
def Sp.less (a b : Sp) : Sp := ⟨a.lo - b.hi, a.hi - b.lo⟩
def Sp.plus (a b : Sp) : Sp := ⟨a.lo + b.lo, a.hi + b.hi⟩
def down (n : Int) : Int := n / 1000
def up (n : Int) : Int := -((-n) / 1000)

/-- A tab and a hole, and what is allowed: the spans of what they differ by, and whether these are allowed. -/
def offBy (p : Play) (t h : Edge) : Sp := ⟨t.at_.lo + h.at_.lo + -p.length, t.at_.hi + h.at_.hi + -p.length⟩
def wideBy (t h : Edge) : Sp := ⟨h.wide.lo - t.wide.hi, h.wide.hi - t.wide.lo⟩
def deepBy (t h : Edge) : Sp := ⟨h.deep.lo - t.deep.hi, h.deep.hi - t.deep.lo⟩
def alwaysB (sl sh lo hi dh : Int) : Bool := decide (1000 * lo ≤ sl * (1000 + dh)) && decide (sh * (1000 + dh) ≤ 1000 * hi)
def perhapsB (sl sh lo hi dl : Int) : Bool := decide (1000 * lo ≤ min (max 0 sl) sh * (1000 + dl)) && decide (min (max 0 sl) sh * (1000 + dl) ≤ 1000 * hi)

theorem alwaysB_t {sl sh lo hi dh : Int} (h : 1000 * lo ≤ sl * (1000 + dh)) : decide (sh * (1000 + dh) ≤ 1000 * hi) = alwaysB sl sh lo hi dh := by
  unfold alwaysB; rw [decide_eq_true h]; rfl
theorem alwaysB_f {sl sh lo hi dh : Int} (h : sl * (1000 + dh) < 1000 * lo) : false = alwaysB sl sh lo hi dh := by
  unfold alwaysB; rw [decide_eq_false (by omega)]; rfl
theorem perhapsB_t {sl sh lo hi dl : Int} (h : 1000 * lo ≤ min (max 0 sl) sh * (1000 + dl)) : decide (min (max 0 sl) sh * (1000 + dl) ≤ 1000 * hi) = perhapsB sl sh lo hi dl := by
  unfold perhapsB; rw [decide_eq_true h]; rfl
theorem perhapsB_f {sl sh lo hi dl : Int} (h : min (max 0 sl) sh * (1000 + dl) < 1000 * lo) : false = perhapsB sl sh lo hi dl := by
  unfold perhapsB; rw [decide_eq_false (by omega)]; rfl
theorem mul_sm {a m : Int} (h1 : -100000 ≤ a) (h2 : a ≤ 100000) (h3 : 1000 ≤ m) (h4 : m ≤ 1100) : -110000000 ≤ a * m ∧ a * m ≤ 110000000 := by
  have e1 : -100000 * m ≤ a * m := Int.mul_le_mul_of_nonneg_right h1 (by omega)
  have e2 : a * m ≤ 100000 * m := Int.mul_le_mul_of_nonneg_right h2 (by omega)
  omega

theorem tdiv_k (n k : Int) (hk : 0 < k) : (0 ≤ n ∧ n.tdiv k = n / k ∧ n.tmod k = n % k) ∨ (n < 0 ∧ n.tdiv k = -((-n) / k) ∧ n.tmod k = -((-n) % k)) := by
  rcases (show n < 0 ∨ 0 ≤ n by omega) with h | h
  · refine .inr ⟨h, ?_, ?_⟩
    · have := Int.tdiv_eq_ediv_of_nonneg (a := -n) (b := k) (by omega)
      rw [← this, Int.neg_tdiv]; omega
    · have := Int.tmod_eq_emod_of_nonneg (a := -n) (b := k) (by omega)
      rw [← this, Int.neg_tmod]; omega
  · exact .inl ⟨h, Int.tdiv_eq_ediv_of_nonneg h, Int.tmod_eq_emod_of_nonneg h⟩
theorem tdiv_bd (n : Int) (h : Sm n) : -1000000 ≤ n.tdiv 1000 ∧ n.tdiv 1000 ≤ 1000000 := by
  unfold Sm at h
  rcases tdiv_k n 1000 (by omega) with ⟨h0, e, _⟩ | ⟨h0, e, _⟩ <;> rw [e] <;> omega
theorem down_neg (n : Int) (h : n.tmod 1000 < 0) : n.tdiv 1000 - 1 = down n := by
  unfold down
  rcases tdiv_k n 1000 (by omega) with ⟨h0, e, f⟩ | ⟨h0, e, f⟩ <;> rw [e] <;> rw [f] at h <;> omega
theorem down_pos (n : Int) (h : 0 ≤ n.tmod 1000) : n.tdiv 1000 = down n := by
  unfold down
  rcases tdiv_k n 1000 (by omega) with ⟨h0, e, f⟩ | ⟨h0, e, f⟩ <;> rw [e] <;> rw [f] at h <;> omega
theorem down_sm {n : Int} (h : Sm n) : Sm (down n) := by unfold Sm down at *; omega
theorem up_sm {n : Int} (h : Sm n) : Sm (up n) := by unfold Sm up at *; omega

theorem tdiv_mul (n : Int) : (n.tdiv 1000 * 1000 > n ↔ n.tmod 1000 < 0) := by
  rcases tdiv_k n 1000 (by omega) with ⟨h0, e, f⟩ | ⟨h0, e, f⟩ <;> rw [e, f] <;> omega

theorem mul_le_pos {a b m : Int} (h : a ≤ b) (hm : 0 ≤ m) : a * m ≤ b * m := Int.mul_le_mul_of_nonneg_right h hm
/-- Some number of a span is allowed just if the best one is. -/
theorem perhaps_some {sl sh lo hi dl n : Int} (hl : lo ≤ 0) (hh : 0 ≤ hi) (hd : 0 ≤ dl) (h1 : sl ≤ n) (h2 : n ≤ sh) (g1 : 1000 * lo ≤ n * (1000 + dl)) (g2 : n * (1000 + dl) ≤ 1000 * hi) : perhapsB sl sh lo hi dl = true := by
  unfold perhapsB
  rw [Bool.and_eq_true, decide_eq_true_eq, decide_eq_true_eq]
  rcases (show sl ≤ 0 ∧ 0 ≤ sh ∨ 0 < sl ∨ sh < 0 by omega) with ⟨a, b⟩ | a | a
  · rw [show min (max 0 sl) sh = 0 by omega]; omega
  · rw [show min (max 0 sl) sh = sl by omega]
    have := mul_le_pos (m := 1000 + dl) h1 (by omega)
    have := mul_le_pos (m := 1000 + dl) (show 0 ≤ sl by omega) (by omega)
    omega
  · rw [show min (max 0 sl) sh = sh by omega]
    have := mul_le_pos (m := 1000 + dl) h2 (by omega)
    have := mul_le_pos (m := 1000 + dl) (show sh ≤ 0 by omega) (by omega)
    omega
theorem perhaps_none {sl sh lo hi dl : Int} (_hl : lo ≤ 0) (_hh : 0 ≤ hi) (hd : 0 ≤ dl) (hs : sl ≤ sh) (h : ∀ n, max sl lo ≤ n → n ≤ min sh hi → ¬ (1000 * lo ≤ n * (1000 + dl) ∧ n * (1000 + dl) ≤ 1000 * hi)) : perhapsB sl sh lo hi dl = false := by
  cases hp : perhapsB sl sh lo hi dl with
  | false => rfl
  | true =>
    exfalso
    unfold perhapsB at hp
    rw [Bool.and_eq_true, decide_eq_true_eq, decide_eq_true_eq] at hp
    obtain ⟨g1, g2⟩ := hp
    have hb : sl ≤ min (max 0 sl) sh ∧ min (max 0 sl) sh ≤ sh := by omega
    generalize min (max 0 sl) sh = b at *
    have k1 : b ≤ hi := by
      rcases (show b ≤ 0 ∨ 0 < b by omega) with q | q
      · omega
      · have : b * 1000 ≤ b * (1000 + dl) := by rw [Int.mul_add]; have := Int.mul_nonneg (show 0 ≤ b by omega) hd; omega
        omega
    have k2 : lo ≤ b := by
      rcases (show 0 ≤ b ∨ b < 0 by omega) with q | q
      · omega
      · have : b * (1000 + dl) ≤ b * 1000 := by
          rw [Int.mul_add]
          have := Int.mul_nonneg (show 0 ≤ -b by omega) hd
          rw [Int.neg_mul] at this
          omega
        omega
    exact h b (by omega) (by omega) ⟨g1, g2⟩

end Go.Proofs.Ytdaanchagjamfaa
/- Whether a tab and a hole fit, in plain numbers. -/
namespace Go.Proofs.Ytdaanchagjamfaa

/-- Whether a tab and a hole fit, difference by difference. -/
def alw (p : Play) (t h : Edge) (i : Nat) : Bool :=
  match i with
  | 0 => alwaysB (offBy p t h).lo (offBy p t h).hi (-p.slack) p.slack p.damp.hi
  | 1 => alwaysB (wideBy t h).lo (wideBy t h).hi 0 p.loose p.damp.hi
  | _ => alwaysB (deepBy t h).lo (deepBy t h).hi 0 p.loose p.damp.hi
def may (p : Play) (t h : Edge) (i : Nat) : Bool :=
  match i with
  | 0 => perhapsB (offBy p t h).lo (offBy p t h).hi (-p.slack) p.slack p.damp.lo
  | 1 => perhapsB (wideBy t h).lo (wideBy t h).hi 0 p.loose p.damp.lo
  | _ => perhapsB (deepBy t h).lo (deepBy t h).hi 0 p.loose p.damp.lo
def verd (p : Play) (t h : Edge) : Int := if hasIdx (fun i => !(alw p t h i)) 3 then (if hasIdx (fun i => !(may p t h i)) 3 then 0 else 1) else 2
theorem hasIdx3 (q : Nat → Bool) : hasIdx (fun i => !(q i)) 3 = !(q 0 && (q 1 && q 2)) := by
  unfold hasIdx
  simp [List.range_succ]
theorem verd_eq (p : Play) (t h : Edge) : verd p t h = if (alw p t h 0 && (alw p t h 1 && alw p t h 2)) = true then 2 else if (may p t h 0 && (may p t h 1 && may p t h 2)) = true then 1 else 0 := by
  unfold verd
  rw [hasIdx3, hasIdx3]
  cases (alw p t h 0 && (alw p t h 1 && alw p t h 2)) <;> cases (may p t h 0 && (may p t h 1 && may p t h 2)) <;> rfl
def fitsF (p : Play) (a b : Edge) : Int := if a.kind = 2 then (if b.kind = 1 then verd p b a else 0) else if a.kind = 1 ∧ b.kind = 2 then verd p a b else 0
/-- Fit, as the program computes it. -/
def FitF (p : Play) (a b : Edge) : Int × Int := if p.ok = true ∧ a.ok = true ∧ b.ok = true then (fitsF p a b, 0) else (0, 1)
end Go.Proofs.Ytdaanchagjamfaa
/- What Between computes, in plain numbers. -/
namespace Go.Proofs.Ytdaanchagjamfaa

def Sp.damped (s d : Sp) : Sp := ⟨down (min (s.lo * (1000 + d.lo)) (s.lo * (1000 + d.hi))), up (max (s.hi * (1000 + d.lo)) (s.hi * (1000 + d.hi)))⟩
structure Gap where
  off : Sp
  wide : Sp
  deep : Sp
def Gap.zero : Gap := ⟨⟨0, 0⟩, ⟨0, 0⟩, ⟨0, 0⟩⟩
def gapOf (p : Play) (t h : Edge) : Gap := ⟨(offBy p t h).damped p.damp, (wideBy t h).damped p.damp, (deepBy t h).damped p.damp⟩
/-- What the tab t and the hole h lie apart by, and the error's number. -/
def BetweenF (p : Play) (a b : Edge) : Gap × Int :=
  if p.ok = true ∧ a.ok = true ∧ b.ok = true then
    if a.kind = 1 ∧ b.kind = 2 then (gapOf p a b, 0) else if b.kind = 1 ∧ a.kind = 2 then (gapOf p b a, 0) else (.zero, 6)
  else (.zero, 1)

end Go.Proofs.Ytdaanchagjamfaa
