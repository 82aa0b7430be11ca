/- What FitMore says: plain numbers. -/
import Derived.Test.YtdaanchagjamfaaPd
namespace Go.Proofs.Ytdaanchagjamfaa

theorem fits_sym (p : Play) (a b : Edge) : fitsF p b a = fitsF p a b := by
  unfold fitsF
  by_cases a2 : a.kind = 2 <;> by_cases b1 : b.kind = 1 <;> by_cases b2 : b.kind = 2 <;> by_cases a1 : a.kind = 1 <;> first | omega | simp [a2, b1, b2, a1]
theorem fit_sym (p : Play) (a b : Edge) : FitF p b a = FitF p a b := by
  unfold FitF
  rw [fits_sym]
  by_cases h : p.ok = true ∧ a.ok = true ∧ b.ok = true
  · rw [if_pos h, if_pos ⟨h.1, h.2.2, h.2.1⟩]
  · rw [if_neg h, if_neg (fun g => h ⟨g.1, g.2.2, g.2.1⟩)]
theorem between_sym (p : Play) (a b : Edge) : BetweenF p b a = BetweenF p a b := by
  unfold BetweenF
  by_cases h : p.ok = true ∧ a.ok = true ∧ b.ok = true
  · rw [if_pos h, if_pos ⟨h.1, h.2.2, h.2.1⟩]
    by_cases a2 : a.kind = 2 <;> by_cases b1 : b.kind = 1 <;> by_cases b2 : b.kind = 2 <;> by_cases a1 : a.kind = 1 <;> first | omega | simp [a2, b1, b2, a1]
  · rw [if_neg h, if_neg (fun g => h ⟨g.1, g.2.2, g.2.1⟩)]
theorem last_sym (p : Play) (a b : Edge) (w : Sp) : LastF p b a w = LastF p a b w := by
  unfold LastF
  by_cases h : p.ok = true ∧ a.ok = true ∧ b.ok = true
  · rw [if_pos h, if_pos ⟨h.1, h.2.2, h.2.1⟩]
    by_cases hw : w.isIn 0 100 = true
    · rw [if_pos hw, if_pos hw]
      by_cases a2 : a.kind = 2 <;> by_cases b1 : b.kind = 1 <;> by_cases b2 : b.kind = 2 <;> by_cases a1 : a.kind = 1 <;> first | omega | simp [a2, b1, b2, a1]
    · rw [if_neg hw, if_neg hw]
  · rw [if_neg h, if_neg (fun g => h ⟨g.1, g.2.2, g.2.1⟩)]
theorem fit_cases (p : Play) (a b : Edge) : (FitF p a b = (0, 1) ∧ ¬ (p.ok = true ∧ a.ok = true ∧ b.ok = true)) ∨ (FitF p a b = (fitsF p a b, 0) ∧ p.ok = true ∧ a.ok = true ∧ b.ok = true) := by
  unfold FitF
  by_cases h : p.ok = true ∧ a.ok = true ∧ b.ok = true
  · rw [if_pos h]; exact .inr ⟨rfl, h⟩
  · rw [if_neg h]; exact .inl ⟨rfl, h⟩
theorem verd_cases (p : Play) (t h : Edge) : verd p t h = 0 ∨ verd p t h = 1 ∨ verd p t h = 2 := by
  rw [verd_eq]
  split
  · exact .inr (.inr rfl)
  · split
    · exact .inr (.inl rfl)
    · exact .inl rfl
theorem fits_cases (p : Play) (a b : Edge) : fitsF p a b = 0 ∨ fitsF p a b = 1 ∨ fitsF p a b = 2 := by
  unfold fitsF
  split
  · split
    · exact verd_cases p b a
    · exact .inl rfl
  · split
    · exact verd_cases p a b
    · exact .inl rfl
theorem alwaysB_iff {sl sh lo hi dh : Int} : alwaysB sl sh lo hi dh = true ↔ 1000 * lo ≤ sl * (1000 + dh) ∧ sh * (1000 + dh) ≤ 1000 * hi := by
  unfold alwaysB; rw [Bool.and_eq_true, decide_eq_true_eq, decide_eq_true_eq]
theorem perhapsB_iff {sl sh lo hi dl : Int} : perhapsB sl sh lo hi dl = true ↔ 1000 * lo ≤ min (max 0 sl) sh * (1000 + dl) ∧ min (max 0 sl) sh * (1000 + dl) ≤ 1000 * hi := by
  unfold perhapsB; rw [Bool.and_eq_true, decide_eq_true_eq, decide_eq_true_eq]
/-- Narrower, with more allowed, and with less damp: it stays so. -/
theorem always_mono {sl sh lo hi dh sl' sh' lo' hi' dh' : Int} (h : alwaysB sl sh lo hi dh = true) (h0 : lo ≤ 0) (h1 : 0 ≤ hi) (hl : sl ≤ sl') (hh : sh' ≤ sh) (gl : lo' ≤ lo) (gh : hi ≤ hi') (d0 : 0 ≤ dh') (d1 : dh' ≤ dh) : alwaysB sl' sh' lo' hi' dh' = true := by
  rw [alwaysB_iff] at h ⊢
  have m1 := mul_le_pos (m := 1000 + dh') hl (by omega)
  have m2 := mul_le_pos (m := 1000 + dh') hh (by omega)
  constructor
  · rcases (show 0 ≤ sl ∨ sl < 0 by omega) with q | q
    · have := Int.mul_nonneg q (show 0 ≤ 1000 + dh' by omega); omega
    · have : (-sl) * (1000 + dh') ≤ (-sl) * (1000 + dh) := Int.mul_le_mul_of_nonneg_left (by omega) (by omega)
      rw [Int.neg_mul, Int.neg_mul] at this; omega
  · rcases (show sh ≤ 0 ∨ 0 < sh by omega) with q | q
    · have := Int.mul_nonneg (show 0 ≤ -sh by omega) (show 0 ≤ 1000 + dh' by omega)
      rw [Int.neg_mul] at this; omega
    · have : sh * (1000 + dh') ≤ sh * (1000 + dh) := Int.mul_le_mul_of_nonneg_left (by omega) (by omega)
      omega
theorem perhaps_wide {sl sh lo hi dl sl' sh' lo' hi' : Int} (h : perhapsB sl' sh' lo hi dl = true) (h0 : lo ≤ 0) (h1 : 0 ≤ hi) (hd : 0 ≤ dl) (hs : sl' ≤ sh') (hl : sl ≤ sl') (hh : sh' ≤ sh) (gl : lo' ≤ lo) (gh : hi ≤ hi') : perhapsB sl sh lo' hi' dl = true := by
  rw [perhapsB_iff] at h
  refine perhaps_some (n := min (max 0 sl') sh') (by omega) (by omega) hd (by omega) (by omega) (by omega) (by omega)
theorem always_perhaps {sl sh lo hi dl dh : Int} (h : alwaysB sl sh lo hi dh = true) (hs : sl ≤ sh) (h0 : lo ≤ 0) (h1 : 0 ≤ hi) (d0 : 0 ≤ dl) (d1 : dl ≤ dh) : perhapsB sl sh lo hi dl = true := by
  have := always_mono (dh' := dl) h h0 h1 (Int.le_refl _) (Int.le_refl _) (Int.le_refl _) (Int.le_refl _) d0 d1
  rw [alwaysB_iff] at this
  have m1 := mul_le_pos (m := 1000 + dl) hs (by omega)
  exact perhaps_some (n := sl) h0 h1 d0 (Int.le_refl _) hs this.1 (by omega)
/-- What is between t and h is a span, if both are valid. -/
theorem spans {p : Play} {t h : Edge} (ht : t.ok = true) (hh : h.ok = true) (kt : t.kind = 1) (kh : h.kind = 2) : (offBy p t h).lo ≤ (offBy p t h).hi ∧ (wideBy t h).lo ≤ (wideBy t h).hi ∧ (deepBy t h).lo ≤ (deepBy t h).hi := by
  rw [Edge.ok_iff] at ht hh
  simp only [offBy, wideBy, deepBy]
  omega
/-- More is allowed, and there is less damp. -/
def More (p q : Play) : Prop := q.length = p.length ∧ p.slack ≤ q.slack ∧ p.loose ≤ q.loose ∧ q.damp.lo = p.damp.lo ∧ p.damp.lo ≤ q.damp.hi ∧ q.damp.hi ≤ p.damp.hi
/-- Within. -/
def Thin (t' t : Edge) : Prop := t'.kind = t.kind ∧ (t.at_.lo ≤ t'.at_.lo ∧ t'.at_.lo ≤ t'.at_.hi ∧ t'.at_.hi ≤ t.at_.hi) ∧ (t.wide.lo ≤ t'.wide.lo ∧ t'.wide.lo ≤ t'.wide.hi ∧ t'.wide.hi ≤ t.wide.hi) ∧ t.deep.lo ≤ t'.deep.lo ∧ t'.deep.lo ≤ t'.deep.hi ∧ t'.deep.hi ≤ t.deep.hi
theorem verd_more {p q : Play} {t h t' h' : Edge} (hp : p.ok = true) (hm : More p q) (ht : t.ok = true) (hh : h.ok = true) (kt : t.kind = 1) (kh : h.kind = 2) (tt : Thin t' t) (th : Thin h' h) (hv : verd p t h = 2) : verd q t' h' = 2 := by
  rw [verd_two] at hv ⊢
  rw [Play.ok_iff] at hp
  obtain ⟨m1, m2, m3, m4, m5, m6⟩ := hm
  obtain ⟨v0, v1, v2⟩ := hv
  have s0 := spans (p := p) ht hh kt kh
  obtain ⟨_, a1, a2, a3⟩ := tt
  obtain ⟨_, b1, b2, b3⟩ := th
  refine ⟨always_mono v0 (by omega) (by omega) ?_ ?_ (by omega) (by omega) (by omega) (by omega), always_mono v1 (by omega) (by omega) ?_ ?_ (by omega) (by omega) (by omega) (by omega), always_mono v2 (by omega) (by omega) ?_ ?_ (by omega) (by omega) (by omega) (by omega)⟩ <;> simp only [offBy, wideBy, deepBy] <;> omega
theorem thin_ok {t t' : Edge} (h : t.ok = true) (hk : t.kind ≠ 0) (ht : Thin t' t) : t'.ok = true := by
  rw [Edge.ok_iff] at h ⊢
  obtain ⟨a0, a1, a2, a3⟩ := ht
  omega
theorem thin_self {t : Edge} (h : t.ok = true) (hk : t.kind ≠ 0) : Thin t t := by
  rw [Edge.ok_iff] at h
  unfold Thin
  omega
theorem may_thin {p q : Play} {t h t' h' : Edge} (hp : p.ok = true) (hq : q.slack = p.slack ∧ q.loose = p.loose ∧ q.length = p.length ∧ q.damp.lo = p.damp.lo ∨ More p q) (ht : t.ok = true) (hh : h.ok = true) (kt : t.kind = 1) (kh : h.kind = 2) (tt : Thin t' t) (th : Thin h' h) (i : Nat) (hv : may p t' h' i = true) : may q t h i = true := by
  rw [Play.ok_iff] at hp
  have hq' : q.length = p.length ∧ p.slack ≤ q.slack ∧ p.loose ≤ q.loose ∧ q.damp.lo = p.damp.lo := by
    rcases hq with ⟨a, b, c, d⟩ | ⟨a, b, c, d, _⟩ <;> omega
  obtain ⟨m1, m2, m3, m4⟩ := hq'
  have t1 := thin_ok ht (by omega) tt
  have h1 := thin_ok hh (by omega) th
  have s0 := spans (p := p) t1 h1 (by rw [tt.1]; exact kt) (by rw [th.1]; exact kh)
  obtain ⟨_, a1, a2, a3⟩ := tt
  obtain ⟨_, b1, b2, b3⟩ := th
  unfold may at hv ⊢
  split at hv <;> simp only [m4]
  · refine perhaps_wide hv (by omega) (by omega) (by omega) s0.1 ?_ ?_ (by omega) (by omega) <;> simp only [offBy] <;> omega
  · refine perhaps_wide hv (by omega) (by omega) (by omega) s0.2.1 ?_ ?_ (by omega) (by omega) <;> simp only [wideBy] <;> omega
  · refine perhaps_wide hv (by omega) (by omega) (by omega) s0.2.2 ?_ ?_ (by omega) (by omega) <;> simp only [deepBy] <;> omega
theorem alw_may {p : Play} {t h : Edge} (hp : p.ok = true) (ht : t.ok = true) (hh : h.ok = true) (kt : t.kind = 1) (kh : h.kind = 2) (i : Nat) (hv : alw p t h i = true) : may p t h i = true := by
  rw [Play.ok_iff] at hp
  have s0 := spans (p := p) ht hh kt kh
  unfold alw at hv
  unfold may
  split at hv
  · exact always_perhaps hv s0.1 (by omega) (by omega) (by omega) (by omega)
  · exact always_perhaps hv s0.2.1 (by omega) (by omega) (by omega) (by omega)
  · exact always_perhaps hv s0.2.2 (by omega) (by omega) (by omega) (by omega)
theorem verd_zero {p : Play} {t h : Edge} (hp : p.ok = true) (ht : t.ok = true) (hh : h.ok = true) (kt : t.kind = 1) (kh : h.kind = 2) : verd p t h = 0 ↔ ¬ (may p t h 0 = true ∧ may p t h 1 = true ∧ may p t h 2 = true) := by
  rw [verd_eq]
  have m := alw_may hp ht hh kt kh
  by_cases h2 : (alw p t h 0 && (alw p t h 1 && alw p t h 2)) = true
  · rw [if_pos h2]
    simp only [Bool.and_eq_true] at h2
    simp [m 0 h2.1, m 1 h2.2.1, m 2 h2.2.2]
  · rw [if_neg h2]
    by_cases h1 : (may p t h 0 && (may p t h 1 && may p t h 2)) = true
    · rw [if_pos h1]
      simp only [Bool.and_eq_true] at h1
      simp [h1.1, h1.2.1, h1.2.2]
    · rw [if_neg h1]
      simp only [Bool.and_eq_true] at h1
      simp [h1]
/-- With more allowed, or less damp: what fits always still does, and what fits perhaps fits. -/
theorem fit_more {p q : Play} {a b : Edge} (hp : p.ok = true) (ha : a.ok = true) (hb : b.ok = true) (hm : More p q) (hq : q.ok = true) : FitF q a b = (fitsF q a b, 0) ∧ (fitsF p a b = 2 → fitsF q a b = 2) ∧ (fitsF p a b = 1 → fitsF q a b ≠ 0) := by
  refine ⟨by unfold FitF; rw [if_pos ⟨hq, ha, hb⟩], ?_, ?_⟩
  · unfold fitsF
    by_cases a2 : a.kind = 2
    · rw [if_pos a2, if_pos a2]
      by_cases b1 : b.kind = 1
      · rw [if_pos b1, if_pos b1]; exact verd_more hp hm hb ha b1 a2 (thin_self hb (by omega)) (thin_self ha (by omega))
      · rw [if_neg b1]; intro h; cases h
    · rw [if_neg a2, if_neg a2]
      by_cases k : a.kind = 1 ∧ b.kind = 2
      · rw [if_pos k, if_pos k]; exact verd_more hp hm ha hb k.1 k.2 (thin_self ha (by omega)) (thin_self hb (by omega))
      · rw [if_neg k]; intro h; cases h
  · have core : ∀ t h : Edge, t.ok = true → h.ok = true → t.kind = 1 → h.kind = 2 → verd p t h = 1 → verd q t h ≠ 0 := by
      intro t h ht hh kt kh hv h0
      rw [verd_zero hq ht hh kt kh] at h0
      have hne : verd p t h ≠ 0 := by omega
      rw [Ne, verd_zero hp ht hh kt kh, Classical.not_not] at hne
      have m := may_thin hp (.inr hm) ht hh kt kh (thin_self ht (by omega)) (thin_self hh (by omega))
      exact h0 ⟨m 0 hne.1, m 1 hne.2.1, m 2 hne.2.2⟩
    unfold fitsF
    by_cases a2 : a.kind = 2
    · rw [if_pos a2, if_pos a2]
      by_cases b1 : b.kind = 1
      · rw [if_pos b1, if_pos b1]; exact core b a hb ha b1 a2
      · rw [if_neg b1]; intro h; cases h
    · rw [if_neg a2, if_neg a2]
      by_cases k : a.kind = 1 ∧ b.kind = 2
      · rw [if_pos k, if_pos k]; exact core a b ha hb k.1 k.2
      · rw [if_neg k]; intro h; cases h
/-- A narrower side: what fits always still does, and what never fits never does. -/
theorem fit_thin {p : Play} {a b a' : Edge} (hp : p.ok = true) (ha : a.ok = true) (hb : b.ok = true) (hk : a'.kind = a.kind) (ht : a.kind ≠ 0 → Thin a' a) : FitF p a' b = (fitsF p a' b, 0) ∧ (fitsF p a b = 1 ∨ fitsF p a' b = fitsF p a b) := by
  have hm : More p p := by rw [Play.ok_iff] at hp; unfold More; omega
  by_cases k0 : a.kind = 0
  · have h1 : a'.ok = true := by rw [Edge.ok_iff]; omega
    refine ⟨by unfold FitF; rw [if_pos ⟨hp, h1, hb⟩], .inr ?_⟩
    unfold fitsF
    rw [if_neg (by omega), if_neg (by omega), if_neg (by omega), if_neg (by omega)]
  · have ht := ht k0
    have h1 := thin_ok ha k0 ht
    refine ⟨by unfold FitF; rw [if_pos ⟨hp, h1, hb⟩], ?_⟩
    have core : ∀ t h t' h' : Edge, t.ok = true → h.ok = true → t.kind = 1 → h.kind = 2 → Thin t' t → Thin h' h → verd p t h = 1 ∨ verd p t' h' = verd p t h := by
      intro t h t' h' ht hh kt kh tt th
      rcases verd_cases p t h with h0 | h1 | h2
      · right
        rw [h0, verd_zero hp (thin_ok ht (by omega) tt) (thin_ok hh (by omega) th) (by rw [tt.1]; exact kt) (by rw [th.1]; exact kh)]
        rw [verd_zero hp ht hh kt kh] at h0
        have m := may_thin hp (.inr hm) ht hh kt kh tt th
        exact fun h => h0 ⟨m 0 h.1, m 1 h.2.1, m 2 h.2.2⟩
      · exact .inl h1
      · right; rw [h2]; exact verd_more hp hm ht hh kt kh tt th h2
    unfold fitsF
    rw [hk]
    by_cases a2 : a.kind = 2
    · rw [if_pos a2, if_pos a2]
      by_cases b1 : b.kind = 1
      · rw [if_pos b1, if_pos b1]; exact core b a b a' hb ha b1 a2 (thin_self hb (by omega)) ht
      · rw [if_neg b1]; exact .inr (by rw [if_neg b1])
    · rw [if_neg a2, if_neg a2]
      by_cases k : a.kind = 1 ∧ b.kind = 2
      · rw [if_pos k, if_pos k]; exact core a b a' b ha hb k.1 k.2 ht (thin_self hb (by omega))
      · rw [if_neg k]; exact .inr (by rw [if_neg k])
theorem fit_slack {p : Play} {a b : Edge} {n : Int} (hp : p.ok = true) (ha : a.ok = true) (hb : b.ok = true) (hn : 0 ≤ n) :
    ∃ r, FitF (Play.mk p.length (min 500 (p.slack + n)) p.loose p.damp) a b = (r, 0) ∧ (fitsF p a b = 2 → r = 2) ∧ (fitsF p a b = 1 → r ≠ 0) := by
  have hi := hp
  rw [Play.ok_iff] at hi
  obtain ⟨h1, h2, h3, h4⟩ := hi
  have hs : p.slack ≤ min 500 (p.slack + n) := by omega
  exact ⟨_, fit_more (q := Play.mk p.length (min 500 (p.slack + n)) p.loose p.damp) hp ha hb ⟨rfl, hs, Int.le_refl _, rfl, h4.2.1, Int.le_refl _⟩ (by
    rw [Play.ok_iff]
    exact ⟨h1, ⟨by show 0 ≤ min 500 (p.slack + n); omega, by show min 500 (p.slack + n) ≤ 500; omega⟩, h3, h4⟩)⟩
theorem fit_loose {p : Play} {a b : Edge} {n : Int} (hp : p.ok = true) (ha : a.ok = true) (hb : b.ok = true) (hn : 0 ≤ n) :
    ∃ r, FitF (Play.mk p.length p.slack (min 500 (p.loose + n)) p.damp) a b = (r, 0) ∧ (fitsF p a b = 2 → r = 2) ∧ (fitsF p a b = 1 → r ≠ 0) := by
  have hi := hp
  rw [Play.ok_iff] at hi
  obtain ⟨h1, h2, h3, h4⟩ := hi
  have hs : p.loose ≤ min 500 (p.loose + n) := by omega
  exact ⟨_, fit_more (q := Play.mk p.length p.slack (min 500 (p.loose + n)) p.damp) hp ha hb ⟨rfl, Int.le_refl _, hs, rfl, h4.2.1, Int.le_refl _⟩ (by
    rw [Play.ok_iff]
    exact ⟨h1, h2, ⟨by show 0 ≤ min 500 (p.loose + n); omega, by show min 500 (p.loose + n) ≤ 500; omega⟩, h4⟩)⟩
theorem fit_damp {p : Play} {a b : Edge} {n : Int} (hp : p.ok = true) (ha : a.ok = true) (hb : b.ok = true) (hn : 0 ≤ n) :
    ∃ r, FitF (Play.mk p.length p.slack p.loose (Sp.mk p.damp.lo (max p.damp.lo (p.damp.hi - n)))) a b = (r, 0) ∧ (fitsF p a b = 2 → r = 2) ∧ (fitsF p a b = 1 → r ≠ 0) := by
  have hi := hp
  rw [Play.ok_iff] at hi
  obtain ⟨h1, h2, h3, h4⟩ := hi
  have hs : p.damp.lo ≤ max p.damp.lo (p.damp.hi - n) ∧ max p.damp.lo (p.damp.hi - n) ≤ p.damp.hi := by omega
  exact ⟨_, fit_more (q := Play.mk p.length p.slack p.loose (Sp.mk p.damp.lo (max p.damp.lo (p.damp.hi - n)))) hp ha hb ⟨rfl, Int.le_refl _, Int.le_refl _, rfl, hs.1, hs.2⟩ (by
    rw [Play.ok_iff]
    exact ⟨h1, h2, h3, h4.1, hs.1, Int.le_trans hs.2 h4.2.2⟩)⟩
theorem fit_narrow {p : Play} {a b : Edge} {i j k : Int} (hp : p.ok = true) (ha : a.ok = true) (hb : b.ok = true) (hi : a.kind ≠ 0 → (a.at_.lo ≤ i ∧ i ≤ a.at_.hi) ∧ (a.wide.lo ≤ j ∧ j ≤ a.wide.hi) ∧ a.deep.lo ≤ k ∧ k ≤ a.deep.hi) :
    ∃ r, FitF p (Edge.mk a.kind (Sp.mk a.at_.lo i) (Sp.mk j a.wide.hi) (Sp.mk a.deep.lo k)) b = (r, 0) ∧ (fitsF p a b = 1 ∨ r = fitsF p a b) :=
  ⟨_, fit_thin hp ha hb rfl fun hk => ⟨rfl, ⟨Int.le_refl _, (hi hk).1.1, (hi hk).1.2⟩, ⟨(hi hk).2.1.1, (hi hk).2.1.2, Int.le_refl _⟩, Int.le_refl _, (hi hk).2.2.1, (hi hk).2.2.2⟩⟩
end Go.Proofs.Ytdaanchagjamfaa
