/- A region that draws its order, second half. -/
import Derived.Test.YtdaanchagjamfaaSi
namespace Go.SX
open Go Go.RowKit Go.Proofs.Ytdaanchagjamfaa

def foldL (L : Nat → Bool) : Nat → List (Oper × Rec) → St → St
  | _, [], st => st
  | k, x :: l, st => foldL L (k + 1) l (if L k then applyR x.1 x.2 st else st)

theorem lookU_or (u : List (Nat × Blk)) (id : Nat) : ((∃ p ∈ u, p.1 = id) ∧ ∃ c, ∀ lk, lookU u lk id = c) ∨ ((∀ p ∈ u, p.1 ≠ id) ∧ ∀ lk, lookU u lk id = lk id) := by
  induction u with
  | nil => exact .inr ⟨by simp, fun _ => rfl⟩
  | cons p u ih =>
    obtain ⟨i, b⟩ := p
    by_cases h : i = id
    · subst h
      exact .inl ⟨⟨(i, b), by simp, rfl⟩, _, fun lk => by simp only [lookU, beq_self_eq_true, if_true]; rfl⟩
    · have hb : (i == id) = false := by simpa using h
      rcases ih with ⟨⟨p, hp, he⟩, c, hc⟩ | ⟨hn, hc⟩
      · exact .inl ⟨⟨p, by simp [hp], he⟩, c, fun lk => by simp only [lookU, hb, Bool.false_eq_true, if_false]; exact hc lk⟩
      · refine .inr ⟨fun p hp => ?_, fun lk => by simp only [lookU, hb, Bool.false_eq_true, if_false]; exact hc lk⟩
        rcases List.mem_cons.1 hp with rfl | hp
        · exact h
        · exact hn p hp
theorem getT_apply (o : Oper) (rec : Rec) (s : St) (t : Nat) : getT (applyR o rec s).tm t = if o.dst = some t ∧ t < s.tm.length then rec.val else getT s.tm t := getT_setO _ _ _ _
theorem lk_apply (o : Oper) (rec : Rec) (s : St) (id : Nat) : look (applyR o rec s).hp id = lookU rec.upd (look s.hp) id := look_append _ _ _

theorem foldL_len (L : Nat → Bool) : ∀ (l : List (Oper × Rec)) (k : Nat) (s : St), (foldL L k l s).tm.length = s.tm.length
  | [], _, _ => rfl
  | x :: l, k, s => by
    rw [foldL, foldL_len L l]
    split
    · exact apply_length _ _ _
    · rfl
theorem foldL_tm {L1 L2 : Nat → Bool} {t : Nat} : ∀ (l : List (Oper × Rec)) (k : Nat) (s1 s2 : St), getT s1.tm t = getT s2.tm t → s1.tm.length = s2.tm.length → (∀ (j : Nat) (x : Oper × Rec), l[j]? = some x → L1 (k + j) ≠ L2 (k + j) → x.1.dst ≠ some t) →
    getT (foldL L1 k l s1).tm t = getT (foldL L2 k l s2).tm t
  | [], _, _, _, h, _, _ => h
  | x :: l, k, s1, s2, h, hl, hx => by
    rw [foldL, foldL]
    refine foldL_tm l (k + 1) _ _ ?_ ?_ (fun j y hy hne => hx (j + 1) y hy (by rw [show k + (j + 1) = k + 1 + j by omega]; exact hne))
    · have h0 := hx 0 x rfl
      rw [Nat.add_zero] at h0
      cases h1 : L1 k <;> cases h2 : L2 k <;> simp only [Bool.false_eq_true, if_false, if_true]
      · exact h
      · rw [getT_apply, if_neg (fun g => h0 (by rw [h1, h2]; decide) g.1)]; exact h
      · rw [getT_apply, if_neg (fun g => h0 (by rw [h1, h2]; decide) g.1)]; exact h
      · rw [getT_apply, getT_apply, hl, h]
    · split <;> split <;> (try simp only [apply_length]) <;> exact hl
theorem foldL_lk {L1 L2 : Nat → Bool} {id : Nat} : ∀ (l : List (Oper × Rec)) (k : Nat) (s1 s2 : St), look s1.hp id = look s2.hp id → (∀ (j : Nat) (x : Oper × Rec), l[j]? = some x → L1 (k + j) ≠ L2 (k + j) → ∀ p ∈ x.2.upd, p.1 ≠ id) →
    look (foldL L1 k l s1).hp id = look (foldL L2 k l s2).hp id
  | [], _, _, _, h, _ => h
  | x :: l, k, s1, s2, h, hx => by
    rw [foldL, foldL]
    refine foldL_lk l (k + 1) _ _ ?_ (fun j y hy hne => hx (j + 1) y hy (by rw [show k + (j + 1) = k + 1 + j by omega]; exact hne))
    have h0 := hx 0 x rfl
    rw [Nat.add_zero] at h0
    have key : L1 k ≠ L2 k → ∀ lk, lookU x.2.upd lk id = lk id := fun hne => by
      rcases lookU_or x.2.upd id with ⟨⟨p, hp, he⟩, _⟩ | ⟨_, h⟩
      · exact absurd he (h0 hne p hp)
      · exact h
    cases h1 : L1 k <;> cases h2 : L2 k <;> simp only [Bool.false_eq_true, if_false, if_true]
    · exact h
    · rw [lk_apply, key (by rw [h1, h2]; decide)]; exact h
    · rw [lk_apply, key (by rw [h1, h2]; decide)]; exact h
    · rw [lk_apply, lk_apply]
      rcases lookU_or x.2.upd id with ⟨_, c, hc⟩ | ⟨_, hc⟩
      · rw [hc, hc]
      · rw [hc, hc]; exact h

/-- An operation put off behind others that are apart from it. -/
structure Off (d : Option Nat) (v : AV) (u : List (Nat × Blk)) (s1 s2 : St) : Prop where
  len : s1.tm.length = s2.tm.length
  tm : ∀ t, getT s1.tm t = updT s2.tm.length (getT s2.tm) d v t
  lk : ∀ id, look s1.hp id = lookU u (look s2.hp) id
theorem Off.go {d : Option Nat} {v : AV} {u : List (Nat × Blk)} {L1 L2 : Nat → Bool} : ∀ (l : List (Oper × Rec)) (k : Nat) (s1 s2 : St), Off d v u s1 s2 →
    (∀ (j : Nat) (x : Oper × Rec), l[j]? = some x → L1 (k + j) = L2 (k + j) ∧ (L1 (k + j) = true → (∀ t, x.1.dst = some t → d ≠ some t) ∧ ∀ p ∈ x.2.upd, ∀ q ∈ u, p.1 ≠ q.1)) →
    Off d v u (foldL L1 k l s1) (foldL L2 k l s2)
  | [], _, _, _, h, _ => h
  | x :: l, k, s1, s2, h, hx => by
    rw [foldL, foldL]
    refine Off.go l (k + 1) _ _ ?_ (fun j y hy => by have := hx (j + 1) y hy; rw [show k + (j + 1) = k + 1 + j by omega] at this; exact this)
    have h0 := hx 0 x rfl
    rw [Nat.add_zero] at h0
    rw [← h0.1]
    cases h1 : L1 k <;> simp only [Bool.false_eq_true, if_false, if_true]
    · exact h
    · obtain ⟨hd, hu⟩ := h0.2 h1
      refine ⟨by rw [apply_length, apply_length, h.len], fun t => ?_, fun id => ?_⟩
      · rw [getT_apply, h.tm t, apply_length]
        unfold updT
        rw [getT_apply, h.len]
        by_cases g1 : x.1.dst = some t ∧ t < s2.tm.length
        · rw [if_pos g1, if_pos g1, if_neg (fun g => hd t g1.1 g.1)]
        · rw [if_neg g1, if_neg g1]
      · rw [lk_apply]; have hlk := h.lk id
        rcases lookU_or x.2.upd id with ⟨⟨p, hp, he⟩, c, hc⟩ | ⟨_, hc⟩
        · have hn : ∀ lk, lookU u lk id = lk id := by
            rcases lookU_or u id with ⟨⟨q, hq, he'⟩, _⟩ | ⟨_, h⟩
            · exact absurd (he.trans he'.symm) (hu p hp q hq)
            · exact h
          rw [hc, hn, lk_apply, hc]
        · rw [hc]
          rcases lookU_or u id with ⟨_, c, hc'⟩ | ⟨_, hc'⟩
          · rw [hlk, hc', hc']
          · rw [hlk, hc', hc', lk_apply, hc]

theorem foldL_off {L1 L2 : Nat → Bool} {i : Nat} {xi : Oper × Rec} : ∀ (l : List (Oper × Rec)) (k : Nat) (s : St), k ≤ i → l[i - k]? = some xi → L1 i = true → L2 i = false → (∀ j, j ≠ i → L1 j = L2 j) →
    (∀ (j : Nat) (x : Oper × Rec), l[j]? = some x → i < k + j → L1 (k + j) = true → (∀ t, x.1.dst = some t → xi.1.dst ≠ some t) ∧ ∀ p ∈ x.2.upd, ∀ q ∈ xi.2.upd, p.1 ≠ q.1) →
    Off xi.1.dst xi.2.val xi.2.upd (foldL L1 k l s) (foldL L2 k l s)
  | [], k, s, hk, hi, _, _, _, _ => by simp at hi
  | x :: l, k, s, hk, hi, h1, h2, hne, hx => by
    rw [foldL, foldL]
    by_cases hki : k = i
    · subst hki
      simp only [Nat.sub_self, List.getElem?_cons_zero, Option.some.injEq] at hi; subst hi
      simp only [h1, h2, Bool.false_eq_true, if_false, if_true]
      refine Off.go l (k + 1) _ _ ⟨apply_length _ _ _, fun t => ?_, fun id => ?_⟩ (fun j y hy => ⟨hne _ (by omega), fun hl => ?_⟩)
      · rw [getT_apply]; rfl
      · rw [lk_apply]
      · exact hx (j + 1) y hy (by omega) (by rw [show k + (j + 1) = k + 1 + j by omega]; exact hl)
    · rw [hne k hki]
      refine foldL_off l (k + 1) _ (by omega) ?_ h1 h2 hne (fun j y hy hlt hl => ?_)
      · rw [show i - k = (i - (k + 1)) + 1 by omega] at hi
        simpa using hi
      · exact hx (j + 1) y hy (by omega) (by rw [show k + (j + 1) = k + 1 + j by omega]; exact hl)

/-- What all that has come up keeps to, the state keeps to. -/
theorem foldL_free {n : Nat} {L : Nat → Bool} : ∀ (l : List (Oper × Rec)) (k : Nat) (s : St), Free n (getT s.tm) (look s.hp) → (∀ (j : Nat) (x : Oper × Rec), l[j]? = some x → L (k + j) = true → noR n x.2 = true) → Free n (getT (foldL L k l s).tm) (look (foldL L k l s).hp)
  | [], _, _, h, _ => h
  | x :: l, k, s, h, hx => by
    rw [foldL]
    refine foldL_free l (k + 1) _ ?_ (fun j y hy hl => hx (j + 1) y hy (by rw [show k + (j + 1) = k + 1 + j by omega]; exact hl))
    split
    · rename_i hl
      have h0 := hx 0 x rfl hl
      unfold noR at h0
      simp only [Bool.and_eq_true, List.all_eq_true] at h0
      refine ⟨fun t => ?_, fun id b hb => ?_, fun id b hb => ?_⟩
      · rw [getT_apply]
        split
        · exact h0.1
        · exact h.tm t
      · rw [lk_apply] at hb
        rcases lookU_cases hb with ⟨p, hp, rfl, _, _⟩ | ⟨hb, _⟩
        · have := (h0.2 p hp).1; simpa using this
        · exact h.out id b hb
      · rw [lk_apply] at hb
        rcases lookU_cases hb with ⟨p, hp, _, rfl, _⟩ | ⟨hb, _⟩
        · exact (h0.2 p hp).2
        · exact h.blk id b hb
    · exact h

theorem foldL_none {L : Nat → Bool} : ∀ (l : List (Oper × Rec)) (k : Nat) (s : St), (∀ j, k ≤ j → L j = false) → foldL L k l s = s
  | [], _, _, _ => rfl
  | x :: l, k, s, h => by
    rw [foldL, if_neg (by rw [h k (Nat.le_refl _)]; decide)]
    exact foldL_none l (k + 1) s (fun j hj => h j (by omega))
theorem foldL_congr {L1 L2 : Nat → Bool} : ∀ (l : List (Oper × Rec)) (k : Nat) (s : St), (∀ j, k ≤ j → j < k + l.length → L1 j = L2 j) → foldL L1 k l s = foldL L2 k l s
  | [], _, _, _ => rfl
  | x :: l, k, s, h => by
    simp only [List.length_cons] at h
    rw [foldL, foldL, h k (Nat.le_refl _) (by omega)]
    exact foldL_congr l (k + 1) _ (fun j hj hlt => h j (by omega) (by omega))

def undefR : Rec := ⟨.tup [], [], []⟩
structure LexAt (E : Env) (ops : Array Oper) (base : Nat) (i : Nat) (o : Oper) (rec : Rec) (s : St) : Prop where
  at_ : ∃ tm, Eqv s.tm tm ∧ Scoped (base + 8 * i) { s with tm := tm } ∧ ((guardV ops tm o = some true ∧ Ran E o (base + 8 * i) { s with tm := tm } rec) ∨ (guardV ops tm o = some false ∧ rec = undefR) ∨ ∃ g u, rec = ⟨u, [], rec.ids⟩ ∧ SpecOk E ops o (base + 8 * i) { s with tm := tm } g u rec.ids)

theorem applyR_eqv (o : Oper) (rec : Rec) {s s' : St} (ht : Eqv s.tm s'.tm) (hh : s.hp = s'.hp) : Eqv (applyR o rec s).tm (applyR o rec s').tm ∧ (applyR o rec s).hp = (applyR o rec s').hp :=
  ⟨ht.setO _ _, by unfold applyR; simp only [hh]⟩
theorem ran_hp {E : Env} {o : Oper} {n : Nat} {s s' : St} {rec : Rec} (h : Ran E o n s rec) (ht : s.tm = s'.tm) (hh : s.hp = s'.hp) : Ran E o n s' rec := by
  obtain ⟨h⟩ := h
  exact ⟨by rw [← ht, ← hh]; exact h⟩
theorem scoped_hp {n : Nat} {s s' : St} (h : Scoped n s) (ht : s.tm = s'.tm) (hh : s.hp = s'.hp) : Scoped n s' :=
  ⟨fun t => by rw [← ht]; exact h.tm t, fun id b => by rw [← hh]; exact h.out id b, fun id b => by rw [← hh]; exact h.blk id b⟩

theorem spec_hp {E : Env} {ops : Array Oper} {o : Oper} {n : Nat} {s s' : St} {g : Bool} {v : AV} {ids : List Nat} (h : SpecOk E ops o n s g v ids) (ht : s.tm = s'.tm) (hh : s.hp = s'.hp) : SpecOk E ops o n s' g v ids := by
  refine ⟨fun a r ha => h.gd a r (by rw [ht]; exact ha), h.sc, h.off, fun hg => ?_⟩
  obtain ⟨tm', v', h1, h2, h3, h4, h5⟩ := h.run hg
  exact ⟨tm', v', by rw [← ht]; exact h1, by rw [← ht]; exact h2, by rw [← ht]; exact h3, ran_hp h4 rfl hh, h5⟩
theorem RunsTo.lex {E : Env} {ops : Array Oper} {base : Nat} : ∀ {k : Nat} {l : List Oper} {st : St} {rs : List Rec} {st' : St}, RunsTo E ops base k l st rs st' →
    ∀ s0 : St, Eqv s0.tm st.tm → s0.hp = st.hp → Scoped (base + 8 * k) st → rs.length = l.length ∧ (∀ (i : Nat) (o : Oper) (rec : Rec), l[i]? = some o → rs[i]? = some rec → LexAt E ops base (k + i) o rec (foldL (fun j => decide (j < k + i)) k (l.zip rs) s0)) ∧
      Eqv (foldL (fun _ => true) k (l.zip rs) s0).tm st'.tm ∧ (foldL (fun _ => true) k (l.zip rs) s0).hp = st'.hp ∧ Scoped (base + 8 * (k + l.length)) st' ∧ st'.tm.length = st.tm.length := by
  intro k l st rs st' h
  induction h with
  | nil => intro s0 h1 h2 h3; exact ⟨rfl, by simp, h1, h2, by simpa using h3, rfl⟩
  | @run k o l st tm rec rs st' he hg h _ ih =>
    intro s0 h1 h2 h3
    have h4 := h3.eqv he
    have ha := applyR_eqv o rec (s := s0) (s' := { st with tm := tm }) (h1.trans he) h2
    obtain ⟨i1, i2, i3, i4, i5, i6⟩ := ih (applyR o rec s0) ha.1 ha.2 (by rw [Nat.mul_add, ← Nat.add_assoc]; exact h.scopedAt h4)
    refine ⟨by simp [i1], fun i o' rec' ho hr => ?_, i3, i4, by rw [List.length_cons, show k + (l.length + 1) = k + 1 + l.length by omega]; exact i5, by rw [i6, apply_length]; exact he.1.symm⟩
    cases i with
    | zero =>
      simp only [List.getElem?_cons_zero, Option.some.injEq] at ho hr; subst ho hr
      rw [foldL_none _ _ _ (fun j hj => by simp; omega)]
      exact ⟨tm, h1.trans he, scoped_hp h4 rfl h2.symm, .inl ⟨hg, ran_hp h rfl h2.symm⟩⟩
    | succ i =>
      simp only [List.getElem?_cons_succ] at ho hr
      have := i2 i o' rec' ho hr
      rw [List.zip_cons_cons, foldL, if_pos (by simp), show k + (i + 1) = k + 1 + i by omega]
      exact this
  | @skip k o l st tm rs st' he hg _ ih =>
    intro s0 h1 h2 h3
    have h4 := h3.eqv he
    have ha := applyR_eqv o undefR (s := s0) (s' := { st with tm := tm }) (h1.trans he) h2
    obtain ⟨i1, i2, i3, i4, i5, i6⟩ := ih (applyR o undefR s0) ha.1 ha.2 (h4.skip (by omega))
    refine ⟨by simp [i1], fun i o' rec' ho hr => ?_, i3, i4, by rw [List.length_cons, show k + (l.length + 1) = k + 1 + l.length by omega]; exact i5, by rw [i6, apply_length]; exact he.1.symm⟩
    cases i with
    | zero =>
      simp only [List.getElem?_cons_zero, Option.some.injEq] at ho hr; subst ho hr
      rw [foldL_none _ _ _ (fun j hj => by simp; omega)]
      exact ⟨tm, h1.trans he, scoped_hp h4 rfl h2.symm, .inr (.inl ⟨hg, rfl⟩)⟩
    | succ i =>
      simp only [List.getElem?_cons_succ] at ho hr
      have := i2 i o' rec' ho hr
      rw [List.zip_cons_cons, foldL, if_pos (by simp), show k + (i + 1) = k + 1 + i by omega]
      exact this
  | @spec k o l st g v ids rs st' h _ ih =>
    intro s0 h1 h2 h3
    have ha := applyR_eqv o ⟨v, [], ids⟩ (s := s0) (s' := st) h1 h2
    have hsc : Scoped (base + 8 * k + 8) (applyR o ⟨v, [], ids⟩ st) := h3.apply (by omega) ⟨h.sc, by simp⟩ (by simp)
    obtain ⟨i1, i2, i3, i4, i5, i6⟩ := ih (applyR o ⟨v, [], ids⟩ s0) ha.1 ha.2 (by rw [Nat.mul_add, ← Nat.add_assoc]; exact hsc)
    refine ⟨by simp [i1], fun i o' rec' ho hr => ?_, i3, i4, by rw [List.length_cons, show k + (l.length + 1) = k + 1 + l.length by omega]; exact i5, by rw [i6, apply_length]⟩
    cases i with
    | zero =>
      simp only [List.getElem?_cons_zero, Option.some.injEq] at ho hr; subst ho hr
      rw [foldL_none _ _ _ (fun j hj => by simp; omega)]
      exact ⟨st.tm, h1, scoped_hp h3 rfl h2.symm, .inr (.inr ⟨g, v, rfl, spec_hp h rfl h2.symm⟩)⟩
    | succ i =>
      simp only [List.getElem?_cons_succ] at ho hr
      have := i2 i o' rec' ho hr
      rw [List.zip_cons_cons, foldL, if_pos (by simp), show k + (i + 1) = k + 1 + i by omega]
      exact this

end Go.SX
