/- A state within a pattern; loops by invariants, told ahead where they begin and how they end. -/
import Derived.Test.YtdaanchagjamfaaSy
namespace Go.SX
open Go Go.RowKit Go.Proofs.Ytdaanchagjamfaa

theorem findP_p : ∀ {Q : List Pr} {i : Nat} {x : Pr}, findP Q i = some x → x.p = i
  | [], _, _, h => by cases h
  | y :: l, i, x, h => by
    simp only [findP] at h
    split at h
    · rename_i hb
      simp only [Option.some.injEq] at h; subst h
      exact Nat.eq_of_beq_eq_true hb
    · exact findP_p h
theorem findP_mem : ∀ {Q : List Pr} {i : Nat} {x : Pr}, findP Q i = some x → x ∈ Q
  | [], _, _, h => by cases h
  | y :: l, i, x, h => by
    simp only [findP] at h
    split at h
    · simp only [Option.some.injEq] at h; subst h; exact List.mem_cons_self
    · exact List.mem_cons_of_mem _ (findP_mem h)
theorem lowP_spec {n0 : Nat} : ∀ {Q : List Pr}, lowP n0 Q = true → ∀ x ∈ Q, x.p < n0 → x.c = .same ∧ x.p = x.s
  | [], _, x, hx, _ => by cases hx
  | y :: l, h, x, hx, hlt => by
    simp only [lowP, Bool.and_eq_true] at h
    rcases List.mem_cons.1 hx with rfl | hx
    · have h1 := h.1
      have e : Nat.blt x.p n0 = true := by rw [Nat.blt_eq]; exact hlt
      rw [e] at h1
      simp only at h1
      split at h1
      · rename_i hc; exact ⟨hc, Nat.eq_of_beq_eq_true h1⟩
      · cases h1
    · exact lowP_spec h.2 x hx hlt
theorem eqH_mem {Q : List Pr} {h : List (Nat × Blk)} : ∀ {l : List (Nat × Blk)} {ps : List Prop}, eqH Q h l = some ps → allE ps → ∀ p ∈ l,
    (∃ x, findP Q p.1 = some x ∧ x.c = .ghost ∧ ∃ qs, eqG p.2 = some qs ∧ allE qs) ∨ (∃ x b', findP Q p.1 = some x ∧ x.c ≠ .ghost ∧ look h x.s = some b' ∧ ∃ qs, eqB Q x.c b' p.2 = some qs ∧ allE qs)
  | [], _, _, _, p, hp => by cases hp
  | (i, b) :: l, ps, he, ha, p, hp => by
    simp only [eqH] at he
    split at he <;> (try (cases he; done))
    · rename_i pp ss hf
      split at he <;> (try (cases he; done))
      rename_i q1 q2 h1 h2
      simp only [Option.some.injEq] at he; subst he
      obtain ⟨a1, a2⟩ := allE_append.1 ha
      rcases List.mem_cons.1 hp with rfl | hp
      · exact .inl ⟨_, hf, rfl, q1, h1, a1⟩
      · exact eqH_mem h2 a2 p hp
    · rename_i pp ss cc hng hf
      split at he <;> (try (cases he; done))
      rename_i b' hb'
      split at he <;> (try (cases he; done))
      rename_i q1 q2 h1 h2
      simp only [Option.some.injEq] at he; subst he
      obtain ⟨a1, a2⟩ := allE_append.1 ha
      rcases List.mem_cons.1 hp with rfl | hp
      · exact .inr ⟨_, b', hf, fun e => hng e, hb', q1, h1, a1⟩
      · exact eqH_mem h2 a2 p hp
theorem injP_spec {Q : List Pr} : ∀ {l : List (Nat × Blk)}, injP Q l = true → ∀ p ∈ l, ∀ p' ∈ l, p.1 ≠ p'.1 → ∀ x x', findP Q p.1 = some x → findP Q p'.1 = some x' → x.c ≠ .ghost → x'.c ≠ .ghost → x.s ≠ x'.s
  | [], _, p, hp, _, _, _, _, _, _, _, _, _ => by cases hp
  | (i, b) :: l, h, p, hp, p', hp', hne, x, x', hx, hx', g, g' => by
    simp only [injP, Bool.and_eq_true] at h
    have one : ∀ (i : Nat) (y : Pr), findP Q i = some y → y.c ≠ .ghost → (match findP Q i with
        | some ⟨_, s, c⟩ => l.all fun p => match findP Q p.1 with
          | some ⟨_, s', c'⟩ => (match c, c' with
            | .ghost, _ => true
            | _, .ghost => true
            | _, _ => !(Nat.beq s s'))
          | none => false
        | none => false) = true → ∀ z ∈ l, ∀ y', findP Q z.1 = some y' → y'.c ≠ .ghost → y.s ≠ y'.s := by
      intro i y hy hg h1 z hz y' hy' hg' e
      rw [hy] at h1
      simp only [List.all_eq_true] at h1
      have := h1 z hz
      rw [hy'] at this
      obtain ⟨_, s, c⟩ := y
      obtain ⟨_, s', c'⟩ := y'
      simp only at e hg hg' this
      subst e
      cases c <;> cases c' <;> simp_all
    rcases List.mem_cons.1 hp with rfl | hp <;> rcases List.mem_cons.1 hp' with rfl | hp'
    · exact absurd rfl hne
    · exact one i x hx g h.1 p' hp' x' hx' g'
    · exact fun e => one i x' hx' g' h.1 p hp x hx g e.symm
    · exact injP_spec h.2 p hp p' hp' hne x x' hx hx' g g'
theorem denL_mem {r r' : Nat → Loc} {f : Nat → AV} : ∀ {live : List (Nat × AV)}, AV.denL r (live.map fun p => f p.1) = AV.denL r' (live.map (·.2)) → ∀ p ∈ live, (f p.1).den r = p.2.den r'
  | [], _, p, hp => by cases hp
  | x :: l, h, p, hp => by
    simp only [List.map_cons, AV.denL, List.cons.injEq] at h
    rcases List.mem_cons.1 hp with rfl | hp
    · exact h.1
    · exact denL_mem h.2 p hp
/-- A state that keeps to a pattern is one of the pattern's. -/
theorem Rep.subW {G : Ctx} {n n0 : Nat} {ls : List Nat} {st : St} {J : JSt} {a : Act} {w : World} (h : Rep G n st a w) (hs : SubOk n0 ls st.tm.length (ls.map (getT st.tm)) st.hp J) (hG : G.n ≤ n0) : ∃ g, Rep G J.nid (J.inst g) a w := by
  obtain ⟨⟨r, hI⟩, _⟩ := h
  obtain ⟨ps0, hsub, hall⟩ := hs.eqs
  unfold subE at hsub
  simp only at hsub
  generalize unif n0 _ _ _ _ = Q at hsub
  split at hsub <;> (try (cases hsub; done))
  rename_i ps qs e1 e2 hck
  simp only [Option.some.injEq] at hsub; subst hsub
  obtain ⟨ha1, ha2⟩ := allE_append.1 hall
  simp only [Bool.and_eq_true] at hck
  obtain ⟨hsc, hinj, hlow, hnd, _⟩ := hck
  unfold scopeJ at hsc
  simp only [List.all_eq_true, Bool.and_eq_true, decide_eq_true_eq] at hsc
  have hz : ls.map (getT st.tm) = J.live.map (fun p => getT st.tm p.1) := by rw [← hs.slots, List.map_map]; rfl
  have hden := eqL_den (hJ := J.hp) r _ _ _ e1 ha1
  rw [hz] at hden
  have hsame := denL_mem hden
  have hget : ∀ t, getT (J.inst fun t => a.tmps.getD t undef).tm t = if t < J.len then (match lkS J.live t with | some v => v | none => .raw (a.tmps.getD t undef)) else .tup [] := by
    intro t
    have := instT_get (fun t => a.tmps.getD t undef) J.live J.len 0 t
    rw [Nat.zero_add] at this
    exact this
  have hblk : ∀ id b, look J.hp id = some b → (BRep (locP Q J.hp r) id w b ∧ ∀ k, ¬ Foot (locP Q J.hp r) id b k) ∨
      ∃ x b', findP Q id = some x ∧ x.c ≠ .ghost ∧ look st.hp x.s = some b' ∧ BRep (locP Q J.hp r) id w b ∧ (∀ k, Foot (locP Q J.hp r) id b k → Foot r x.s b' k) ∧ (b.own = true → b'.own = true) := by
    intro id b hb
    rcases eqH_mem e2 ha2 _ (look_memb hb) with ⟨x, h1, h2, q1, h3, h4⟩ | ⟨x, b', h1, h2, h3, q1, h4, h5⟩
    · refine .inl (eqG_ok h3 h4 ?_)
      unfold locP
      rw [h1]
      obtain ⟨_, s, c⟩ := x
      simp only at h2; subst h2
      simp only
      rw [hb]
    · have := eqB_ok (hJ := J.hp) (r := r) (w := w) (x := x) h1 h4 h5 (hI.rep _ _ h3)
      exact .inr ⟨x, b', h1, h2, h3, this.1, this.2.1, this.2.2⟩
  refine ⟨fun t => a.tmps.getD t undef, ⟨locP Q J.hp r, ?_⟩, ?_⟩
  · refine ⟨?_, Dfr.none ?_, fun t => ?_, fun id b hb => ?_, fun id b hb => look_live hb, fun id id' b b' hb hb' hne ho k hk hk' => ?_, fun id hid => ?_, hI.fr, fun id b hb ho k hk => ?_⟩
    · rw [hI.size, hs.len]; exact (instT_len _ _ _ _).symm
    · obtain ⟨ds, d1, _, d3⟩ := hI.defers
      cases ds with
      | nil => exact d1
      | cons x ds => exact (noDfr_spec hnd (d3 x (by simp)).2.1).elim
    · rw [hget]
      split
      · split
        · rename_i v hv
          rw [hI.tm t]
          exact hsame _ (lkS_mem hv)
        · rfl
      · rename_i hlt
        rw [hI.tm t]
        have : getT st.tm t = .tup [] := by unfold getT; rw [List.getElem?_eq_none (by rw [hs.len]; omega)]; rfl
        rw [this]; rfl
    · rcases hblk id b hb with h1 | ⟨_, _, _, _, _, h1, _⟩
      · exact h1.1
      · exact h1
    · rcases hblk id b hb with h1 | ⟨x, c, h1, h2, h3, _, h4, h5⟩
      · exact h1.2 k hk
      · rcases hblk id' b' hb' with g1 | ⟨x', c', g1, g2, g3, _, g4, _⟩
        · exact g1.2 k hk'
        · exact hI.sep _ _ c c' h3 g3 (injP_spec hinj _ (look_memb hb) _ (look_memb hb') hne x x' h1 g1 h2 g2) (h5 ho) k (h4 k hk) (g4 k hk')
    · rw [← hI.ext id hid]
      unfold locP
      cases hf : findP Q id with
      | none => rfl
      | some x =>
        have hp := findP_p hf
        obtain ⟨l1, l2⟩ := lowP_spec hlow x (findP_mem hf) (by rw [hp]; omega)
        obtain ⟨p, s, c⟩ := x
        simp only at hp l1 l2
        subst l1; subst l2; subst hp; rfl
    · rcases hblk id b hb with h1 | ⟨x, c, h1, h2, h3, _, h4, h5⟩
      · exact absurd hk (h1.2 k)
      · exact hI.own _ c h3 (h5 ho) k (h4 k hk)
  · refine ⟨fun t => ?_, fun id b hb => (hsc.2 _ (look_memb hb)).1, fun id b hb => (hsc.2 _ (look_memb hb)).2⟩
    rw [hget]
    split
    · split
      · rename_i v hv; exact hsc.1 _ (lkS_mem hv)
      · rfl
    · rfl

/-! ### Loops -/
/-- What is reached from values, so many steps far. -/
def heapOf (h : List (Nat × Blk)) : List Nat → List (Nat × Blk)
  | [] => []
  | i :: l => match look h i with
    | some b => (i, b) :: heapOf h l
    | none => heapOf h l
theorem heapOf_look {h : List (Nat × Blk)} : ∀ {l : List Nat} {id : Nat} {b : Blk}, look (heapOf h l) id = some b → look h id = some b
  | [], _, _, e => by cases e
  | i :: l, id, b, e => by
    simp only [heapOf] at e
    split at e
    · rename_i c hc
      simp only [look] at e
      split at e
      · rename_i hi
        have hi : i = id := by simpa using hi
        subst hi
        rw [look_live hc] at e
        simp only [if_true, Option.some.injEq] at e
        rw [← e]; exact hc
      · exact heapOf_look e
    · exact heapOf_look e
def nearH (ids : List Nat) (vals : List AV) (h : List (Nat × Blk)) : List (Nat × Blk) := heapOf h (reach 0 h 4 (addTo (AV.idsFromL 0 vals) ids))
theorem nearH_look {ids : List Nat} {vals : List AV} {h : List (Nat × Blk)} {id : Nat} {b : Blk} (e : look (nearH ids vals h) id = some b) : look h id = some b := by
  unfold nearH at e
  exact heapOf_look e
def kindE : Ex → AV
  | .normal => .nilp
  | .exit id => .ptr id 0 0
  | .ret => .nili
def leafW (ids : List Nat) (ls : Ex → List Nat) (e : Ex) (st : St) : Tree := match noDfr st.hp with
  | true => .leaf (.tup (kindE e :: .ptr st.tm.length 0 0 :: (ls e).map (getT st.tm))) (nearH ids ((ls e).map (getT st.tm)) st.hp)
  | false => .fail "deferred"
theorem leafW_den {ids : List Nat} {ls : Ex → List Nat} {Cont : Nat → List AV → List (Nat × Blk) → Prop} {Out : Ex → Nat → List AV → List (Nat × Blk) → Prop} {e : Ex} {st : St} (h : (leafW ids ls e st).den (LoopLeaf Cont Out)) :
    noDfr st.hp = true ∧ ((e = .normal ∧ Cont st.tm.length ((ls e).map (getT st.tm)) (nearH ids ((ls e).map (getT st.tm)) st.hp)) ∨ (e ≠ .normal ∧ Out e st.tm.length ((ls e).map (getT st.tm)) (nearH ids ((ls e).map (getT st.tm)) st.hp))) := by
  unfold leafW at h
  split at h
  · rename_i hd
    refine ⟨hd, ?_⟩
    cases e with
    | normal => exact .inl ⟨rfl, h⟩
    | exit id => exact .inr ⟨by simp, h⟩
    | ret => exact .inr ⟨by simp, h⟩
  · exact h.elim

theorem Rep.near {G : Ctx} {n : Nat} {st : St} {a : Act} {w : World} {h' : List (Nat × Blk)} (hs : ∀ id b, look h' id = some b → look st.hp id = some b) (hd : noDfr st.hp = true) (h : Rep G n st a w) : Rep G n { st with hp := h' } a w := by
  obtain ⟨⟨r, hI⟩, hS⟩ := h
  refine ⟨⟨r, hI.size, Dfr.none ?_, hI.tm, fun id b hb => hI.rep id b (hs id b hb), fun id b hb => look_live hb, fun id id' b b' h1 h2 => hI.sep id id' b b' (hs _ _ h1) (hs _ _ h2), hI.ext, hI.fr, fun id b hb => hI.own id b (hs id b hb)⟩, hS.tm, fun id b hb => hS.out id b (hs id b hb), fun id b hb => hS.blk id b (hs id b hb)⟩
  obtain ⟨ds, d1, _, d3⟩ := hI.defers
  cases ds with
  | nil => exact d1
  | cons x ds => exact (noDfr_spec hd (d3 x (by simp)).2.1).elim
section
variable {σ : Type} (I : σ → JSt) (pre : σ → Prop) (μ : σ → Nat) (R : σ → Ex → JSt → Prop) (n0 : Nat) (ls : Ex → List Nat) (ids : List Nat)
def GoesW (s : σ) (n : Nat) (vs : List AV) (h : List (Nat × Blk)) : Prop := ∃ s', pre s' ∧ μ s' < μ s ∧ (∀ e J, R s' e J → R s e J) ∧ SubOk n0 (ls .normal) n vs h (I s')
def LeavesW (s : σ) (e : Ex) (n : Nat) (vs : List AV) (h : List (Nat × Blk)) : Prop := ∃ J, R s e J ∧ SubOk n0 (ls e) n vs h J
/-- What is to be shown of a round. -/
structure RoundW (E : Env) (H : σ → Hnd) (body : Code) : Prop where
  round : ∀ s g, pre s → DenOk (LoopLeaf (GoesW I pre μ R n0 ls s) (LeavesW R n0 ls s)) (exec E (H s) body ((I s).inst g) (leafW ids ls))
variable {I pre μ R n0 ls ids}
theorem loop_roundsW {E : Env} (hE : E.Sound) {H : σ → Hnd} {G : Ctx} (hG : G.n ≤ n0) {body : Code} (hH : ∀ s, pre s → HndOk E G (H s) body) (hn : ∀ s, pre s → n0 ≤ (I s).nid) (hR : ∀ s e J, R s e J → n0 ≤ J.nid) (hr : RoundW I pre μ R n0 ls ids E H body) {Q : Exit → Act → World → Prop} : ∀ (n : Nat) (s : σ) (g : Nat → Value) (a : Act) (w : World), μ s < n → pre s → Rep G (I s).nid ((I s).inst g) a w →
    (∀ e J g a' w', R s e J → n0 ≤ J.nid → Rep G J.nid (J.inst g) a' w' → Q e.to a' w') → Code.roundsIn (FW G.rd) 0 E.P body Q n a w
  | 0, s, g, a, w, hm, _, _, _ => by omega
  | n + 1, s, g, a, w, hm, hp, hrep, hQ => by
    rw [roundsIn_succ]
    have hh := hH s hp
    have h0 := (hr.round s g hp).den
    generalize H s = Hs at hh h0
    have key : CSound E G body (exec E Hs body) := exec_sound hE hh.call hh.yield body hh.loop
    refine key ((I s).inst g) (leafW ids ls) _ _ a w (Nat.le_trans hG (hn s hp)) h0 hrep ?_
    intro e st' a' w' hn' hden hrep'
    obtain ⟨hd, hden⟩ := leafW_den hden
    have hnear := Rep.near (h' := nearH ids ((ls e).map (getT st'.tm)) st'.hp) (fun id b hb => nearH_look hb) hd hrep'
    rcases hden with ⟨rfl, s', h1, h2, h3, h4⟩ | ⟨hne, J, h1, h2⟩
    · obtain ⟨g', hr'⟩ := Rep.subW hnear h4 hG
      exact loop_roundsW hE hG hH hn hR hr n s' g' a' w' (by omega) h1 hr' (fun e J g a' w' hR => hQ e J g a' w' (h3 e J hR))
    · obtain ⟨g', hr'⟩ := Rep.subW hnear h2 hG
      have := hQ e J g' a' w' h1 (hR _ _ _ h1) hr'
      cases e with
      | normal => exact absurd rfl hne
      | exit id => exact this
      | ret => exact this
end
def askAll : List Prop → Tree → Tree
  | [], t => t
  | p :: l, t => .ask p (askAll l t)
theorem askAll_den {T : AV → List (Nat × Blk) → Prop} {t : Tree} : ∀ {l : List Prop}, (askAll l t).den T → allE l ∧ t.den T
  | [], h => ⟨trivial, h⟩
  | p :: l, h => by
    obtain ⟨h1, h2⟩ := h
    obtain ⟨h3, h4⟩ := askAll_den h2
    exact ⟨⟨h1, h3⟩, h4⟩
/-- How a loop can end: when, where, in which state. -/
def endsT (K : Ex → St → Tree) : List (Prop × Ex × JSt) → Tree
  | [] => .fail "no end"
  | [x] => .asm x.1 (.all fun g => K x.2.1 (x.2.2.inst g))
  | x :: y :: l => .both (.asm x.1 (.all fun g => K x.2.1 (x.2.2.inst g))) (endsT K (y :: l))
theorem endsT_den {K : Ex → St → Tree} {T : AV → List (Nat × Blk) → Prop} : ∀ {l : List (Prop × Ex × JSt)}, (endsT K l).den T → ∀ x ∈ l, x.1 → ∀ g, (K x.2.1 (x.2.2.inst g)).den T
  | [], h, x, hx => by cases hx
  | [y], h, x, hx => by
    simp only [List.mem_singleton] at hx; subst hx; exact h
  | y :: z :: l, h, x, hx => by
    obtain ⟨h1, h2⟩ := h
    rcases List.mem_cons.1 hx with rfl | hx
    · exact h1
    · exact endsT_den h2 x hx
/-- A loop, told ahead: what it begins with, how it ends. -/
def loopT (n0 : Nat) (ids : List Nat) (J0 : JSt) (X : List (Prop × Ex × JSt)) (st : St) (K : Ex → St → Tree) : Tree :=
  match Nat.beq st.tm.length J0.len && noDfr st.hp with
  | true => (match subE n0 ((J0.live.map (·.1)).map (getT st.tm)) (nearH ids ((J0.live.map (·.1)).map (getT st.tm)) st.hp) J0 with
    | some ps => askAll ps (endsT K X)
    | none => .fail "a loop's beginning")
  | false => .fail "a loop's slots"
theorem loopT_ok {σ : Type} {I : σ → JSt} {pre : σ → Prop} {μ : σ → Nat} {R : σ → Ex → JSt → Prop} {n0 : Nat} {ls : Ex → List Nat} {ids ids' : List Nat} {E : Env} (hE : E.Sound) {H : σ → Hnd} {G : Ctx} (hG : G.n ≤ n0) {body : Code} (hH : ∀ s, pre s → HndOk E G (H s) body)
    (hn : ∀ s, pre s → n0 ≤ (I s).nid) (hR : ∀ s e J, R s e J → n0 ≤ J.nid) (hr : RoundW I pre μ R n0 ls ids E H body) {s0 : σ} (hp : pre s0) {X : List (Prop × Ex × JSt)} (hX : ∀ e J, R s0 e J → ∃ x ∈ X, x.1 ∧ x.2.1 = e ∧ x.2.2 = J) :
    CSound E G (.loop body) (loopT n0 ids' (I s0) X) := by
  intro st K T Q a w hn' h hrep hQ
  unfold loopT at h
  split at h
  rotate_left
  · exact h.elim
  rename_i hl
  split at h
  rotate_left
  · exact h.elim
  rename_i ps hps
  simp only [Bool.and_eq_true] at hl
  have hlen := Nat.eq_of_beq_eq_true hl.1
  obtain ⟨ha, hx⟩ := askAll_den h
  have hnear := Rep.near (h' := nearH ids' (((I s0).live.map (·.1)).map (getT st.tm)) st.hp) (fun id b hb => nearH_look hb) hl.2 hrep
  have hso : SubOk n0 ((I s0).live.map (·.1)) st.tm.length (((I s0).live.map (·.1)).map (getT st.tm)) (nearH ids' (((I s0).live.map (·.1)).map (getT st.tm)) st.hp) (I s0) := { slots := rfl, len := hlen, eqs := ⟨ps, hps, ha⟩ }
  obtain ⟨g, hr'⟩ := Rep.subW hnear hso hG
  refine wpIn_loop_rounds (μ s0 + 1) (loop_roundsW hE hG hH hn hR hr _ s0 g a w (Nat.lt_succ_self _) hp hr' ?_)
  intro e J g' a' w' hRe hnJ hrJ
  obtain ⟨x, h1, h2, h3, h4⟩ := hX e J hRe
  have := endsT_den hx x h1 h2 g'
  rw [h3, h4] at this
  exact hQ e (J.inst g') a' w' (Nat.le_trans hG hnJ) this hrJ
end Go.SX
