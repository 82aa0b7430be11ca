/- Loops by invariants: the rule. -/
import Derived.Test.YtdaanchagjamfaaSo
namespace Go.SX
open Go Go.RowKit Go.Proofs.Ytdaanchagjamfaa

def leafK (ls : Ex → List Nat) (e : Ex) (st : St) : Tree := .leaf (.tup ((match e with | .normal => .nilp | .exit id => .ptr id 0 0 | .ret => .nili) :: .ptr st.tm.length 0 0 :: (ls e).map (getT st.tm))) st.hp
/-- A round's end: the loop goes on, or it is left. -/
def LoopLeaf (Cont : Nat → List AV → List (Nat × Blk) → Prop) (Out : Ex → Nat → List AV → List (Nat × Blk) → Prop) : AV → List (Nat × Blk) → Prop
  | .tup (.nilp :: .ptr n _ _ :: vs), h => Cont n vs h
  | .tup (.ptr id _ _ :: .ptr n _ _ :: vs), h => Out (.exit id) n vs h
  | .tup (.nili :: .ptr n _ _ :: vs), h => Out .ret n vs h
  | _, _ => False
theorem leafK_den {ls : Ex → List Nat} {Cont : Nat → List AV → List (Nat × Blk) → Prop} {Out : Ex → Nat → List AV → List (Nat × Blk) → Prop} {e : Ex} {st : St} (h : (leafK ls e st).den (LoopLeaf Cont Out)) :
    (e = .normal ∧ Cont st.tm.length ((ls e).map (getT st.tm)) st.hp) ∨ (e ≠ .normal ∧ Out e st.tm.length ((ls e).map (getT st.tm)) st.hp) := by
  cases e with
  | normal => exact .inl ⟨rfl, h⟩
  | exit id => exact .inr ⟨by simp, h⟩
  | ret => exact .inr ⟨by simp, h⟩

section
variable {σ : Type} (I : σ → JSt) (pre : σ → Prop) (μ : σ → Nat) (R : σ → Ex → JSt → Prop) (n0 : Nat) (ls : Ex → List Nat)
def Goes (s : σ) (n : Nat) (vs : List AV) (h : List (Nat × Blk)) : Prop := ∃ s' q, pre s' ∧ μ s' < μ s ∧ (∀ e J, R s' e J → R s e J) ∧ SubV n0 q (ls .normal) n vs h (I s')
def Leaves (s : σ) (e : Ex) (n : Nat) (vs : List AV) (h : List (Nat × Blk)) : Prop := ∃ J q, R s e J ∧ SubV n0 q (ls e) n vs h J
def RoundOk (E : Env) (H : Hnd) (body : Code) : Prop := ∀ s g, pre s → (exec E H body ((I s).inst g) (leafK ls)).den (LoopLeaf (Goes I pre μ R n0 ls s) (Leaves R n0 ls s))
variable {I pre μ R n0 ls}
theorem loop_rounds {E : Env} (hE : E.Sound) {H : Hnd} {G : Ctx} (hG : G.n ≤ n0) {body : Code} (hH : HndOk E G H body) (hn : ∀ s, n0 ≤ (I s).nid) (hr : RoundOk I pre μ R n0 ls E H body) {Q : Exit → Act → World → Prop} : ∀ (n : Nat) (s : σ) (g : Nat → Value) (a : Act) (w : World), μ s < n → pre s → Rep G (I s).nid ((I s).inst g) a w →
    (∀ e J g a' w', R s e J → n0 ≤ J.nid → Rep G J.nid (J.inst g) a' w' → Q e.to a' w') → Code.roundsIn (FW G.rd) 0 E.P body Q n a w
  | 0, s, g, a, w, hm, _, _, _ => by omega
  | n + 1, s, g, a, w, hm, hp, hrep, hQ => by
    rw [roundsIn_succ]
    refine exec_sound hE hH.call hH.yield body hH.loop ((I s).inst g) (leafK ls) _ _ a w (Nat.le_trans hG (hn s)) (hr s g hp) hrep ?_
    intro e st' a' w' hn' hden hrep'
    rcases leafK_den hden with ⟨rfl, s', q, h1, h2, h3, h4⟩ | ⟨hne, J, q, h1, h2⟩
    · obtain ⟨g', hr'⟩ := Rep.sub hrep' h4 hG
      exact loop_rounds hE hG hH hn hr n s' g' a' w' (by omega) h1 hr' (fun e J g a' w' hR => hQ e J g a' w' (h3 e J hR))
    · obtain ⟨g', hr'⟩ := Rep.sub hrep' h2 hG
      have := hQ e J g' a' w' h1 h2.nid hr'
      cases e with
      | normal => exact absurd rfl hne
      | exit id => exact this
      | ret => exact this
/-- What a loop comes to. -/
theorem loop_sound {E : Env} (hE : E.Sound) {H : Hnd} {G : Ctx} (hG : G.n ≤ n0) {body : Code} (hH : HndOk E G H body) (hn : ∀ s, n0 ≤ (I s).nid) (hr : RoundOk I pre μ R n0 ls E H body) {L : St → (Ex → St → Tree) → Tree}
    (hL : ∀ st K T, (L st K).den T → ∃ s q ls', pre s ∧ SubV n0 q ls' st.tm.length (ls'.map (getT st.tm)) st.hp (I s) ∧ ∀ e J g, R s e J → (K e (J.inst g)).den T) : CSound E G (.loop body) L := by
  intro st K T Q a w hn' h hrep hQ
  obtain ⟨s, q, ls', h1, h2, h3⟩ := hL st K T h
  obtain ⟨g, hr'⟩ := Rep.sub hrep h2 hG
  refine wpIn_loop_rounds (μ s + 1) (loop_rounds hE hG hH hn hr _ s g a w (Nat.lt_succ_self _) h1 hr' ?_)
  intro e J g' a' w' hR hnJ hrJ
  exact hQ e (J.inst g') a' w' (Nat.le_trans hG hnJ) (h3 e J g' hR) hrJ
end
theorem SubV.same {n0 : Nat} {ls : List Nat} {len : Nat} {vals : List AV} {h : List (Nat × Blk)} {J : JSt} (h1 : J.live.map (·.1) = ls) (h2 : len = J.len) (h3 : AV.sameRL (fun i => i) vals (J.live.map (·.2))) (h4 : subH (fun i => i) h J.hp) (h5 : scopeJ J = true) (h6 : injB (fun i => i) J.hp = true) (h7 : noDfr h = true := by rfl) (h8 : n0 ≤ J.nid := by exact Nat.zero_le _) : SubV n0 (fun i => i) ls len vals h J :=
  ⟨h1, h2, h3, h4, fun _ _ => rfl, h8, h5, h6, h7⟩
/-- One loop of one's own, the rest as ever. -/
theorem one_loop {E : Env} (hE : E.Sound) {d : Nat} {G : Ctx} (hG : G.rd = none) {c body : Code} (hc : loops c = [.loop body]) {L : St → (Ex → St → Tree) → Tree} (h : CSound E G (.loop body) L) : HndOk E G { hnd E d with loop := fun _ => L } c :=
  ⟨fun b hb => by rw [hc] at hb; simp only [List.mem_singleton] at hb; subst hb; exact h, (hnd_hndOk hE d G c hG).call, (hnd_hndOk hE d G c hG).yield⟩

/-- The same with few blocks in sight at a round's end. -/
def keepIds (ids : List Nat) (h : List (Nat × Blk)) : List (Nat × Blk) := h.filter fun p => ids.contains p.1
theorem keepIds_look {ids : List Nat} : ∀ {h : List (Nat × Blk)} {id : Nat} {b : Blk}, look (keepIds ids h) id = some b → look h id = some b
  | [], id, b, e => by cases e
  | (i, c) :: h, id, b, e => by
    unfold keepIds at e
    rw [List.filter_cons] at e
    split at e
    · simp only [look] at e ⊢
      split at e
      · rename_i hi; rw [if_pos hi]; exact e
      · rename_i hi; rw [if_neg hi]; exact keepIds_look e
    · rename_i hc
      have := keepIds_look (ids := ids) (h := h) (id := id) (b := b) e
      simp only [look]
      split
      · rename_i hi
        have hi : i = id := by simpa using hi
        subst hi
        have hm := look_memb e
        rw [List.mem_filter] at hm
        exact absurd hm.2 hc
      · exact this
def leafI (ids : List Nat) (ls : Ex → List Nat) (e : Ex) (st : St) : Tree := match noDfr st.hp with
  | true => .leaf (.tup ((match e with | .normal => .nilp | .exit id => .ptr id 0 0 | .ret => .nili) :: .ptr st.tm.length 0 0 :: (ls e).map (getT st.tm))) (keepIds ids st.hp)
  | false => .fail "deferred"
theorem leafI_den {ids : List Nat} {ls : Ex → List Nat} {Cont : Nat → List AV → List (Nat × Blk) → Prop} {Out : Ex → Nat → List AV → List (Nat × Blk) → Prop} {e : Ex} {st : St} (h : (leafI ids ls e st).den (LoopLeaf Cont Out)) :
    noDfr st.hp = true ∧ ((e = .normal ∧ Cont st.tm.length ((ls e).map (getT st.tm)) (keepIds ids st.hp)) ∨ (e ≠ .normal ∧ Out e st.tm.length ((ls e).map (getT st.tm)) (keepIds ids st.hp))) := by
  unfold leafI at h
  split at h
  · rename_i hd
    refine ⟨hd, ?_⟩
    cases e with
    | normal => exact .inl ⟨rfl, h⟩
    | exit id => exact .inr ⟨by simp, h⟩
    | ret => exact .inr ⟨by simp, h⟩
  · exact h.elim
theorem subH_keep {q : Nat → Nat} {ids : List Nat} {h : List (Nat × Blk)} : ∀ {l : List (Nat × Blk)}, subH q (keepIds ids h) l → subH q h l
  | [], _ => trivial
  | (id, b) :: l, hs => by
    obtain ⟨⟨b', h1, h2⟩, h3⟩ := hs
    exact ⟨⟨b', keepIds_look h1, h2⟩, subH_keep h3⟩
theorem SubV.keep {n0 : Nat} {q : Nat → Nat} {ls : List Nat} {len : Nat} {vals : List AV} {h : List (Nat × Blk)} {J : JSt} {ids : List Nat} (hs : SubV n0 q ls len vals (keepIds ids h) J) (hd : noDfr h = true) : SubV n0 q ls len vals h J :=
  ⟨hs.slots, hs.len, hs.tm, subH_keep hs.hp, hs.low, hs.nid, hs.sc, hs.inj, hd⟩
section
variable {σ : Type} (I : σ → JSt) (pre : σ → Prop) (μ : σ → Nat) (R : σ → Ex → JSt → Prop) (n0 : Nat) (ls : Ex → List Nat) (ids : List Nat)
def RoundOkI (E : Env) (H : Hnd) (body : Code) : Prop := ∀ s g, pre s → (exec E H body ((I s).inst g) (leafI ids ls)).den (LoopLeaf (Goes I pre μ R n0 ls s) (Leaves R n0 ls s))
variable {I pre μ R n0 ls ids}
theorem loop_roundsI {E : Env} (hE : E.Sound) {H : Hnd} {G : Ctx} (hG : G.n ≤ n0) {body : Code} (hH : HndOk E G H body) (hn : ∀ s, n0 ≤ (I s).nid) (hr : RoundOkI I pre μ R n0 ls ids E H body) {Q : Exit → Act → World → Prop} : ∀ (n : Nat) (s : σ) (g : Nat → Value) (a : Act) (w : World), μ s < n → pre s → Rep G (I s).nid ((I s).inst g) a w →
    (∀ e J g a' w', R s e J → n0 ≤ J.nid → Rep G J.nid (J.inst g) a' w' → Q e.to a' w') → Code.roundsIn (FW G.rd) 0 E.P body Q n a w
  | 0, s, g, a, w, hm, _, _, _ => by omega
  | n + 1, s, g, a, w, hm, hp, hrep, hQ => by
    rw [roundsIn_succ]
    refine exec_sound hE hH.call hH.yield body hH.loop ((I s).inst g) (leafI ids ls) _ _ a w (Nat.le_trans hG (hn s)) (hr s g hp) hrep ?_
    intro e st' a' w' hn' hden hrep'
    obtain ⟨hd, hden⟩ := leafI_den hden
    rcases hden with ⟨rfl, s', q, h1, h2, h3, h4⟩ | ⟨hne, J, q, h1, h2⟩
    · obtain ⟨g', hr'⟩ := Rep.sub hrep' (h4.keep hd) hG
      exact loop_roundsI hE hG hH hn hr n s' g' a' w' (by omega) h1 hr' (fun e J g a' w' hR => hQ e J g a' w' (h3 e J hR))
    · obtain ⟨g', hr'⟩ := Rep.sub hrep' (h2.keep hd) hG
      have := hQ e J g' a' w' h1 h2.nid hr'
      cases e with
      | normal => exact absurd rfl hne
      | exit id => exact this
      | ret => exact this
theorem loop_soundI {E : Env} (hE : E.Sound) {H : Hnd} {G : Ctx} (hG : G.n ≤ n0) {body : Code} (hH : HndOk E G H body) (hn : ∀ s, n0 ≤ (I s).nid) (hr : RoundOkI I pre μ R n0 ls ids E H body) {L : St → (Ex → St → Tree) → Tree}
    (hL : ∀ st K T, (L st K).den T → ∃ s q ls', pre s ∧ SubV n0 q ls' st.tm.length (ls'.map (getT st.tm)) st.hp (I s) ∧ ∀ e J g, R s e J → (K e (J.inst g)).den T) : CSound E G (.loop body) L := by
  intro st K T Q a w hn' h hrep hQ
  obtain ⟨s, q, ls', h1, h2, h3⟩ := hL st K T h
  obtain ⟨g, hr'⟩ := Rep.sub hrep h2 hG
  refine wpIn_loop_rounds (μ s + 1) (loop_roundsI hE hG hH hn hr _ s g a w (Nat.lt_succ_self _) h1 hr' ?_)
  intro e J g' a' w' hR hnJ hrJ
  exact hQ e (J.inst g') a' w' (Nat.le_trans hG hnJ) (h3 e J g' hR) hrJ
end

end Go.SX
