/- What a world has to do with an abstract state; one operation; a region in the text's order. -/
import Derived.Test.YtdaanchagjamfaaSf
namespace Go.SX
open Go Go.RowKit Go.Proofs.Ytdaanchagjamfaa

/-- Where the walk began: the world, what may be changed of it, where the blocks lie that were handed in (those below 'n'). -/
structure Ctx where
  w : World
  ch : Nat → Prop
  n : Nat
  r : Nat → Loc
  rd : Option Nat

/-- Deferred calls: the marks of loops that are over, each with its block, open and empty. -/
def mark (b : Nat) : Deferred := { target := .collected b, args := #[] }
def Dfr (G : Ctx) (r : Nat → Loc) (lk : Nat → Option Blk) (a : Act) : Prop := ∃ ds : List Nat, a.defers = ds.map (fun id => mark (r id).blk) ∧ (ds.map fun id => (r id).blk).Nodup ∧ ∀ id ∈ ds, G.n ≤ id ∧ lk id = some .dfr ∧ G.w.heap.size ≤ (r id).blk
theorem Dfr.none {G : Ctx} {r : Nat → Loc} {lk : Nat → Option Blk} {a : Act} (h : a.defers = []) : Dfr G r lk a := ⟨[], h, List.nodup_nil, by simp⟩
theorem Dfr.to {G : Ctx} {r r' : Nat → Loc} {lk lk' : Nat → Option Blk} {a a' : Act} (h : Dfr G r lk a) (ha : a'.defers = a.defers) (hl : ∀ id, G.n ≤ id → lk id = some .dfr → lk' id = some .dfr ∧ r' id = r id) : Dfr G r' lk' a' := by
  obtain ⟨ds, h1, h2, h3⟩ := h
  have e : ds.map (fun id => (r' id).blk) = ds.map (fun id => (r id).blk) := List.map_congr_left fun id hid => by rw [(hl id (h3 id hid).1 (h3 id hid).2.1).2]
  refine ⟨ds, ?_, by rw [e]; exact h2, fun id hid => ?_⟩
  · rw [ha, h1]
    exact List.map_congr_left fun id hid => by rw [(hl id (h3 id hid).1 (h3 id hid).2.1).2]
  · obtain ⟨k1, k2, k3⟩ := h3 id hid
    obtain ⟨j1, j2⟩ := hl id k1 k2
    exact ⟨k1, j1, by rw [j2]; exact k3⟩
/-- What holds in a world, of temporaries and blocks as functions. -/
structure Inv (G : Ctx) (N : Nat) (r : Nat → Loc) (tf : Nat → AV) (lk : Nat → Option Blk) (a : Act) (w : World) : Prop where
  size : a.tmps.size = N
  defers : Dfr G r lk a
  tm : ∀ t, a.tmps.getD t undef = (tf t).den r
  rep : ∀ id b, lk id = some b → BRep r id w b
  live : ∀ id b, lk id = some b → b.live = true
  sep : ∀ id id' b b', lk id = some b → lk id' = some b' → id ≠ id' → b.own = true → ∀ k, Foot r id b k → ¬ Foot r id' b' k
  ext : ∀ id, id < G.n → r id = G.r id
  fr : Fr G.w w G.ch
  own : ∀ id b, lk id = some b → b.own = true → ∀ k, Foot r id b k → G.ch k ∨ G.w.heap.size ≤ k

/-- Nothing of a state names a number of the range. -/
structure Free (nid : Nat) (tf : Nat → AV) (lk : Nat → Option Blk) : Prop where
  tm : ∀ t, (tf t).all (fun i => !inR nid i) = true
  out : ∀ id b, lk id = some b → inR nid id = false
  blk : ∀ id b, lk id = some b → b.all (fun i => !inR nid i) = true

def updT (N : Nat) (tf : Nat → AV) (d : Option Nat) (v : AV) : Nat → AV := fun t => if d = some t ∧ t < N then v else tf t
def lookU (u : List (Nat × Blk)) (lk : Nat → Option Blk) (id : Nat) : Option Blk := match u with
  | [] => lk id
  | (i, b) :: t => if i == id then (if b.live then some b else none) else lookU t lk id
theorem lookU_cases {u : List (Nat × Blk)} {lk : Nat → Option Blk} {id : Nat} {b : Blk} (h : lookU u lk id = some b) : (∃ p ∈ u, p.1 = id ∧ p.2 = b ∧ b.live = true) ∨ (lk id = some b ∧ ∀ p ∈ u, p.1 ≠ id) := by
  induction u with
  | nil => exact .inr ⟨h, by simp⟩
  | cons p u ih =>
    obtain ⟨i, b'⟩ := p
    simp only [lookU] at h
    split at h
    · rename_i he
      have he : i = id := by simpa using he
      split at h
      · rename_i hl; simp only [Option.some.injEq] at h; subst h; exact .inl ⟨(i, b'), by simp, he, rfl, hl⟩
      · cases h
    · rename_i he
      have he : i ≠ id := by simpa using he
      rcases ih h with ⟨p, hp, h1⟩ | ⟨h1, h2⟩
      · exact .inl ⟨p, by simp [hp], h1⟩
      · refine .inr ⟨h1, fun p hp => ?_⟩
        rcases List.mem_cons.1 hp with rfl | hp
        · exact he
        · exact h2 p hp
theorem lookU_last {u : List (Nat × Blk)} {lk : Nat → Option Blk} {id : Nat} {b : Blk} (h : lookU u lk id = some b) : (∃ p ∈ u, p.1 = id ∧ p.2 = b ∧ b.live = true ∧ True) ∨ (lk id = some b ∧ ∀ p ∈ u, p.1 ≠ id) := by
  rcases lookU_cases h with ⟨p, h1, h2, h3, h4⟩ | h
  · exact .inl ⟨p, h1, h2, h3, h4, trivial⟩
  · exact .inr h
theorem lookU_not {u : List (Nat × Blk)} {lk : Nat → Option Blk} {id : Nat} {b : Blk} (h : ∀ p ∈ u, p.1 ≠ id) (hb : lk id = some b) : lookU u lk id = some b := by
  induction u with
  | nil => exact hb
  | cons p u ih =>
    obtain ⟨i, b'⟩ := p
    have : (i == id) = false := by have := h (i, b') (by simp); simpa using this
    simp only [lookU, this]
    exact ih fun p hp => h p (by simp [hp])
theorem look_append (u h : List (Nat × Blk)) (id : Nat) : look (u ++ h) id = lookU u (look h) id := by
  induction u with
  | nil => rfl
  | cons p u ih => obtain ⟨i, b⟩ := p; simp only [List.cons_append, look, lookU]; rw [ih]

theorem Act.getD_put (a : Act) (d : Option Nat) (v : Value) (t : Nat) : (a.put d v).tmps.getD t undef = if d = some t ∧ t < a.tmps.size then v else a.tmps.getD t undef := by
  cases d with
  | none => simp [Act.put]
  | some d =>
    simp only [Act.put, Array.getD_eq_getD_getElem?, Array.getElem?_setIfInBounds, Option.some.injEq]
    by_cases h : d = t
    · subst h
      by_cases g : d < a.tmps.size
      · simp [g]
      · simp [g]
    · simp [h]
theorem Act.put_size (a : Act) (d : Option Nat) (v : Value) : (a.put d v).tmps.size = a.tmps.size := by
  cases d <;> simp [Act.put]
theorem Act.put_defers (a : Act) (d : Option Nat) (v : Value) : (a.put d v).defers = a.defers := by
  cases d <;> rfl

/-- Behind an operation. 'hold': of what stood before, only what the operation saw was changed, and that was one's own. -/
theorem Inv.step {G : Ctx} {N : Nat} {r r' : Nat → Loc} {tf : Nat → AV} {lk : Nat → Option Blk} {a : Act} {w w' : World} {nid : Nat} {u : List (Nat × Blk)} {d : Option Nat} {v : AV}
    (h : Inv G N r tf lk a w) (hf : Free nid tf lk) (hn : G.n ≤ nid) (hp : Post lk r nid u w r' w')
    (hold : ∀ p ∈ u, inR nid p.1 = false → ∃ b, lk p.1 = some b ∧ b.own = true) : Inv G N r' (updT N tf d v) (lookU u lk) (a.put d (v.den r')) w' := by
  have hr : ∀ i, (!inR nid i) = true → r i = r' i := fun i hi => (hp.same i (by simpa using hi)).symm
  have hft : ∀ id b k, lk id = some b → (Foot r' id b k ↔ Foot r id b k) := by
    intro id b k hb
    have := hp.same id (hf.out id b hb)
    unfold Foot; rw [this]
  have hbk : ∀ id b, lk id = some b → (∀ p ∈ u, p.1 ≠ id) → ∀ k, Foot r id b k → bk w' k = bk w k := by
    intro id b hb hne k hk
    refine hp.fr.block k ((h.rep id b hb).lt (h.live id b hb) k hk) ?_
    rintro ⟨p, hpu, hin, b0, hb0, hk0⟩
    obtain ⟨b', hb', how⟩ := hold p hpu hin
    rw [hb'] at hb0; cases hb0
    exact h.sep p.1 id _ b hb' hb (hne p hpu) how k hk0 hk
  have hlt : ∀ id b, lk id = some b → ∀ k, Foot r id b k → k < w.heap.size := fun id b hb => (h.rep id b hb).lt (h.live id b hb)
  -- what is new, and something of one's own that stood before and is still there
  have hnewO : ∀ p ∈ u, p.2.live = true → inR nid p.1 = true → ∀ id b, lk id = some b → b.own = true → (∀ q ∈ u, q.1 = id → q.2.live = true) → ∀ k, Foot r' p.1 p.2 k → ¬ Foot r id b k := by
    intro p hpu hl hin id b hb hob hst k hk hk2
    rcases hp.new p hpu hin hl k hk with h1 | ⟨q, hq, h1, h2, b0, hb0, h3⟩ | ⟨_, id0, b0, hb0, ho0, h3⟩
    · have := hlt id b hb k hk2; omega
    · obtain ⟨b', hb', how⟩ := hold q hq h1
      have hqi : q.1 ≠ id := by
        intro e
        have e1 := h2 q hq rfl
        rw [hst q hq e] at e1; cases e1
      rw [hb'] at hb0; cases hb0
      exact h.sep q.1 id _ b hb' hb hqi how k h3 hk2
    · have hne : id ≠ id0 := by
        rintro rfl
        rw [hb] at hb0; cases hb0; rw [hob] at ho0; cases ho0
      exact h.sep id id0 b b0 hb hb0 hne hob k hk2 h3
  -- what is new and one's own, and something that stood before and was not touched
  have hnew : ∀ p ∈ u, p.2.live = true → inR nid p.1 = true → p.2.own = true → ∀ id b, lk id = some b → (∀ q ∈ u, q.1 = id → q.2.live = true) → ∀ k, Foot r' p.1 p.2 k → ¬ Foot r id b k := by
    intro p hpu hl hin hpo id b hb hne k hk hk2
    rcases hp.new p hpu hin hl k hk with h1 | ⟨q, hq, h1, h2, b0, hb0, h3⟩ | ⟨hno, _⟩
    · have := hlt id b hb k hk2; omega
    · obtain ⟨b', hb', how⟩ := hold q hq h1
      have hqi : q.1 ≠ id := by
        intro e
        have e1 := h2 q hq rfl
        rw [hne q hq e] at e1; cases e1
      rw [hb'] at hb0; cases hb0
      exact h.sep q.1 id _ b hb' hb hqi how k h3 hk2
    · rw [hpo] at hno; cases hno
  have hdf : Dfr G r' (lookU u lk) (a.put d (v.den r')) := by
    refine h.defers.to (Act.put_defers _ _ _) fun id _ hid => ⟨?_, hp.same id (hf.out id _ hid)⟩
    have hne : ∀ p ∈ u, p.1 ≠ id := by
      intro p hpu he
      have hin : inR nid p.1 = false := by rw [he]; exact hf.out id _ hid
      obtain ⟨b, hb, ho⟩ := hold p hpu hin
      rw [he, hid] at hb
      simp only [Option.some.injEq] at hb; subst hb; cases ho
    exact lookU_not hne hid
  refine ⟨by rw [Act.put_size]; exact h.size, hdf, fun t => ?_, fun id b hb => ?_, fun id b hb => ?_, fun id id' b b' hb hb' hne how => ?_, fun id hid => ?_, ?_, fun id b hb how => ?_⟩
  · rw [Act.getD_put, h.size]
    unfold updT
    split
    · rfl
    · rw [h.tm t, den_congr hr _ (hf.tm t)]
  · rcases lookU_cases hb with ⟨p, hpu, rfl, rfl, _⟩ | ⟨hb, hne⟩
    · exact hp.rep p hpu
    · exact (h.rep id b hb).keep hr (hp.same id (hf.out id b hb)).symm hp.fr.size (hf.blk id b hb) (fun _ => hbk id b hb hne)
  · rcases lookU_cases hb with ⟨p, _, _, _, hl⟩ | ⟨hb, _⟩
    · exact hl
    · exact h.live id b hb
  · intro k hk hk'
    rcases lookU_last hb with ⟨p, hpu, rfl, rfl, hl, hpl⟩ | ⟨hb1, hne1⟩ <;> rcases lookU_last hb' with ⟨q, hqu, rfl, rfl, hl', hql⟩ | ⟨hb2, hne2⟩
    · cases hin : inR nid p.1 <;> cases hin' : inR nid q.1
      · obtain ⟨b1, g1, o1⟩ := hold p hpu hin
        obtain ⟨b2, g2, o2⟩ := hold q hqu hin'
        obtain ⟨c1, d1, e1⟩ := hp.stay p hpu hin hl k hk
        obtain ⟨c2, d2, e2⟩ := hp.stay q hqu hin' hl' k hk'
        rw [g1] at d1; cases d1
        rw [g2] at d2; cases d2
        exact h.sep _ _ _ _ g1 g2 hne o1 k e1 e2
      · obtain ⟨b1, g1, o1⟩ := hold p hpu hin
        obtain ⟨c1, d1, e1⟩ := hp.stay p hpu hin hl k hk
        rw [g1] at d1; cases d1
        rcases hp.new q hqu hin' hl' k hk' with h1 | ⟨z, hz, h1, h2, c3, d3, h3⟩ | ⟨_, id0, b0, hb0, ho0, h3⟩
        · have := hlt _ _ g1 k e1; omega
        · obtain ⟨b3, g3, o3⟩ := hold z hz h1
          rw [g3] at d3; cases d3
          have hzp : z.1 ≠ p.1 := by
            intro e
            have := h2 p hpu e.symm
            rw [hl] at this; cases this
          exact h.sep z.1 p.1 _ b1 g3 g1 hzp o3 k h3 e1
        · have hne0 : p.1 ≠ id0 := by
            intro e
            rw [← e, g1] at hb0; cases hb0; rw [o1] at ho0; cases ho0
          exact h.sep p.1 id0 b1 b0 g1 hb0 hne0 o1 k e1 h3
      · obtain ⟨b2, g2, o2⟩ := hold q hqu hin'
        obtain ⟨c2, d2, e2⟩ := hp.stay q hqu hin' hl' k hk'
        rw [g2] at d2; cases d2
        rcases hp.new p hpu hin hl k hk with h1 | ⟨z, hz, h1, h2, c3, d3, h3⟩ | ⟨hno, _⟩
        · have := hlt _ _ g2 k e2; omega
        · obtain ⟨b3, g3, o3⟩ := hold z hz h1
          rw [g3] at d3; cases d3
          have hzp : z.1 ≠ q.1 := by
            intro e
            have := h2 q hqu e.symm
            rw [hl'] at this; cases this
          exact h.sep z.1 q.1 _ b2 g3 g2 hzp o3 k h3 e2
        · rw [how] at hno; cases hno
      · exact hp.apart p hpu q hqu hin hin' hne how hl' k hk hk'
    · rw [hft _ _ _ hb2] at hk'
      cases hin : inR nid p.1
      · obtain ⟨b1, g1, o1⟩ := hold p hpu hin
        obtain ⟨c1, d1, e1⟩ := hp.stay p hpu hin hl k hk
        rw [g1] at d1; cases d1
        exact h.sep _ _ _ _ g1 hb2 hne o1 k e1 hk'
      · exact hnew p hpu hl hin how id' b' hb2 (fun q hq e => absurd e (hne2 q hq)) k hk hk'
    · rw [hft _ _ _ hb1] at hk
      cases hin' : inR nid q.1
      · obtain ⟨b2, g2, o2⟩ := hold q hqu hin'
        obtain ⟨c2, d2, e2⟩ := hp.stay q hqu hin' hl' k hk'
        rw [g2] at d2; cases d2
        exact h.sep _ _ _ _ hb1 g2 hne how k hk e2
      · exact hnewO q hqu hl' hin' id b hb1 how (fun z hz e => absurd e (hne1 z hz)) k hk' hk
    · rw [hft _ _ _ hb1] at hk
      rw [hft _ _ _ hb2] at hk'
      exact h.sep _ _ _ _ hb1 hb2 hne how k hk hk'
  · rw [hp.same id (by unfold inR; simp; omega)]
    exact h.ext id hid
  · refine ⟨hp.fr.os.trans h.fr.os, hp.fr.tape.trans h.fr.tape, hp.fr.output.trans h.fr.output, Nat.le_trans h.fr.size hp.fr.size, fun k hk hc => ?_⟩
    rw [hp.fr.block k (Nat.lt_of_lt_of_le hk h.fr.size) ?_, h.fr.block k hk hc]
    rintro ⟨p, hpu, hin, b0, hb0, hk0⟩
    obtain ⟨b', hb', how⟩ := hold p hpu hin
    rw [hb'] at hb0; cases hb0
    rcases h.own _ _ hb' how k hk0 with h1 | h1
    · exact hc h1
    · omega
  · intro k hk
    rcases lookU_last hb with ⟨p, hpu, rfl, rfl, hl, _⟩ | ⟨hb1, _⟩
    · cases hin : inR nid p.1
      · obtain ⟨b1, g1, o1⟩ := hold p hpu hin
        obtain ⟨c1, d1, e1⟩ := hp.stay p hpu hin hl k hk
        rw [g1] at d1; cases d1
        exact h.own _ _ g1 o1 k e1
      · rcases hp.new p hpu hin hl k hk with h1 | ⟨q, hq, h1, h2, c3, d3, h3⟩ | ⟨hno, _⟩
        · exact .inr (Nat.le_trans h.fr.size h1)
        · obtain ⟨b1, g1, o1⟩ := hold q hq h1
          rw [g1] at d3; cases d3
          exact h.own _ _ g1 o1 k h3
        · rw [how] at hno; cases hno
    · rw [hft _ _ _ hb1] at hk
      exact h.own _ _ hb1 how k hk

end Go.SX
