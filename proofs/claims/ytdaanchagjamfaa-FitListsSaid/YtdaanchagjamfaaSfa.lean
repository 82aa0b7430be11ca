/- Contracts of functions that read slices of their caller's and hand out new ones. -/
import Derived.Test.YtdaanchagjamfaaSz
import Derived.Test.YtdaanchagjamfaaSv
namespace Go.SX
open Go Go.RowKit Go.Proofs.Ytdaanchagjamfaa

/-- What can stand in a row. -/
class RowT (α : Type) where
  ks : List CK
  enc : α → Nat → Int
  dec : (Nat → Int) → α
  ok : ∀ f, cellsOf ks 0 (enc (dec f)) = cellsOf ks 0 f
instance : RowT Int where
  ks := [.int .i64]
  enc n _ := n
  dec f := f 0
  ok _ := rfl
instance : RowT Bool where
  ks := [.bool]
  enc b _ := cond b 1 0
  dec f := decide (f 0 = 1)
  ok f := by
    simp only [cellsOf, mkC]
    by_cases h : f 0 = 1 <;> simp [h]
/-- So many, which. -/
structure Rw (α : Type) where
  n : Nat
  get : Nat → α
def ownK (k : Nat) (v : AV) (u : List (Nat × Blk)) : Prop := v.all (fun i => i == k) = true ∧ ∀ q ∈ u, q.1 = k ∧ q.2.own = false ∧ q.2.all (fun _ => false) = true
/-- An argument that can be read: its value and the blocks behind it, under a number of its own. -/
class ArgE (α : Type) where
  val : Nat → α → AV
  blk : Nat → α → List (Nat × Blk)
  dec : AV → (Nat → Option Blk) → Option (Bool × α)
  ok : ∀ v lk p x, dec v lk = some (p, x) → p = true → (∀ k, ownK k (val k x) (blk k x)) ∧ ∀ (r : Nat → Loc) (w : World), (∀ id b, lk id = some b → BRep r id w b) → ∃ l : Loc, ∀ (k : Nat) (r' : Nat → Loc), r' k = l → (val k x).den r' = v.den r ∧ ∀ q ∈ blk k x, BRep r' q.1 w q.2
instance {α : Type} [Enc α] : ArgE α where
  val _ x := Enc.enc x
  blk _ _ := []
  dec v _ := match (Enc.dec v : Option α) with
    | some x => some (true, x)
    | none => none
  ok v lk p x h hp := by
    split at h <;> (try (cases h; done))
    rename_i y hy
    simp only [Option.some.injEq, Prod.mk.injEq] at h
    obtain ⟨rfl, rfl⟩ := h
    obtain ⟨h1, h2⟩ := Enc.ok _ _ hy
    exact ⟨fun k => ⟨all_mono (fun _ hf => by cases hf) _ h2, by simp⟩, fun r w _ => ⟨Loc.none 0, fun k r' _ => ⟨by rw [den_congr (p := fun _ => false) (r := r') (r' := r) (fun _ hf => by cases hf) _ h2, h1 r], by simp⟩⟩⟩
/-- Rows from a place on, so many. -/
theorem rowsAt_shift {r r' : Nat → Loc} {w : World} {l l' : Loc} {ks : List CK} {n m e : Nat} {g g' : Nat → Nat → Int} (h : RowsAt w r l ks.length n (rowG ks g)) (hle : e + m ≤ n) (hg : ∀ i, i < m → rowG ks g' i = rowG ks g (i + e)) (h1 : l'.blk = l.blk) (h2 : l'.off = l.off + e * ks.length) (h3 : l'.nil = true → l.nil = true) (h4 : ∀ k, l.foot k → l'.foot k) : RowsAt w r' l' ks.length m (rowG ks g') := by
  refine rowsAt_of (r := r) (fun hn => by have := h.1 (h3 hn); omega) (fun i hi => by rw [h1]; exact h4 _ (h.2 (i + e) (by omega)).1) fun i hi j v hv => ?_
  rw [hg i hi] at hv
  have := ((h.2 (i + e) (by omega)).2.2 j v hv).2
  rw [h1, h2, Nat.add_assoc l.off, ← Nat.add_mul, Nat.add_comm e i]; exact this
/-- A slice of rows, out of what stands behind it. -/
def rowsDec (ks : List CK) (v : AV) (lk : Nat → Option Blk) : Option (Bool × Nat × (Nat → Nat → Int)) := match v with
  | .slz id e m _ => (match lk id with
    | some (.rowz _ _ ks' n g) => (match ksB ks' ks with
      | true => some (decide (m + e ≤ n), m, fun i => g (i + e))
      | false => none)
    | some (.frz ks' n g) => (match ksB ks' ks with
      | true => some (decide (m + e ≤ n), m, fun i => g (i + e))
      | false => none)
    | _ => none)
  | .slice _ id e m _ => (match lk id with
    | some (.rowlR _ z l) => (match Nat.beq z ks.length && (l.all (okRow ks) && decide (e + m ≤ l.length)) with
      | true => some (true, m, fun i => rowI l 0 (i + e))
      | false => none)
    | some (.cellsR z _ l) => (match Nat.beq z ks.length && ((chunk z (e + m) l).all (okRow ks) && decide ((e + m) * z ≤ l.length)) with
      | true => some (true, m, fun i => rowI (chunk z (e + m) l) 0 (i + e))
      | false => none)
    | some (.frz ks' n g) => (match ksB ks' ks with
      | true => some (decide (m + e ≤ n), m, fun i => g (i + e))
      | false => none)
    | _ => none)
  | .nils => some (true, 0, fun _ _ => 0)
  | _ => none
theorem chunk_pre (sz : Nat) : ∀ (n : Nat) (l : List AV), n * sz ≤ l.length → chunk sz n l = chunk sz n (l.take (n * sz))
  | 0, _, _ => rfl
  | n + 1, l, h => by
    have e : (n + 1) * sz = sz + n * sz := by rw [Nat.add_mul]; omega
    rw [chunk, chunk, List.take_take, Nat.min_eq_left (by omega), chunk_pre sz n (l.drop sz) (by rw [List.length_drop]; omega)]
    congr 2
    rw [e, List.drop_take, Nat.add_sub_cancel_left]
theorem rowsDec_ok {ks : List CK} {v : AV} {lk : Nat → Option Blk} {p : Bool} {m : Nat} {g g' : Nat → Nat → Int} (h : rowsDec ks v lk = some (p, m, g)) (hp : p = true) (hg : ∀ i, rowG ks g' i = rowG ks g i) {r : Nat → Loc} {w : World} (hb : ∀ id b, lk id = some b → BRep r id w b) :
    ∃ l : Loc, ∀ (k : Nat) (r' : Nat → Loc), r' k = l → (AV.slz k 0 m (.of 0)).den r' = v.den r ∧ BRep r' k w (.frz ks m g') := by
  unfold rowsDec at h
  split at h
  · rename_i id e mm cp
    have fin : ∀ (n : Nat) (g0 : Nat → Nat → Int), e + mm ≤ n → (r id).esz = ks.length → (∀ k, (r id).foot k → k < w.heap.size) → RowsAt w r (r id) ks.length n (rowG ks g0) → (∀ i, rowG ks g' i = rowG ks g0 (i + e)) →
        ∃ l : Loc, ∀ (k : Nat) (r' : Nat → Loc), r' k = l → (AV.slz k 0 mm (.of 0)).den r' = (AV.slz id e mm cp).den r ∧ BRep r' k w (.frz ks mm g') := by
      intro n g0 hle hez hft hR hgg
      refine ⟨{ r id with off := (r id).off + e * (r id).esz, cap := cp.den (r id).cap }, fun k r' hr => ⟨?_, ?_⟩⟩
      · simp only [AV.den, hr, Loc.base, Loc.room, Cap.den]
        cases (r id).nil <;> simp
      · simp only [BRep]
        rw [hr]
        exact ⟨hez, hft, rowsAt_shift hR hle (fun i _ => hgg i) rfl (by rw [hez]) (fun h => h) (fun _ h => h)⟩
    split at h <;> (try (cases h; done))
    · rename_i o ty ks' n g0 hlk
      split at h <;> (try (cases h; done))
      rename_i hk
      have := ksB_eq hk
      subst this
      simp only [Option.some.injEq, Prod.mk.injEq] at h
      obtain ⟨rfl, rfl, rfl⟩ := h
      have hbb := hb _ _ hlk
      have hb0 : RowzR r id w ty ks'.length n (rowG ks' g0) := hbb
      exact fin n g0 (by have := of_decide_eq_true hp; omega) hb0.2.1 (hbb.lt rfl) (rowz_at hb0) hg
    · rename_i ks' n g0 hlk
      split at h <;> (try (cases h; done))
      rename_i hk
      have := ksB_eq hk
      subst this
      simp only [Option.some.injEq, Prod.mk.injEq] at h
      obtain ⟨rfl, rfl, rfl⟩ := h
      have hbb := hb _ _ hlk
      exact fin n g0 (by have := of_decide_eq_true hp; omega) hbb.1 hbb.2.1 hbb.2.2 hg
  · rename_i c id e mm cp
    have fin : ∀ (foot : Nat → Prop), (r id).esz = ks.length → (∀ k, foot k → k < w.heap.size) → (∀ l' : Loc, l'.blk = (r id).blk → l'.off = (r id).off + e * (r id).esz → l'.nil = false → l'.foot = foot → RowsAt w r l' ks.length mm (rowG ks g')) →
        ∃ l : Loc, ∀ (k : Nat) (r' : Nat → Loc), r' k = l → (AV.slz k 0 mm (.of 0)).den r' = (AV.slice c id e mm cp).den r ∧ BRep r' k w (.frz ks mm g') := by
      intro foot hez hft hR
      refine ⟨⟨(r id).blk, (r id).off + e * (r id).esz, (r id).esz, cp.den (r id).cap, false, none, foot⟩, fun k r' hr => ⟨?_, ?_⟩⟩
      · simp only [AV.den, hr, Loc.base, Loc.room, Cap.den]
        simp
      · simp only [BRep]
        rw [hr]
        refine ⟨hez, hft, ?_⟩
        exact rows_rep (hR ⟨(r id).blk, (r id).off + e * (r id).esz, (r id).esz, cp.den (r id).cap, false, none, foot⟩ rfl rfl rfl rfl) (Nat.le_refl _) (fun i _ => by
          have : ∀ (n j : Nat) (f : Nat → Int), eqF n j f f := by
            intro n
            induction n with
            | zero => intro _ _; trivial
            | succ n ih => intro j f; exact ⟨rfl, ih _ _⟩
          exact this _ _ _) rfl rfl (fun h => h) (fun _ h => h)
    have rows : ∀ (L : List (List AV)) (bl : List Value) (ty : TypeId), bk w (r id).blk = some (.cells bl.toArray ty (0, 0)) → (r id).off = 0 → (r id).esz = ks.length → L.all (okRow ks) = true → e + mm ≤ L.length → (∀ i x j u, L[i]? = some x → x[j]? = some u → bl[i * ks.length + j]? = some (u.den r)) → (∀ i, rowG ks g' i = rowG ks (rowI L 0) (i + e)) →
        ∃ l : Loc, ∀ (k : Nat) (r' : Nat → Loc), r' k = l → (AV.slz k 0 mm (.of 0)).den r' = (AV.slice c id e mm cp).den r ∧ BRep r' k w (.frz ks mm g') := by
      intro L bl ty hbk hoff hez hall hle hcell hgg
      refine fin (fun k => k = (r id).blk) hez (fun k hk => by rw [hk]; exact bk_lt hbk) fun l' h1 h2 h3 h4 => ?_
      refine rowsAt_of (r := r) (fun hn => by rw [h3] at hn; cases hn) (fun i hi => by rw [h4, h1]) fun i hi j v hv => ?_
      rw [hgg i] at hv
      have hx := List.getElem?_eq_getElem (l := L) (i := i + e) (by omega)
      have hd := rowI_den r L 0 (i + e) _ hall hx
      rw [Nat.zero_add] at hd
      obtain ⟨u, hu, hd⟩ := denL_at hd.symm hv
      rw [h1, h2, hoff, hez, Nat.zero_add, bk_cells_cell hbk, ← hd, ← Nat.add_mul, Nat.add_comm e i]
      exact hcell _ _ _ _ hx hu
    split at h <;> (try (cases h; done))
    · rename_i ty z l hlk
      split at h <;> (try (cases h; done))
      rename_i hc
      simp only [Bool.and_eq_true, decide_eq_true_eq] at hc
      obtain ⟨hz, hall, hle⟩ := hc
      have hz := Nat.eq_of_beq_eq_true hz
      subst hz
      simp only [Option.some.injEq, Prod.mk.injEq] at h
      obtain ⟨rfl, rfl, rfl⟩ := h
      obtain ⟨ho, hez, hlen, hcap, rest, hrest, hbk⟩ := hb _ _ hlk
      refine rows l _ ty hbk ho hez hall hle (fun i x j u hx hu => ?_) hg
      have hl0 := hlen _ (List.mem_of_getElem? hx)
      have hj := (List.getElem?_eq_some_iff.1 hu).1
      obtain ⟨f1, f2⟩ := flatten_get ks.length l hlen i _ hx j (by omega)
      rw [List.getElem?_append_left (by rw [denL_length]; exact f1), denL_map, List.getElem?_map, f2, hu]; rfl
    · rename_i z ty l hlk
      split at h <;> (try (cases h; done))
      rename_i hc
      simp only [Bool.and_eq_true, decide_eq_true_eq] at hc
      obtain ⟨hz, hall, hle⟩ := hc
      have hz := Nat.eq_of_beq_eq_true hz
      subst hz
      simp only [Option.some.injEq, Prod.mk.injEq] at h
      obtain ⟨rfl, rfl, rfl⟩ := h
      obtain ⟨ho, hez, hbk⟩ := hb _ _ hlk
      obtain ⟨c1, c2, c3⟩ := chunk_ok ks.length (e + mm) (l.take ((e + mm) * ks.length)) (by rw [List.length_take]; omega)
      rw [← chunk_pre ks.length (e + mm) l hle] at c1 c2 c3
      refine rows _ _ ty hbk ho hez hall (by rw [c3]; exact Nat.le_refl _) (fun i x j u hx hu => ?_) hg
      have hl0 := c2 _ (List.mem_of_getElem? hx)
      have hj := (List.getElem?_eq_some_iff.1 hu).1
      obtain ⟨f1, f2⟩ := flatten_get ks.length _ c2 i _ hx j (by omega)
      rw [c1] at f1 f2
      rw [List.length_take] at f1
      rw [List.getElem?_take_of_lt (by omega)] at f2
      rw [denL_map, List.getElem?_map, f2, hu]; rfl
    · rename_i ks' n g0 hlk
      split at h <;> (try (cases h; done))
      rename_i hk
      have := ksB_eq hk
      subst this
      simp only [Option.some.injEq, Prod.mk.injEq] at h
      obtain ⟨rfl, rfl, rfl⟩ := h
      have hbb := hb _ _ hlk
      have hle : e + mm ≤ n := by have := of_decide_eq_true hp; omega
      refine fin (r id).foot hbb.1 hbb.2.1 fun l' h1 h2 h3 h4 => ?_
      exact rowsAt_shift hbb.2.2 hle (fun i _ => hg i) h1 (by rw [h2, hbb.1]) (fun hn => by rw [h3] at hn; cases hn) (fun k hk => by rw [h4]; exact hk)
  · simp only [Option.some.injEq, Prod.mk.injEq] at h
    obtain ⟨rfl, rfl, rfl⟩ := h
    refine ⟨Loc.none ks.length, fun k r' hr => ⟨?_, ?_⟩⟩
    · simp only [AV.den, hr]; rfl
    · simp only [BRep]
      rw [hr]
      exact ⟨rfl, fun k hk => hk.elim, fun _ => rfl, fun i hi => by omega⟩
  · cases h
instance {α : Type} [RowT α] : ArgE (Rw α) where
  val k x := .slz k 0 x.n (.of 0)
  blk k x := [(k, .frz (RowT.ks α) x.n fun i => RowT.enc (x.get i))]
  dec v lk := match rowsDec (RowT.ks α) v lk with
    | some (p, m, g) => some (p, ⟨m, fun i => RowT.dec (g i)⟩)
    | none => none
  ok v lk p x h hp := by
    split at h <;> (try (cases h; done))
    rename_i p' m g hd
    simp only [Option.some.injEq, Prod.mk.injEq] at h
    obtain ⟨rfl, rfl⟩ := h
    refine ⟨fun k => ⟨by simp [AV.all], fun q hq => ?_⟩, fun r w hb => ?_⟩
    · simp only [List.mem_singleton] at hq; subst hq; exact ⟨rfl, rfl, rfl⟩
    · obtain ⟨l, hl⟩ := rowsDec_ok (g' := fun i => RowT.enc (RowT.dec (g i) : α)) hd hp (fun i => RowT.ok (g i)) hb
      refine ⟨l, fun k r' hr => ⟨(hl k r' hr).1, fun q hq => ?_⟩⟩
      simp only [List.mem_singleton] at hq; subst hq; exact (hl k r' hr).2
/-- All arguments. -/
class ArgsE (α : Type) where
  len : Nat
  vals : Nat → α → List AV
  blks : Nat → α → List (Nat × Blk)
  dec : List AV → (Nat → Option Blk) → Option (Bool × α)
  ok : ∀ vs lk p x, dec vs lk = some (p, x) → p = true → (∀ k, AV.allL (fun i => decide (k ≤ i ∧ i < k + len)) (vals k x) = true ∧ ∀ q ∈ blks k x, (k ≤ q.1 ∧ q.1 < k + len) ∧ q.2.own = false ∧ q.2.all (fun _ => false) = true) ∧
    ∀ (r : Nat → Loc) (w : World), (∀ id b, lk id = some b → BRep r id w b) → ∃ L : Nat → Loc, ∀ (k : Nat) (r' : Nat → Loc), (∀ i, i < len → r' (k + i) = L i) → AV.denL r' (vals k x) = AV.denL r vs ∧ ∀ q ∈ blks k x, BRep r' q.1 w q.2
instance : ArgsE Unit where
  len := 0
  vals _ _ := []
  blks _ _ := []
  dec | [], _ => some (true, ()) | _, _ => none
  ok vs lk p x h hp := by
    split at h <;> (try (cases h; done))
    exact ⟨fun k => ⟨rfl, by simp⟩, fun r w _ => ⟨fun _ => Loc.none 0, fun k r' _ => ⟨rfl, by simp⟩⟩⟩
instance {α β : Type} [ArgE α] [ArgsE β] : ArgsE (α × β) where
  len := ArgsE.len β + 1
  vals k x := ArgE.val k x.1 :: ArgsE.vals (k + 1) x.2
  blks k x := ArgE.blk k x.1 ++ ArgsE.blks (k + 1) x.2
  dec | v :: l, lk => (match ArgE.dec v lk, ArgsE.dec l lk with
        | some (p, a), some (q, b) => some (p && q, a, b)
        | _, _ => none)
      | _, _ => none
  ok vs lk p x h hp := by
    split at h <;> (try (cases h; done))
    split at h <;> (try (cases h; done))
    rename_i v l _ _ p a q b ha hb
    simp only [Option.some.injEq, Prod.mk.injEq] at h
    obtain ⟨rfl, rfl⟩ := h
    simp only [Bool.and_eq_true] at hp
    obtain ⟨a1, a2⟩ := ArgE.ok v lk p a ha hp.1
    obtain ⟨b1, b2⟩ := ArgsE.ok l lk q b hb hp.2
    refine ⟨fun k => ⟨?_, fun z hz => ?_⟩, fun r w hw => ?_⟩
    · simp only [AV.allL, Bool.and_eq_true]
      refine ⟨all_mono (fun i hi => ?_) _ (a1 k).1, allL_mono (fun i hi => ?_) _ (b1 (k + 1)).1⟩
      · have : i = k := by simpa using hi
        subst this; simp
      · simp only [decide_eq_true_eq] at hi ⊢; omega
    · rcases List.mem_append.1 hz with hz | hz
      · obtain ⟨c1, c2, c3⟩ := (a1 k).2 z hz
        exact ⟨by omega, c2, c3⟩
      · obtain ⟨c1, c2, c3⟩ := (b1 (k + 1)).2 z hz
        exact ⟨by omega, c2, c3⟩
    · obtain ⟨l0, d1⟩ := a2 r w hw
      obtain ⟨L, d2⟩ := b2 r w hw
      refine ⟨fun i => match i with | 0 => l0 | i + 1 => L i, fun k r' hr => ?_⟩
      have e1 := d1 k r' (by have := hr 0 (by omega); simpa using this)
      have e2 := d2 (k + 1) r' (fun i hi => by have := hr (i + 1) (by omega); rw [show k + 1 + i = k + (i + 1) by omega]; exact this)
      refine ⟨by simp only [AV.denL, e1.1, e2.1], fun z hz => ?_⟩
      rcases List.mem_append.1 hz with hz | hz
      · exact e1.2 z hz
      · exact e2.2 z hz
end Go.SX
