/- Contracts of functions that read slices of their caller's and hand out new ones. -/
import Derived.Test.YtdaanchagjamfaaNpu
namespace Go.SX
open Go Go.RowKit Go.Proofs.Ytdaanchagjamfaa

/-- What can stand in a row. -/
class RowT (α : Type) where
  ks : List CK
  enc : α → Nat → Int
  dec : (Nat → Int) → α
  ok : ∀ f, cellsOf ks 0 (enc (dec f)) = cellsOf ks 0 f
instance : RowT Int where
  ks := [.int .i64]
  enc n _ := n
  dec f := f 0
  ok _ := rfl
instance : RowT Bool where
  ks := [.bool]
  enc b _ := cond b 1 0
  dec f := decide (f 0 = 1)
  ok f := by
    simp only [cellsOf, mkC]
    by_cases h : f 0 = 1 <;> simp [h]
/-- So many, which. -/
structure Rw (α : Type) where
  n : Nat
  get : Nat → α
def ownK (k : Nat) (v : AV) (u : List (Nat × Blk)) : Prop := v.all (fun i => i == k) = true ∧ ∀ q ∈ u, q.1 = k ∧ q.2.own = false ∧ q.2.all (fun _ => false) = true
/-- An argument that can be read: its value and the blocks behind it, under a number of its own. -/
class ArgE (α : Type) where
  val : Nat → α → AV
  blk : Nat → α → List (Nat × Blk)
  dec : AV → (Nat → Option Blk) → Option (Bool × α)
  ok : ∀ v lk p x, dec v lk = some (p, x) → p = true → (∀ k, ownK k (val k x) (blk k x)) ∧ ∀ (r : Nat → Loc) (w : World), (∀ id b, lk id = some b → BRep r id w b) → ∃ l : Loc, ∀ (k : Nat) (r' : Nat → Loc), r' k = l → (val k x).den r' = v.den r ∧ ∀ q ∈ blk k x, BRep r' q.1 w q.2
instance {α : Type} [Enc α] : ArgE α where
  val _ x := Enc.enc x
  blk _ _ := []
  dec v _ := match (Enc.dec v : Option α) with
    | some x => some (true, x)
    | none => none
  ok v lk p x h hp := by
    split at h <;> (try (cases h; done))
    rename_i y hy
    simp only [Option.some.injEq, Prod.mk.injEq] at h
    obtain ⟨rfl, rfl⟩ := h
    obtain ⟨h1, h2⟩ := Enc.ok _ _ hy
    exact ⟨fun k => ⟨all_mono (fun _ hf => by cases hf) _ h2, by simp⟩, fun r w _ => ⟨Loc.none 0, fun k r' _ => ⟨by rw [den_congr (p := fun _ => false) (r := r') (r' := r) (fun _ hf => by cases hf) _ h2, h1 r], by simp⟩⟩⟩
/-- Rows from a place on, so many. -/
theorem rowsAt_shift {r r' : Nat → Loc} {w : World} {l l' : Loc} {ks : List CK} {n m e : Nat} {g g' : Nat → Nat → Int} (h : RowsAt w r l ks.length n (rowG ks g)) (hle : e + m ≤ n) (hg : ∀ i, i < m → rowG ks g' i = rowG ks g (i + e)) (h1 : l'.blk = l.blk) (h2 : l'.off = l.off + e * ks.length) (h3 : l'.nil = true → l.nil = true) (h4 : ∀ k, l.foot k → l'.foot k) : RowsAt w r' l' ks.length m (rowG ks g') := by
  refine rowsAt_of (r := r) (fun hn => by have := h.1 (h3 hn); omega) (fun i hi => by rw [h1]; exact h4 _ (h.2 (i + e) (by omega)).1) fun i hi j v hv => ?_
  rw [hg i hi] at hv
  have := ((h.2 (i + e) (by omega)).2.2 j v hv).2
  rw [h1, h2, Nat.add_assoc l.off, ← Nat.add_mul, Nat.add_comm e i]; exact this
/-- A slice of rows, out of what stands behind it. -/
def rowsDec (ks : List CK) (v : AV) (lk : Nat → Option Blk) : Option (Bool × Nat × (Nat → Nat → Int)) := match v with
  | .slz id e m _ => (match lk id with
    | some (.rowz _ _ ks' n g) => (match ksB ks' ks with
      | true => some (decide (m + e ≤ n), m, fun i => g (i + e))
      | false => none)
    | some (.frz ks' n g) => (match ksB ks' ks with
      | true => some (decide (m + e ≤ n), m, fun i => g (i + e))
      | false => none)
    | _ => none)
  | .slice _ id e m _ => (match lk id with
    | some (.rowlR _ z l) => (match Nat.beq z ks.length && (l.all (okRow ks) && decide (e + m ≤ l.length)) with
      | true => some (true, m, fun i => rowI l 0 (i + e))
      | false => none)
    | some (.cellsR z _ l) => (match Nat.beq z ks.length && ((chunk z (e + m) l).all (okRow ks) && decide ((e + m) * z ≤ l.length)) with
      | true => some (true, m, fun i => rowI (chunk z (e + m) l) 0 (i + e))
      | false => none)
    | some (.frz ks' n g) => (match ksB ks' ks with
      | true => some (decide (m + e ≤ n), m, fun i => g (i + e))
      | false => none)
    | _ => none)
  | .nils => some (true, 0, fun _ _ => 0)
  | _ => none
theorem chunk_pre (sz : Nat) : ∀ (n : Nat) (l : List AV), n * sz ≤ l.length → chunk sz n l = chunk sz n (l.take (n * sz))
  | 0, _, _ => rfl
  | n + 1, l, h => by
    have e : (n + 1) * sz = sz + n * sz := by rw [Nat.add_mul]; omega
    rw [chunk, chunk, List.take_take, Nat.min_eq_left (by omega), chunk_pre sz n (l.drop sz) (by rw [List.length_drop]; omega)]
    congr 2
    rw [e, List.drop_take, Nat.add_sub_cancel_left]
theorem rowsDec_ok {ks : List CK} {v : AV} {lk : Nat → Option Blk} {p : Bool} {m : Nat} {g g' : Nat → Nat → Int} (h : rowsDec ks v lk = some (p, m, g)) (hp : p = true) (hg : ∀ i, rowG ks g' i = rowG ks g i) {r : Nat → Loc} {w : World} (hb : ∀ id b, lk id = some b → BRep r id w b) :
    ∃ l : Loc, ∀ (k : Nat) (r' : Nat → Loc), r' k = l → (AV.slz k 0 m (.of 0)).den r' = v.den r ∧ BRep r' k w (.frz ks m g') := by
  unfold rowsDec at h
  split at h
  · rename_i id e mm cp
    have fin : ∀ (n : Nat) (g0 : Nat → Nat → Int), e + mm ≤ n → (r id).esz = ks.length → (∀ k, (r id).foot k → k < w.heap.size) → RowsAt w r (r id) ks.length n (rowG ks g0) → (∀ i, rowG ks g' i = rowG ks g0 (i + e)) →
        ∃ l : Loc, ∀ (k : Nat) (r' : Nat → Loc), r' k = l → (AV.slz k 0 mm (.of 0)).den r' = (AV.slz id e mm cp).den r ∧ BRep r' k w (.frz ks mm g') := by
      intro n g0 hle hez hft hR hgg
      refine ⟨{ r id with off := (r id).off + e * (r id).esz, cap := cp.den (r id).cap }, fun k r' hr => ⟨?_, ?_⟩⟩
      · simp only [AV.den, hr, Loc.base, Loc.room, Cap.den]
        cases (r id).nil <;> simp
      · simp only [BRep]
        rw [hr]
        exact ⟨hez, hft, rowsAt_shift hR hle (fun i _ => hgg i) rfl (by rw [hez]) (fun h => h) (fun _ h => h)⟩
    split at h <;> (try (cases h; done))
    · rename_i o ty ks' n g0 hlk
      split at h <;> (try (cases h; done))
      rename_i hk
      have := ksB_eq hk
      subst this
      simp only [Option.some.injEq, Prod.mk.injEq] at h
      obtain ⟨rfl, rfl, rfl⟩ := h
      have hbb := hb _ _ hlk
      have hb0 : RowzR r id w ty ks'.length n (rowG ks' g0) := hbb
      exact fin n g0 (by have := of_decide_eq_true hp; omega) hb0.2.1 (hbb.lt rfl) (rowz_at hb0) hg
    · rename_i ks' n g0 hlk
      split at h <;> (try (cases h; done))
      rename_i hk
      have := ksB_eq hk
      subst this
      simp only [Option.some.injEq, Prod.mk.injEq] at h
      obtain ⟨rfl, rfl, rfl⟩ := h
      have hbb := hb _ _ hlk
      exact fin n g0 (by have := of_decide_eq_true hp; omega) hbb.1 hbb.2.1 hbb.2.2 hg
  · rename_i c id e mm cp
    have fin : ∀ (foot : Nat → Prop), (r id).esz = ks.length → (∀ k, foot k → k < w.heap.size) → (∀ l' : Loc, l'.blk = (r id).blk → l'.off = (r id).off + e * (r id).esz → l'.nil = false → l'.foot = foot → RowsAt w r l' ks.length mm (rowG ks g')) →
        ∃ l : Loc, ∀ (k : Nat) (r' : Nat → Loc), r' k = l → (AV.slz k 0 mm (.of 0)).den r' = (AV.slice c id e mm cp).den r ∧ BRep r' k w (.frz ks mm g') := by
      intro foot hez hft hR
      refine ⟨⟨(r id).blk, (r id).off + e * (r id).esz, (r id).esz, cp.den (r id).cap, false, none, foot⟩, fun k r' hr => ⟨?_, ?_⟩⟩
      · simp only [AV.den, hr, Loc.base, Loc.room, Cap.den]
        simp
      · simp only [BRep]
        rw [hr]
        refine ⟨hez, hft, ?_⟩
        exact rows_rep (hR ⟨(r id).blk, (r id).off + e * (r id).esz, (r id).esz, cp.den (r id).cap, false, none, foot⟩ rfl rfl rfl rfl) (Nat.le_refl _) (fun i _ => by
          have : ∀ (n j : Nat) (f : Nat → Int), eqF n j f f := by
            intro n
            induction n with
            | zero => intro _ _; trivial
            | succ n ih => intro j f; exact ⟨rfl, ih _ _⟩
          exact this _ _ _) rfl rfl (fun h => h) (fun _ h => h)
    have rows : ∀ (L : List (List AV)) (bl : List Value) (ty : TypeId), bk w (r id).blk = some (.cells bl.toArray ty (0, 0)) → (r id).off = 0 → (r id).esz = ks.length → L.all (okRow ks) = true → e + mm ≤ L.length → (∀ i x j u, L[i]? = some x → x[j]? = some u → bl[i * ks.length + j]? = some (u.den r)) → (∀ i, rowG ks g' i = rowG ks (rowI L 0) (i + e)) →
        ∃ l : Loc, ∀ (k : Nat) (r' : Nat → Loc), r' k = l → (AV.slz k 0 mm (.of 0)).den r' = (AV.slice c id e mm cp).den r ∧ BRep r' k w (.frz ks mm g') := by
      intro L bl ty hbk hoff hez hall hle hcell hgg
      refine fin (fun k => k = (r id).blk) hez (fun k hk => by rw [hk]; exact bk_lt hbk) fun l' h1 h2 h3 h4 => ?_
      refine rowsAt_of (r := r) (fun hn => by rw [h3] at hn; cases hn) (fun i hi => by rw [h4, h1]) fun i hi j v hv => ?_
      rw [hgg i] at hv
      have hx := List.getElem?_eq_getElem (l := L) (i := i + e) (by omega)
      have hd := rowI_den r L 0 (i + e) _ hall hx
      rw [Nat.zero_add] at hd
      obtain ⟨u, hu, hd⟩ := denL_at hd.symm hv
      rw [h1, h2, hoff, hez, Nat.zero_add, bk_cells_cell hbk, ← hd, ← Nat.add_mul, Nat.add_comm e i]
      exact hcell _ _ _ _ hx hu
    split at h <;> (try (cases h; done))
    · rename_i ty z l hlk
      split at h <;> (try (cases h; done))
      rename_i hc
      simp only [Bool.and_eq_true, decide_eq_true_eq] at hc
      obtain ⟨hz, hall, hle⟩ := hc
      have hz := Nat.eq_of_beq_eq_true hz
      subst hz
      simp only [Option.some.injEq, Prod.mk.injEq] at h
      obtain ⟨rfl, rfl, rfl⟩ := h
      obtain ⟨ho, hez, hlen, hcap, rest, hrest, hbk⟩ := hb _ _ hlk
      refine rows l _ ty hbk ho hez hall hle (fun i x j u hx hu => ?_) hg
      have hl0 := hlen _ (List.mem_of_getElem? hx)
      have hj := (List.getElem?_eq_some_iff.1 hu).1
      obtain ⟨f1, f2⟩ := flatten_get ks.length l hlen i _ hx j (by omega)
      rw [List.getElem?_append_left (by rw [denL_length]; exact f1), denL_map, List.getElem?_map, f2, hu]; rfl
    · rename_i z ty l hlk
      split at h <;> (try (cases h; done))
      rename_i hc
      simp only [Bool.and_eq_true, decide_eq_true_eq] at hc
      obtain ⟨hz, hall, hle⟩ := hc
      have hz := Nat.eq_of_beq_eq_true hz
      subst hz
      simp only [Option.some.injEq, Prod.mk.injEq] at h
      obtain ⟨rfl, rfl, rfl⟩ := h
      obtain ⟨ho, hez, hbk⟩ := hb _ _ hlk
      obtain ⟨c1, c2, c3⟩ := chunk_ok ks.length (e + mm) (l.take ((e + mm) * ks.length)) (by rw [List.length_take]; omega)
      rw [← chunk_pre ks.length (e + mm) l hle] at c1 c2 c3
      refine rows _ _ ty hbk ho hez hall (by rw [c3]; exact Nat.le_refl _) (fun i x j u hx hu => ?_) hg
      have hl0 := c2 _ (List.mem_of_getElem? hx)
      have hj := (List.getElem?_eq_some_iff.1 hu).1
      obtain ⟨f1, f2⟩ := flatten_get ks.length _ c2 i _ hx j (by omega)
      rw [c1] at f1 f2
      rw [List.length_take] at f1
      rw [List.getElem?_take_of_lt (by omega)] at f2
      rw [denL_map, List.getElem?_map, f2, hu]; rfl
    · rename_i ks' n g0 hlk
      split at h <;> (try (cases h; done))
      rename_i hk
      have := ksB_eq hk
      subst this
      simp only [Option.some.injEq, Prod.mk.injEq] at h
      obtain ⟨rfl, rfl, rfl⟩ := h
      have hbb := hb _ _ hlk
      have hle : e + mm ≤ n := by have := of_decide_eq_true hp; omega
      refine fin (r id).foot hbb.1 hbb.2.1 fun l' h1 h2 h3 h4 => ?_
      exact rowsAt_shift hbb.2.2 hle (fun i _ => hg i) h1 (by rw [h2, hbb.1]) (fun hn => by rw [h3] at hn; cases hn) (fun k hk => by rw [h4]; exact hk)
  · simp only [Option.some.injEq, Prod.mk.injEq] at h
    obtain ⟨rfl, rfl, rfl⟩ := h
    refine ⟨Loc.none ks.length, fun k r' hr => ⟨?_, ?_⟩⟩
    · simp only [AV.den, hr]; rfl
    · simp only [BRep]
      rw [hr]
      exact ⟨rfl, fun k hk => hk.elim, fun _ => rfl, fun i hi => by omega⟩
  · cases h
instance {α : Type} [RowT α] : ArgE (Rw α) where
  val k x := .slz k 0 x.n (.of 0)
  blk k x := [(k, .frz (RowT.ks α) x.n fun i => RowT.enc (x.get i))]
  dec v lk := match rowsDec (RowT.ks α) v lk with
    | some (p, m, g) => some (p, ⟨m, fun i => RowT.dec (g i)⟩)
    | none => none
  ok v lk p x h hp := by
    split at h <;> (try (cases h; done))
    rename_i p' m g hd
    simp only [Option.some.injEq, Prod.mk.injEq] at h
    obtain ⟨rfl, rfl⟩ := h
    refine ⟨fun k => ⟨by simp [AV.all], fun q hq => ?_⟩, fun r w hb => ?_⟩
    · simp only [List.mem_singleton] at hq; subst hq; exact ⟨rfl, rfl, rfl⟩
    · obtain ⟨l, hl⟩ := rowsDec_ok (g' := fun i => RowT.enc (RowT.dec (g i) : α)) hd hp (fun i => RowT.ok (g i)) hb
      refine ⟨l, fun k r' hr => ⟨(hl k r' hr).1, fun q hq => ?_⟩⟩
      simp only [List.mem_singleton] at hq; subst hq; exact (hl k r' hr).2
/-- All arguments. -/
class ArgsE (α : Type) where
  len : Nat
  vals : Nat → α → List AV
  blks : Nat → α → List (Nat × Blk)
  dec : List AV → (Nat → Option Blk) → Option (Bool × α)
  ok : ∀ vs lk p x, dec vs lk = some (p, x) → p = true → (∀ k, AV.allL (fun i => decide (k ≤ i ∧ i < k + len)) (vals k x) = true ∧ ∀ q ∈ blks k x, (k ≤ q.1 ∧ q.1 < k + len) ∧ q.2.own = false ∧ q.2.all (fun _ => false) = true) ∧
    ∀ (r : Nat → Loc) (w : World), (∀ id b, lk id = some b → BRep r id w b) → ∃ L : Nat → Loc, ∀ (k : Nat) (r' : Nat → Loc), (∀ i, i < len → r' (k + i) = L i) → AV.denL r' (vals k x) = AV.denL r vs ∧ ∀ q ∈ blks k x, BRep r' q.1 w q.2
instance : ArgsE Unit where
  len := 0
  vals _ _ := []
  blks _ _ := []
  dec | [], _ => some (true, ()) | _, _ => none
  ok vs lk p x h hp := by
    split at h <;> (try (cases h; done))
    exact ⟨fun k => ⟨rfl, by simp⟩, fun r w _ => ⟨fun _ => Loc.none 0, fun k r' _ => ⟨rfl, by simp⟩⟩⟩
instance {α β : Type} [ArgE α] [ArgsE β] : ArgsE (α × β) where
  len := ArgsE.len β + 1
  vals k x := ArgE.val k x.1 :: ArgsE.vals (k + 1) x.2
  blks k x := ArgE.blk k x.1 ++ ArgsE.blks (k + 1) x.2
  dec | v :: l, lk => (match ArgE.dec v lk, ArgsE.dec l lk with
        | some (p, a), some (q, b) => some (p && q, a, b)
        | _, _ => none)
      | _, _ => none
  ok vs lk p x h hp := by
    split at h <;> (try (cases h; done))
    split at h <;> (try (cases h; done))
    rename_i v l _ _ p a q b ha hb
    simp only [Option.some.injEq, Prod.mk.injEq] at h
    obtain ⟨rfl, rfl⟩ := h
    simp only [Bool.and_eq_true] at hp
    obtain ⟨a1, a2⟩ := ArgE.ok v lk p a ha hp.1
    obtain ⟨b1, b2⟩ := ArgsE.ok l lk q b hb hp.2
    refine ⟨fun k => ⟨?_, fun z hz => ?_⟩, fun r w hw => ?_⟩
    · simp only [AV.allL, Bool.and_eq_true]
      refine ⟨all_mono (fun i hi => ?_) _ (a1 k).1, allL_mono (fun i hi => ?_) _ (b1 (k + 1)).1⟩
      · have : i = k := by simpa using hi
        subst this; simp
      · simp only [decide_eq_true_eq] at hi ⊢; omega
    · rcases List.mem_append.1 hz with hz | hz
      · obtain ⟨c1, c2, c3⟩ := (a1 k).2 z hz
        exact ⟨by omega, c2, c3⟩
      · obtain ⟨c1, c2, c3⟩ := (b1 (k + 1)).2 z hz
        exact ⟨by omega, c2, c3⟩
    · obtain ⟨l0, d1⟩ := a2 r w hw
      obtain ⟨L, d2⟩ := b2 r w hw
      refine ⟨fun i => match i with | 0 => l0 | i + 1 => L i, fun k r' hr => ?_⟩
      have e1 := d1 k r' (by have := hr 0 (by omega); simpa using this)
      have e2 := d2 (k + 1) r' (fun i hi => by have := hr (i + 1) (by omega); rw [show k + 1 + i = k + (i + 1) by omega]; exact this)
      refine ⟨by simp only [AV.denL, e1.1, e2.1], fun z hz => ?_⟩
      rcases List.mem_append.1 hz with hz | hz
      · exact e1.2 z hz
      · exact e2.2 z hz
end Go.SX
/- The law of such contracts. -/
namespace Go.SX
open Go Go.RowKit Go.Proofs.Ytdaanchagjamfaa

abbrev WF (α : Type) := α → Bool × AV × List (Nat × Blk)
/-- The condition, the value, the new blocks (numbers from 0 to 7). -/
def wFC {α : Type} [ArgsE α] (F : WF α) : FC := fun args nid all => (all, fun blks => match ArgsE.dec args (look (zipH Blk.ro all blks)) with
  | some (p, x) => some ⟨false, p && (F x).1, (F x).2.1.mapId (· + nid), (F x).2.2.map fun q => (q.1 + nid, q.2.mapId (· + nid))⟩
  | none => none)
def resJ (N : Nat) (v : AV) (u : List (Nat × Blk)) : JSt := ⟨1, [(0, v.mapId (· + N))], u.map (fun q => (q.1 + N, q.2.mapId (· + N))), N + 8⟩
def endW (v : AV) (h : List (Nat × Blk)) : Tree := match noDfr h with
  | true => .leaf v (nearH [] [v] h)
  | false => .fail "deferred"
def execW (E : Env) (H : Hnd) (fn : Func) (args : List AV) (hp : List (Nat × Blk)) (N : Nat) : Tree := inFn E H fn args hp N fun v h _ => endW v h
def EndOk (N : Nat) (v : AV) (u : List (Nat × Blk)) (w : AV) (h : List (Nat × Blk)) : Prop := SubOk N [0] 1 [w] h (resJ N v u)

theorem foot_map {r r' : Nat → Loc} {q : Nat → Nat} {id id' : Nat} (h : r' id' = r id) {b : Blk} {k : Nat} : Foot r' id' (b.mapId q) k ↔ Foot r id b k := by
  cases b <;> simp only [Blk.mapId, Foot, h]
theorem look_map {N : Nat} {f : Blk → Blk} (hf : ∀ b, (f b).live = b.live) : ∀ {u : List (Nat × Blk)} {i : Nat} {b : Blk}, look u i = some b → look (u.map fun q => (q.1 + N, f q.2)) (i + N) = some (f b)
  | [], _, _, h => by cases h
  | (j, c) :: u, i, b, h => by
    simp only [List.map_cons, look_cons] at h ⊢
    by_cases hj : j = i
    · subst hj
      simp only [beq_self_eq_true, if_true, hf] at h ⊢
      split at h
      · rename_i hl
        rw [if_pos hl]
        simp only [Option.some.injEq] at h ⊢; rw [h]
      · cases h
    · have e1 : (j == i) = false := by simpa using hj
      have e2 : (j + N == i + N) = false := by simp; exact hj
      rw [e1] at h
      rw [e2]
      simp only [Bool.false_eq_true, if_false] at h ⊢
      exact look_map hf h
def distU : List (Nat × Blk) → Bool
  | [] => true
  | (i, b) :: l => b.live && (l.all fun p => !(Nat.beq i p.1)) && distU l
theorem distU_look : ∀ {u : List (Nat × Blk)}, distU u = true → ∀ p ∈ u, look u p.1 = some p.2
  | [], _, p, hp => by cases hp
  | (i, b) :: l, h, p, hp => by
    simp only [distU, Bool.and_eq_true, List.all_eq_true] at h
    rcases List.mem_cons.1 hp with rfl | hp
    · simp [look_cons, h.1.1]
    · have hne : (i == p.1) = false := by
        have := h.1.2 p hp
        cases hb : Nat.beq i p.1 with
        | true => rw [hb] at this; cases this
        | false =>
          simp only [beq_eq_false_iff_ne, ne_eq]
          intro e; subst e; simp at hb
      simp only [look_cons, hne, Bool.false_eq_true, if_false]
      exact distU_look h.2 p hp
structure WOk (v : AV) (u : List (Nat × Blk)) : Prop where
  val : v.all (· < 8) = true
  new : ∀ q ∈ u, q.1 < 8 ∧ q.2.own = true ∧ q.2.all (· < 8) = true
  dist : distU u = true
/-- What is done at loops, for each argument. -/
structure WHnd {α : Type} (E : Env) (c : Code) (N : Nat) (F : WF α) (H : α → Hnd) : Prop where
  ok : ∀ x, (F x).1 = true → ∀ G : Ctx, G.rd = none → G.n = N → HndOk E G (H x) c
/-- What a run comes to, for each argument. -/
structure WRun {α : Type} [ArgsE α] (E : Env) (fn : Func) (N : Nat) (F : WF α) (H : α → Hnd) : Prop where
  run : ∀ x, (F x).1 = true → WOk (F x).2.1 (F x).2.2 ∧ DenOk (EndOk N (F x).2.1 (F x).2.2) (execW E (H x) fn (ArgsE.vals 0 x) (ArgsE.blks 0 x) N)
theorem fn_W {E : Env} (hE : E.Sound) {f : FuncId} {fn : Func} {c : Code} (hf : E.P.funcs[f]? = some fn) (hb : fn.body = some c) (hgo : goFn E.P f = true) {α : Type} [ArgsE α] {N : Nat} (hN : ArgsE.len α ≤ N) {H : α → Hnd} {F : WF α}
    (hl : WHnd E c N F H) (hF : WRun E fn N F H) : FSound E.P f (wFC F) := by
  refine ⟨hgo, fun args nid all r w lk blks eff hH _ hv he hp => ?_⟩
  simp only [wFC] at hv he
  split at he <;> (try (cases he; done))
  rename_i p x hd
  simp only [Option.some.injEq] at he; subst he
  simp only [Bool.and_eq_true] at hp
  obtain ⟨hp1, hp2⟩ := hp
  obtain ⟨hcl, harg⟩ := ArgsE.ok _ _ _ _ hd hp1
  obtain ⟨hW, hden⟩ := hF.run x hp2
  have hlk : ∀ id b, look (zipH Blk.ro all blks) id = some b → BRep r id w b := by
    intro id b hb
    obtain ⟨b0, k1, k2⟩ := zipH_mem hv _ (look_memb hb)
    have k2 : b = b0.ro := k2
    rw [k2]; exact (hH.rep _ b0 k1).ro
  obtain ⟨L, hL⟩ := harg r w hlk
  obtain ⟨ha, hbl⟩ := hL 0 L (fun i _ => by rw [Nat.zero_add])
  obtain ⟨hc1, hc2⟩ := hcl 0
  have hI : HInv ⟨w, fun _ => False, N, L, none⟩ N L (ArgsE.blks 0 x) w := by
    refine ⟨fun id b hb => hbl _ (look_memb hb), fun id id' b b' hb _ _ ho => ?_, fun _ _ => rfl, Fr.refl _ _, fun id b hb ho => ?_, fun id b hb => ?_, fun id b hb => ?_⟩
    · have := (hc2 _ (look_memb hb)).2.1
      simp only at this; rw [ho] at this; cases this
    · have := (hc2 _ (look_memb hb)).2.1
      simp only at this; rw [ho] at this; cases this
    · have := (hc2 _ (look_memb hb)).1
      simp only at this; omega
    · exact Blk.all_mono (fun _ hf => by cases hf) b (hc2 _ (look_memb hb)).2.2
  have hargs : AV.allL (· < N) (ArgsE.vals 0 x) = true := allL_mono (fun i hi => by simp only [decide_eq_true_eq] at hi ⊢; omega) _ hc1
  have hd0 := hden.den
  unfold execW at hd0
  have := fn_calls hE hf hb (hl.ok x hp2 ⟨w, fun _ => False, N, L, none⟩ rfl rfl) rfl hI hargs hd0
  rw [ha] at this
  refine this.mono ?_
  rintro e w' ⟨v, h', nid', r1, hT, rfl, hle, hI', hvn⟩
  unfold endW at hT
  split at hT
  rotate_left
  · exact hT.elim
  rename_i hnd
  have hT : SubOk N [0] 1 [v] (nearH [] [v] h') (resJ N (F x).2.1 (F x).2.2) := hT
  have hlkn : ∀ id b, look (nearH [] [v] h') id = some b → look h' id = some b := fun id b hb => nearH_look hb
  have hrep : Rep ⟨w, fun _ => False, N, L, none⟩ nid' ⟨[v], h', nid'⟩ { tmps := #[v.den r1], defers := [] } w' := by
    refine hI'.toRep (tm := [v]) (a := { tmps := #[v.den r1], defers := [] }) rfl (fun t => ?_) (fun t => ?_) (Dfr.none rfl)
    · cases t with
      | zero => rfl
      | succ t => rfl
    · cases t with
      | zero => exact hvn
      | succ t => rfl
  generalize hJ : resJ N (F x).2.1 (F x).2.2 = J at hT
  generalize nearH [] [v] h' = hn at hT hlkn
  have hnear : Rep ⟨w, fun _ => False, N, L, none⟩ nid' ⟨[v], hn, nid'⟩ { tmps := #[v.den r1], defers := [] } w' := Rep.near (h' := hn) hlkn hnd hrep
  have hso : SubOk N [0] (⟨[v], hn, nid'⟩ : St).tm.length ([0].map (getT (⟨[v], hn, nid'⟩ : St).tm)) (⟨[v], hn, nid'⟩ : St).hp J := hT
  obtain ⟨g, ⟨r2, hI2⟩, hS2⟩ := Rep.subW hnear hso (Nat.le_refl N)
  subst hJ
  have hval : v.den r1 = ((F x).2.1.mapId (· + N)).den r2 := hI2.tm 0
  let rr : Nat → Loc := fun j => if inR nid j = true then r2 (j - nid + N) else r j
  have hnew : ∀ i, i < 8 → rr (i + nid) = r2 (i + N) := by
    intro i hi
    show (if _ then _ else _) = _
    rw [if_pos (by simp [inR]; omega)]
    congr 1; omega
  have key : ∀ i, decide (i < 8) = true → rr (i + nid) = (fun j => r2 (j + N)) i := fun i hi => hnew i (by simpa using hi)
  have hlook : ∀ q ∈ (F x).2.2, look ((resJ N (F x).2.1 (F x).2.2).inst g).hp (q.1 + N) = some (q.2.mapId (· + N)) := by
    intro q hq
    exact look_map (f := fun b => b.mapId (· + N)) (fun b => Blk.mapId_live _ b) (distU_look hW.dist q hq)
  have hft : ∀ q ∈ (F x).2.2, ∀ k, Foot rr (q.1 + nid) (q.2.mapId (· + nid)) k ↔ Foot r2 (q.1 + N) (q.2.mapId (· + N)) k := by
    intro q hq k
    rw [foot_map (r := fun j => r2 (j + N)) (id := q.1) (key q.1 (by have := (hW.new q hq).1; simpa using this)), foot_map (r := fun j => r2 (j + N)) (id := q.1) rfl]
  refine ⟨rr, ?_, ?_⟩
  · rw [hval, den_mapId (p := (· < 8)) (r := fun j => r2 (j + N)) (r' := r2) (q := (· + N)) (fun _ _ => rfl) _ hW.val, den_mapId (p := (· < 8)) (r := fun j => r2 (j + N)) (r' := rr) (q := (· + nid)) key _ hW.val]
  · refine ⟨fun id hid => ?_, fun p hp => ?_, ⟨hI'.fr.os, hI'.fr.tape, hI'.fr.output, hI'.fr.size, fun k hk _ => hI'.fr.block k hk (by simp)⟩, fun p hp hin hlv k hk => ?_, fun p hp hin => ?_, fun p hp q hq hin hin' hne ho hlv k hk hk' => ?_⟩
    · show (if _ then _ else _) = _
      rw [if_neg (by rw [hid]; simp)]
    · obtain ⟨q, hq, rfl⟩ := List.mem_map.1 hp
      obtain ⟨h8, _, hall⟩ := hW.new q hq
      have hrep2 := hI2.rep _ _ (hlook q hq)
      -- back to the bare number, and on
      have e1 : BRep (fun j => r2 (j + N)) q.1 w' q.2 := by
        have := Blk.mapId_back (p := (· < 8)) (q := (· + N)) (r := fun j => r2 (j + N)) (r' := r2) (fun _ _ => rfl) (id := q.1) (w := w') rfl hall hrep2
        exact this
      exact Blk.mapId_rep (p := (· < 8)) key (id := q.1) (w := w') (key q.1 (by simpa using h8)) hall e1
    · obtain ⟨q, hq, rfl⟩ := List.mem_map.1 hp
      have hk2 := (hft q hq k).1 hk
      rcases hI2.own _ _ (hlook q hq) (by rw [Blk.mapId_own]; exact (hW.new q hq).2.1) k hk2 with h | h
      · exact h.elim
      · exact .inl h
    · obtain ⟨q, hq, rfl⟩ := List.mem_map.1 hp
      have := (hW.new q hq).1
      simp [inR] at hin; omega
    · obtain ⟨q1, hq1, rfl⟩ := List.mem_map.1 hp
      obtain ⟨q2, hq2, rfl⟩ := List.mem_map.1 hq
      exact hI2.sep _ _ _ _ (hlook q1 hq1) (hlook q2 hq2) (by simp only at hne; omega) (by rw [Blk.mapId_own]; exact (hW.new q1 hq1).2.1) k ((hft q1 hq1 k).1 hk) ((hft q2 hq2 k).1 hk')
mutual
theorem eqV_same (Q : List Pr) (f : Nat → Nat) : ∀ u v : AV, u.same v → ∃ ps, eqV Q u (v.mapId f) = some ps ∧ allE ps
  | .int .., v, h => by
    cases v <;> simp only [AV.same] at h
    obtain ⟨rfl, rfl⟩ := h
    rename_i c k n c'
    exact ⟨[n = n], by simp only [AV.mapId, eqV, kindB, beq_self_eq_true], rfl, trivial⟩
  | .bool .., v, h => by
    cases v <;> simp only [AV.same] at h
    subst h
    exact ⟨_, rfl, rfl, trivial⟩
  | .nilp, v, h => by cases v <;> simp only [AV.same] at h; exact ⟨_, rfl, trivial⟩
  | .nils, v, h => by cases v <;> simp only [AV.same] at h; exact ⟨_, rfl, trivial⟩
  | .nilm, v, h => by cases v <;> simp only [AV.same] at h; exact ⟨_, rfl, trivial⟩
  | .nilf, v, h => by cases v <;> simp only [AV.same] at h; exact ⟨_, rfl, trivial⟩
  | .nili, v, h => by cases v <;> simp only [AV.same] at h; exact ⟨_, rfl, trivial⟩
  | .str .., v, h => by
    cases v <;> simp only [AV.same] at h
    subst h
    exact ⟨_, rfl, rfl, trivial⟩
  | .ifc t u, v, h => by
    cases v <;> simp only [AV.same] at h
    obtain ⟨rfl, h⟩ := h
    obtain ⟨ps, h1, h2⟩ := eqV_same Q f u _ h
    exact ⟨(t = t) :: ps, by simp only [AV.mapId, eqV]; rw [h1], rfl, h2⟩
  | .agg l, v, h => by
    cases v <;> simp only [AV.same] at h
    exact eqL_same Q f l _ h
  | .tup l, v, h => by
    cases v <;> simp only [AV.same] at h
    exact eqL_same Q f l _ h
  | .ptr .., v, h => by cases v <;> simp only [AV.same] at h
  | .addr .., v, h => by cases v <;> simp only [AV.same] at h
  | .slice .., v, h => by cases v <;> simp only [AV.same] at h
  | .slz .., v, h => by cases v <;> simp only [AV.same] at h
  | .map .., v, h => by cases v <;> simp only [AV.same] at h
  | .yld .., v, h => by cases v <;> simp only [AV.same] at h
  | .fn .., v, h => by cases v <;> simp only [AV.same] at h
  | .raw .., v, h => by cases v <;> simp only [AV.same] at h
  | .opt .., v, h => by cases v <;> simp only [AV.same] at h
  | .mth .., v, h => by cases v <;> simp only [AV.same] at h
  | .alt .., v, h => by cases v <;> simp only [AV.same] at h
theorem eqL_same (Q : List Pr) (f : Nat → Nat) : ∀ u v : List AV, AV.sameL u v → ∃ ps, eqL Q u (AV.mapIdL f v) = some ps ∧ allE ps
  | [], v, h => by cases v <;> simp only [AV.sameL] at h; exact ⟨_, rfl, trivial⟩
  | x :: l, v, h => by
    cases v <;> simp only [AV.sameL] at h
    obtain ⟨p1, a1, a2⟩ := eqV_same Q f x _ h.1
    obtain ⟨p2, b1, b2⟩ := eqL_same Q f l _ h.2
    exact ⟨p1 ++ p2, by simp only [AV.mapIdL, eqL]; rw [a1, b1], allE_append.2 ⟨a2, b2⟩⟩
end
mutual
theorem prV_same (f : Nat → Nat) : ∀ u v : AV, u.same v → prV u (v.mapId f) = [] ∧ (v.mapId f).all (fun _ => false) = true
  | .int .., v, h => by cases v <;> simp only [AV.same] at h; exact ⟨rfl, rfl⟩
  | .bool .., v, h => by cases v <;> simp only [AV.same] at h; exact ⟨rfl, rfl⟩
  | .nilp, v, h => by cases v <;> simp only [AV.same] at h; exact ⟨rfl, rfl⟩
  | .nils, v, h => by cases v <;> simp only [AV.same] at h; exact ⟨rfl, rfl⟩
  | .nilm, v, h => by cases v <;> simp only [AV.same] at h; exact ⟨rfl, rfl⟩
  | .nilf, v, h => by cases v <;> simp only [AV.same] at h; exact ⟨rfl, rfl⟩
  | .nili, v, h => by cases v <;> simp only [AV.same] at h; exact ⟨rfl, rfl⟩
  | .str .., v, h => by cases v <;> simp only [AV.same] at h; exact ⟨rfl, rfl⟩
  | .ifc t u, v, h => by cases v <;> simp only [AV.same] at h; exact prV_same f u _ h.2
  | .agg l, v, h => by cases v <;> simp only [AV.same] at h; exact prL_same f l _ h
  | .tup l, v, h => by cases v <;> simp only [AV.same] at h; exact prL_same f l _ h
  | .ptr .., v, h => by cases v <;> simp only [AV.same] at h
  | .addr .., v, h => by cases v <;> simp only [AV.same] at h
  | .slice .., v, h => by cases v <;> simp only [AV.same] at h
  | .slz .., v, h => by cases v <;> simp only [AV.same] at h
  | .map .., v, h => by cases v <;> simp only [AV.same] at h
  | .yld .., v, h => by cases v <;> simp only [AV.same] at h
  | .fn .., v, h => by cases v <;> simp only [AV.same] at h
  | .raw .., v, h => by cases v <;> simp only [AV.same] at h
  | .opt .., v, h => by cases v <;> simp only [AV.same] at h
  | .mth .., v, h => by cases v <;> simp only [AV.same] at h
  | .alt .., v, h => by cases v <;> simp only [AV.same] at h
theorem prL_same (f : Nat → Nat) : ∀ u v : List AV, AV.sameL u v → prL u (AV.mapIdL f v) = [] ∧ AV.allL (fun _ => false) (AV.mapIdL f v) = true
  | [], v, h => by cases v <;> simp only [AV.sameL] at h; exact ⟨rfl, rfl⟩
  | x :: l, v, h => by
    cases v <;> simp only [AV.sameL] at h
    obtain ⟨a1, a2⟩ := prV_same f x _ h.1
    obtain ⟨b1, b2⟩ := prL_same f l _ h.2
    exact ⟨by simp only [AV.mapIdL, prL]; rw [a1, b1]; rfl, by simp only [AV.mapIdL, AV.allL, a2, b2]; rfl⟩
end
/-- Plain values keep to the contract. -/
theorem endOk_same {N : Nat} {u v : AV} {h : List (Nat × Blk)} (hs : u.same v) (hd : noDfr h = true) : EndOk N v [] u h := by
  refine { slots := rfl, len := rfl, eqs := ?_ }
  obtain ⟨p1, p2⟩ := prV_same (· + N) u v hs
  obtain ⟨ps, e1, e2⟩ := eqV_same (unif N [u] [v.mapId (· + N)] h []) (· + N) u v hs
  refine ⟨ps ++ [] ++ [], ?_, by simpa using e2⟩
  have hsc : scopeJ (resJ N v []) = true := by
    simp only [scopeJ, resJ, List.map_nil, List.all_cons, List.all_nil, Bool.and_true]
    exact all_mono (fun _ hf => by cases hf) _ p2
  have hu : unif N [u] [v.mapId (· + N)] h [] = [] := by
    simp only [unif, prL, p1, baseP, addP, stepP, List.flatMap_nil, List.append_nil]
  rw [hu] at e1
  unfold subE
  have hJ : (resJ N v []).live.map (·.2) = [v.mapId (· + N)] := rfl
  have hH : (resJ N v []).hp = [] := rfl
  rw [hJ, hH, hu]
  simp only [eqL, e1, eqH, hsc, injP, lowP, hd, distH, Bool.and_self]
end Go.SX
