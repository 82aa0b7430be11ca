/- What a state has to do with a pattern: the law; loops by invariants told ahead. -/
import Derived.Test.YtdaanchagjamfaaSx
namespace Go.SX
open Go Go.RowKit Go.Proofs.Ytdaanchagjamfaa

theorem rowsEq_row {ks : List CK} {n : Nat} {g g' : Nat → Nat → Int} (h : RowsEq ks.length n g g') {i : Nat} (hi : i < n) : rowG ks g i = rowG ks g' i :=
  cellsOf_congr ks 0 fun j hj => eqF_get (h i hi) j hj
theorem rowsAt_of {r r' : Nat → Loc} {w : World} {l : Loc} {ks : List CK} {n : Nat} {g : Nat → Nat → Int} (h1 : l.nil = true → n = 0) (h2 : ∀ i, i < n → l.foot l.blk) (h3 : ∀ i, i < n → ∀ j v, (rowG ks g i)[j]? = some v → w.cell? ⟨l.blk, l.off + i * ks.length + j, none⟩ = some (v.den r)) : RowsAt w r' l ks.length n (rowG ks g) := by
  refine ⟨h1, fun i hi => ⟨h2 i hi, cellsOf_len _ _ _, fun j v hv => ?_⟩⟩
  have hf : flatC v = true := by
    have := cellsOf_flat ks 0 (g i)
    rw [flatR, List.all_eq_true] at this
    exact this v (List.mem_of_getElem? hv)
  exact ⟨hf, by rw [h3 i hi j v hv, den_congr (p := fun _ => false) (r := r) (r' := r') (fun _ hf => by cases hf) v (flatC_all hf)]⟩
/-- Rows there, read at a place that lies the same. -/
theorem rows_rep {r r' : Nat → Loc} {w : World} {l l' : Loc} {ks : List CK} {n n' : Nat} {g g' : Nat → Nat → Int} (h : RowsAt w r l ks.length n (rowG ks g)) (hle : n' ≤ n) (hg : RowsEq ks.length n' g g') (h1 : l'.blk = l.blk) (h2 : l'.off = l.off) (h3 : l'.nil = true → l.nil = true) (h4 : ∀ k, l.foot k → l'.foot k) : RowsAt w r' l' ks.length n' (rowG ks g') := by
  refine rowsAt_of (r := r) (fun hn => by have := h.1 (h3 hn); omega) (fun i hi => by rw [h1]; exact h4 _ (h.2 i (by omega)).1) fun i hi j v hv => ?_
  rw [h1, h2]
  rw [← rowsEq_row hg hi] at hv
  exact ((h.2 i (by omega)).2.2 j v hv).2
theorem rowz_at {r : Nat → Loc} {w : World} {id : Nat} {ty : TypeId} {z n : Nat} {g : Nat → List AV} (h : RowzR r id w ty z n g) : RowsAt w r (r id) z n g := by
  refine ⟨h.2.2.2.1, fun i hi => ?_⟩
  have hn := rowz_nil h (by omega)
  refine ⟨(h.2.2.1 _).2 ⟨hn, rfl⟩, (h.2.2.2.2.1 i hi).1, fun j v hv => ⟨?_, rowz_cell h hi hv⟩⟩
  have hf := (h.2.2.2.2.1 i hi).2
  rw [flatR, List.all_eq_true] at hf
  exact hf v (List.mem_of_getElem? hv)
/-- Cells that stand for the same. -/
theorem denL_at {r : Nat → Loc} {x y : List AV} (h : AV.denL r x = AV.denL r y) {j : Nat} {v : AV} (hv : y[j]? = some v) : ∃ u, x[j]? = some u ∧ u.den r = v.den r := by
  have e := congrArg (fun l => l[j]?) h
  simp only [denL_map, List.getElem?_map, hv, Option.map_some] at e
  cases hu : x[j]? with
  | none => rw [hu] at e; cases e
  | some u => rw [hu] at e; exact ⟨u, rfl, by simpa using e⟩
/-- Rows of a block that is known whole. -/
theorem rowl_at {r : Nat → Loc} {w : World} {id : Nat} {ty : TypeId} {ks : List CK} {l : List (List AV)} (h : BRep r id w (.rowl ty ks.length l)) {r' : Nat → Loc} {n : Nat} {g : Nat → Nat → Int} (hg : RowsIs ks l n g) {l' : Loc} (h1 : l'.blk = (r id).blk) (h2 : l'.off = (r id).off) (h3 : l'.nil = false) (h4 : l'.foot (r id).blk) : RowsAt w r' l' ks.length n (rowG ks g) := by
  obtain ⟨ho, hz, hlen, hcap, rest, hrest, hbk⟩ := h
  refine rowsAt_of (r := r) (fun hn => by rw [h3] at hn; cases hn) (fun i hi => by rw [h1]; exact h4) fun i hi j v hv => ?_
  have hx := List.getElem?_eq_getElem (l := l) (i := i) (by have := hg.1; omega)
  obtain ⟨u, hu, hd⟩ := denL_at (hg.2 i hi _ hx r) hv
  have hl0 := hlen _ (List.mem_of_getElem? hx)
  have hj := (List.getElem?_eq_some_iff.1 hu).1
  obtain ⟨f1, f2⟩ := flatten_get ks.length l hlen i _ hx j (by omega)
  rw [h1, h2, ho, Nat.zero_add, bk_cells_cell hbk, List.getElem?_append_left (by rw [denL_length]; exact f1), denL_map, List.getElem?_map, f2, hu]
  simp only [Option.map_some, hd]
theorem mapIs_to {r r' : Nat → Loc} {k : IntKind} {z z' : AV} {has has' : Int → Bool} {g g' : Int → AV} {es : List MapEntry} (h : MapIs r k z has g es) (e : MapEq z z' has has' g g') : MapIs r' k z' has' g' es := by
  obtain ⟨e1, e2, e3, e4⟩ := e
  have c : ∀ v : AV, v.all (fun _ => false) = true → v.den r = v.den r' := den_congr (fun _ hf => by cases hf)
  refine ⟨h.keys, h.once, fun n => (e4 n).2, e2, fun n hn => ?_, fun n hn => ?_⟩
  · rw [← c _ (e4 n).2, ← (e4 n).1 r]; exact h.yes n (by rw [e3]; exact hn)
  · rw [← c _ (e4 n).2, ← c _ e2, ← (e4 n).1 r, ← e1 r]; exact h.no n (by rw [e3]; exact hn)
theorem eqB_ok {Q : List Pr} {hJ : List (Nat × Blk)} {r : Nat → Loc} {w : World} {p s : Nat} {c : Cv} {x : Pr} (hf : findP Q p = some ⟨x.p, s, c⟩) {b b' : Blk} {ps : List Prop} (h : eqB Q c b b' = some ps) (ha : allE ps) (hb : BRep r s w b) :
    BRep (locP Q hJ r) p w b' ∧ (∀ k, Foot (locP Q hJ r) p b' k → Foot r s b k) ∧ (b'.own = true → b.own = true) := by
  have Ls : c = .same → locP Q hJ r p = r s := by intro e; subst e; unfold locP; rw [hf]
  have Ll : c = .lift → locP Q hJ r p = liftL (r s) := by intro e; subst e; unfold locP; rw [hf]
  unfold eqB at h
  split at h
  · -- cells
    split at h <;> (try (cases h; done))
    rename_i c0 z0 t0
    have L := Ls rfl
    have z0 := Nat.eq_of_beq_eq_true z0
    have t0 := Nat.eq_of_beq_eq_true t0
    subst z0 t0
    refine ⟨?_, ?_, id⟩
    · simp only [BRep] at hb ⊢
      rw [L, ← eqL_den r _ _ _ h ha]; exact hb
    · intro k hk
      have hk : k = (locP Q hJ r p).blk := hk
      rw [L] at hk; exact hk
  · split at h <;> (try (cases h; done))
    rename_i c0 z0 t0
    have L := Ls rfl
    have z0 := Nat.eq_of_beq_eq_true z0
    have t0 := Nat.eq_of_beq_eq_true t0
    subst z0 t0
    refine ⟨?_, ?_, fun h => by cases h⟩
    · simp only [BRep] at hb ⊢
      rw [L, ← eqL_den r _ _ _ h ha]; exact hb
    · intro k hk
      have hk : k = (locP Q hJ r p).blk := hk
      rw [L] at hk; exact hk
  · split at h <;> (try (cases h; done))
    rename_i c0 z0 t0
    have L := Ls rfl
    have z0 := Nat.eq_of_beq_eq_true z0
    have t0 := Nat.eq_of_beq_eq_true t0
    subst z0 t0
    refine ⟨?_, ?_, fun h => by cases h⟩
    · simp only [BRep] at hb ⊢
      rw [L, ← eqL_den r _ _ _ h ha]; exact hb
    · intro k hk
      have hk : k = (locP Q hJ r p).blk := hk
      rw [L] at hk; exact hk
  · -- rowl, rowl
    split at h <;> (try (cases h; done))
    rename_i c0 z0 t0
    simp only [Option.some.injEq] at h; subst h
    simp only [allE, and_true] at ha
    have L := Ls rfl
    have z0 := Nat.eq_of_beq_eq_true z0
    have t0 := Nat.eq_of_beq_eq_true t0
    subst z0 t0
    obtain ⟨rfl, hcl⟩ := ha
    refine ⟨?_, ?_, id⟩
    · simp only [BRep] at hb ⊢
      rw [L, denL_congr (p := fun _ => false) (r := locP Q hJ r) (r' := r) (fun _ hf => by cases hf) _ (allL_flatten hcl)]; exact hb
    · intro k hk
      have hk : k = (locP Q hJ r p).blk := hk
      rw [L] at hk; exact hk
  · -- arr, arr
    split at h <;> (try (cases h; done))
    rename_i c0 z0
    simp only [Option.some.injEq] at h; subst h
    simp only [allE, and_true] at ha
    have L := Ls rfl
    have z0 := Nat.eq_of_beq_eq_true z0
    subst z0
    obtain ⟨rfl, rfl⟩ := ha
    refine ⟨?_, ?_, fun h => by cases h⟩
    · simp only [BRep] at hb ⊢
      rw [L]
      refine ⟨hb.1, hb.2.1, fun i hi => ⟨(hb.2.2 i hi).1, fun j v hv => ?_⟩⟩
      obtain ⟨a1, a2⟩ := (hb.2.2 i hi).2 j v hv
      exact ⟨a1, by rw [a2, den_congr (p := fun _ => false) (r := r) (r' := locP Q hJ r) (fun _ hf => by cases hf) v a1]⟩
    · intro k hk
      have hk : k = (locP Q hJ r p).blk := hk
      rw [L] at hk; exact hk
  · -- rowz, rowz
    rename_i o t ks n g o' t' ks' n' g'
    split at h <;> (try (cases h; done))
    rename_i c0 z0 t0 ho
    simp only [Option.some.injEq] at h; subst h
    simp only [allE, and_true] at ha
    have L := Ls rfl
    have z0 := ksB_eq z0
    have t0 := Nat.eq_of_beq_eq_true t0
    subst z0 t0
    have hb0 : RowzR r s w t ks.length n (rowG ks g) := hb
    refine ⟨?_, fun k hk => ?_, fun h => ?_⟩
    · show RowzR (locP Q hJ r) p w t ks.length n' (rowG ks g')
      unfold RowzR
      rw [L]
      have hb1 := hb0
      obtain ⟨h1, h2, h3, h4, h5, h6⟩ := hb0
      refine ⟨h1, h2, h3, fun hn => by have := h4 hn; omega, fun i hi => ⟨cellsOf_len _ _ _, cellsOf_flat _ _ _⟩, fun hn => ?_⟩
      have hrow := rowl_take (rowz_rowl hb1 hn) (k := n') (by rw [rowsTo_len]; exact ha.1)
      have hz := rowl_rowz (n := n') (get := rowG ks g') hrow hn (fun k => by rw [h3, hn]; simp) (by rw [List.length_take, rowsTo_len]; omega) (fun i x hx => by
        have hi := (List.getElem?_eq_some_iff.1 hx).1
        simp only [List.length_take, rowsTo_len] at hi
        rw [List.getElem?_take_of_lt (by omega)] at hx
        rw [rowsTo_get (by omega)] at hx
        simp only [Option.some.injEq] at hx; subst hx
        rw [rowsEq_row ha.2 (by omega)]) (fun i hi => cellsOf_flat _ _ _)
      obtain ⟨k1, rest, k2, k3⟩ := hz.2.2.2.2.2 hn
      exact ⟨k1, rest, k2, by rw [k3, denL_congr (p := fun _ => false) (r := r) (r' := locP Q hJ r) (fun _ hf => by cases hf) _ (rowsTo_flat fun i hi => flatR_all (l := rowG ks g' i) (cellsOf_flat _ _ _))]⟩
    · have hk : (locP Q hJ r p).foot k := hk
      rw [L] at hk; exact hk
    · simp only [Blk.own] at h ⊢
      rw [h] at ho; simpa using ho
  · -- rowz, frz
    rename_i o t ks n g ks' n' g'
    split at h <;> (try (cases h; done))
    rename_i c0 z0
    simp only [Option.some.injEq] at h; subst h
    simp only [allE, and_true] at ha
    have L := Ls rfl
    have z0 := ksB_eq z0
    subst z0
    have hb0 : RowzR r s w t ks.length n (rowG ks g) := hb
    refine ⟨?_, fun k hk => ?_, fun h => by cases h⟩
    · simp only [BRep]
      rw [L]
      exact ⟨hb0.2.1, hb.lt rfl, rows_rep (rowz_at hb0) ha.1 ha.2 rfl rfl id (fun _ h => h)⟩
    · have hk : (locP Q hJ r p).foot k := hk
      rw [L] at hk; exact hk
  · -- frz, frz
    split at h <;> (try (cases h; done))
    rename_i c0 z0
    simp only [Option.some.injEq] at h; subst h
    simp only [allE, and_true] at ha
    have L := Ls rfl
    have z0 := ksB_eq z0
    subst z0
    refine ⟨?_, fun k hk => ?_, fun h => by cases h⟩
    · simp only [BRep]
      rw [L]
      exact ⟨hb.1, hb.2.1, rows_rep hb.2.2 ha.1 ha.2 rfl rfl id (fun _ h => h)⟩
    · have hk : (locP Q hJ r p).foot k := hk
      rw [L] at hk; exact hk
  · -- frz2
    rename_i o t ks n ln g o' t' ks' n' ln' g'
    split at h <;> (try (cases h; done))
    rename_i c0 z0 t0 ho
    simp only [Option.some.injEq] at h; subst h
    simp only [allE, and_true] at ha
    have L := Ls rfl
    have z0 := ksB_eq z0
    have t0 := Nat.eq_of_beq_eq_true t0
    subst z0 t0
    obtain ⟨rfl, ha⟩ := ha
    refine ⟨?_, fun k hk => ?_, fun h => ?_⟩
    · simp only [BRep] at hb ⊢
      rw [L]
      obtain ⟨h1, h2, h3, inner, h4, h5, h6, h7⟩ := hb
      refine ⟨h1, h2, h3, inner, h4, h5, fun i hi => ?_, fun hn => ?_⟩
      · obtain ⟨a1, a2⟩ := ha i hi
        obtain ⟨c1, c2, c3⟩ := h6 i hi
        rw [a1] at c3
        exact ⟨c1, c2, rows_rep c3 (Nat.le_refl _) a2 rfl rfl id (fun _ h => h)⟩
      · obtain ⟨k1, rest, k2, k3⟩ := h7 hn
        refine ⟨k1, rest, k2, ?_⟩
        rw [k3]
        congr 3
        apply congrArg (· ++ rest)
        apply List.map_congr_left
        intro i hi
        rw [(ha i (List.mem_range.1 hi)).1]
    · have hk : (locP Q hJ r p).foot k := hk
      rw [L] at hk; exact hk
    · simp only [Blk.own] at h ⊢
      rw [h] at ho; simpa using ho
  · -- rowl, rowz
    rename_i t z l o' t' ks' n' g'
    split at h <;> (try (cases h; done))
    rename_i c0 z0 t0
    simp only [Option.some.injEq] at h; subst h
    simp only [allE, and_true] at ha
    have L := Ll rfl
    have z0 := Nat.eq_of_beq_eq_true z0
    have t0 := Nat.eq_of_beq_eq_true t0
    subst z0 t0
    refine ⟨?_, fun k hk => ?_, fun _ => rfl⟩
    · show RowzR (locP Q hJ r) p w t ks'.length n' (rowG ks' g')
      unfold RowzR
      rw [L]
      refine ⟨hb.1, hb.2.1, fun k => ?_, fun hn => (by cases hn), fun i hi => ⟨cellsOf_len _ _ _, cellsOf_flat _ _ _⟩, fun _ => ?_⟩
      · simp [liftL]
      · have hrow := rowl_take hb ha.1
        obtain ⟨k0, k1, k2, k3, rest, k4, k5⟩ := hrow
        have hlen : (l.take n').length = n' := by rw [List.length_take]; have := ha.1; omega
        refine ⟨by rw [hlen] at k3; exact k3, rest, by rw [hlen] at k4; exact k4, ?_⟩
        show bk w (r s).blk = _
        rw [k5]
        have e1 : AV.denL r (l.take n').flatten = AV.denL r (rowsTo n' (rowG ks' g')).flatten := by
          apply flat_congr
          apply List.ext_getElem?
          intro i
          rw [List.getElem?_map, List.getElem?_map]
          rcases Nat.lt_or_ge i n' with hi | hi
          · have hx := List.getElem?_eq_getElem (l := l) (i := i) (by have := ha.1; omega)
            rw [List.getElem?_take_of_lt hi, rowsTo_get hi, hx]
            simp only [Option.map_some, ha.2 i hi _ hx r]
          · rw [List.getElem?_eq_none (by omega), List.getElem?_eq_none (by rw [rowsTo_len]; exact hi)]
        rw [e1, denL_congr (p := fun _ => false) (r := r) (r' := locP Q hJ r) (fun _ hf => by cases hf) _ (rowsTo_flat fun i hi => flatR_all (l := rowG ks' g' i) (cellsOf_flat _ _ _))]
    · have hk : (locP Q hJ r p).foot k := hk
      rw [L] at hk; exact hk
  · -- rowl, frz
    split at h <;> (try (cases h; done))
    rename_i c0 z0
    simp only [Option.some.injEq] at h; subst h
    simp only [allE, and_true] at ha
    have L := Ll rfl
    have z0 := Nat.eq_of_beq_eq_true z0
    subst z0
    refine ⟨?_, fun k hk => ?_, fun h => by cases h⟩
    · simp only [BRep]
      rw [L]
      exact ⟨hb.2.1, fun k hk => hb.lt rfl k hk, rowl_at hb ha (l' := liftL (r s)) rfl rfl rfl rfl⟩
    · have hk : (locP Q hJ r p).foot k := hk
      rw [L] at hk; exact hk
  · -- rowlR, frz
    split at h <;> (try (cases h; done))
    rename_i c0 z0
    simp only [Option.some.injEq] at h; subst h
    simp only [allE, and_true] at ha
    have L := Ll rfl
    have z0 := Nat.eq_of_beq_eq_true z0
    subst z0
    refine ⟨?_, fun k hk => ?_, fun h => by cases h⟩
    · simp only [BRep]
      rw [L]
      exact ⟨hb.2.1, fun k hk => hb.lt rfl k hk, rowl_at (hb.peel) ha (l' := liftL (r s)) rfl rfl rfl rfl⟩
    · have hk : (locP Q hJ r p).foot k := hk
      rw [L] at hk; exact hk
  · -- arr, frz
    rename_i z n g ks' n' g'
    split at h <;> (try (cases h; done))
    rename_i c0 z0
    simp only [Option.some.injEq] at h; subst h
    simp only [allE, and_true] at ha
    have L := Ll rfl
    have z0 := Nat.eq_of_beq_eq_true z0
    subst z0
    refine ⟨?_, fun k hk => ?_, fun h => by cases h⟩
    · simp only [BRep] at hb ⊢
      rw [L]
      refine ⟨hb.1, fun k hk => (by have hk : k = (r s).blk := hk; rw [hk]; exact hb.2.1), rowsAt_of (r := r) (fun hn => (by cases hn)) (fun i hi => rfl) fun i hi j v hv => ?_⟩
      obtain ⟨u, hu, hd⟩ := denL_at (ha.2 i hi r) hv
      obtain ⟨_, b2⟩ := hb.2.2 i (by have := ha.1; omega)
      show w.cell? ⟨(r s).blk, (r s).off + i * _ + j, none⟩ = _
      rw [(b2 j u hu).2, hd]
    · have hk : (locP Q hJ r p).foot k := hk
      rw [L] at hk; exact hk
  · -- mp, mp
    split at h <;> (try (cases h; done))
    simp only [Option.some.injEq] at h; subst h
    simp only [allE, and_true] at ha
    obtain ⟨rfl, rfl⟩ := ha
    have L := Ls rfl
    refine ⟨?_, fun k hk => ?_, id⟩
    · simp only [BRep] at hb ⊢
      rw [L]; exact hb
    · have hk : k = (locP Q hJ r p).blk := hk
      rw [L] at hk; exact hk
  · -- mp, mpf
    split at h <;> (try (cases h; done))
    simp only [Option.some.injEq] at h; subst h
    simp only [allE, and_true] at ha
    obtain ⟨rfl, m1, m2, m3⟩ := ha
    have L := Ls rfl
    refine ⟨?_, fun k hk => ?_, fun _ => rfl⟩
    · simp only [BRep] at hb ⊢
      rw [L]
      exact ⟨[], _, hb, ⟨by simp, by simp, fun n => (m3 n).2, m1, fun n hn => (by rw [m2 n] at hn; cases hn), fun n _ => ⟨rfl, (m3 n).1 _⟩⟩⟩
    · have hk : k = (locP Q hJ r p).blk := hk
      rw [L] at hk; exact hk
  · -- mpf, mpf
    split at h <;> (try (cases h; done))
    rename_i c0 k0
    have k0 := beq_iff_eq.1 k0
    subst k0
    simp only [Option.some.injEq] at h; subst h
    simp only [allE, and_true] at ha
    have L := Ls rfl
    refine ⟨?_, fun k hk => ?_, fun _ => rfl⟩
    · simp only [BRep] at hb ⊢
      rw [L]
      obtain ⟨es, cl, h1, h2⟩ := hb
      exact ⟨es, cl, h1, mapIs_to h2 ha⟩
    · have hk : k = (locP Q hJ r p).blk := hk
      rw [L] at hk; exact hk
  · -- lp
    split at h <;> (try (cases h; done))
    rename_i c0 qs hq
    simp only [Option.some.injEq] at h; subst h
    simp only [allE] at ha
    obtain ⟨rfl, rfl, rfl, rfl, rfl, ha⟩ := ha
    have L := Ls rfl
    refine ⟨?_, fun k hk => ?_, fun _ => rfl⟩
    · simp only [BRep] at hb ⊢
      rw [L, ← eqL_den r _ _ _ hq ha]; exact hb
    · have hk : k = (locP Q hJ r p).blk := hk
      rw [L] at hk; exact hk
  · cases h
theorem eqG_ok {Q : List Pr} {hJ : List (Nat × Blk)} {r : Nat → Loc} {w : World} {p : Nat} {b' : Blk} {ps : List Prop} (h : eqG b' = some ps) (ha : allE ps) (hl : locP Q hJ r p = Loc.none (zOf (some b'))) :
    BRep (locP Q hJ r) p w b' ∧ ∀ k, ¬ Foot (locP Q hJ r) p b' k := by
  unfold eqG at h
  split at h <;> (try (cases h; done))
  · simp only [Option.some.injEq] at h; subst h
    simp only [allE, and_true] at ha
    subst ha
    refine ⟨?_, fun k hk => ?_⟩
    · simp only [BRep, RowzR, hl, Loc.none, zOf]
      refine ⟨trivial, trivial, fun k => by simp, fun _ => trivial, fun i hi => by omega, fun h => by cases h⟩
    · have hk : (locP Q hJ r p).foot k := hk
      rw [hl] at hk; exact hk
  · simp only [Option.some.injEq] at h; subst h
    simp only [allE, and_true] at ha
    subst ha
    refine ⟨?_, fun k hk => ?_⟩
    · simp only [BRep, hl, Loc.none, zOf]
      exact ⟨trivial, fun k hk => hk.elim, fun _ => rfl, fun i hi => by omega⟩
    · have hk : (locP Q hJ r p).foot k := hk
      rw [hl] at hk; exact hk
end Go.SX
