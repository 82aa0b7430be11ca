/- Rows made anew, append. -/
import Derived.Test.YtdaanchagjamfaaSe2
namespace Go.SX
open Go Go.RowKit Go.Proofs.Ytdaanchagjamfaa

theorem fillA_length (place : Nat → Option (Nat × Nat)) : ∀ (parts : List (Nat × AV)) (cells out : List AV), fillA place cells parts = some out → out.length = cells.length
  | [], cells, out, h => by simp only [fillA, Option.some.injEq] at h; rw [h]
  | (i, v) :: parts, cells, out, h => by
    simp only [fillA] at h
    split at h <;> (try (cases h; done))
    split at h <;> (try (cases h; done))
    rw [fillA_length place parts _ _ h, setR_length]
theorem rep_flatten_len (zc : List AV) : ∀ n, (rep n zc).flatten.length = n * zc.length
  | 0 => by simp [rep]
  | n + 1 => by rw [rep, List.flatten_cons, List.length_append, rep_flatten_len zc n, Nat.add_mul]; omega
theorem rep_get (zc : List AV) : ∀ (n i : Nat), i < n * zc.length → (rep n zc).flatten[i]? = zc[i % zc.length]?
  | 0, i, h => by omega
  | n + 1, i, h => by
    rw [rep, List.flatten_cons]
    rcases Nat.lt_or_ge i zc.length with g | g
    · rw [List.getElem?_append_left g, Nat.mod_eq_of_lt g]
    · rw [List.getElem?_append_right g, rep_get zc n (i - zc.length) (by rw [Nat.add_mul] at h; omega)]
      congr 1
      exact (Nat.mod_eq_sub_mod g).symm
theorem zeros_eq (r : Nat → Loc) (z : Value) (zc : List AV) (hz : z.cells = (AV.denL r zc).toArray) (n : Nat) : (Array.range (n * zc.length)).map (z.cells[· % z.cells.size]!) = (AV.denL r (rep n zc).flatten).toArray := by
  apply Array.ext'
  apply List.ext_getElem?
  intro i
  rw [hz]
  simp only [Array.toList_map, Array.toList_range, List.getElem?_map, denL_map]
  rcases Nat.lt_or_ge i (n * zc.length) with h | h
  · rw [List.getElem?_range h, rep_get zc n i h]
    have hpos : 0 < zc.length := by
      rcases Nat.eq_zero_or_pos zc.length with e | e
      · rw [e] at h; omega
      · exact e
    have hlt := Nat.mod_lt i hpos
    simp [hlt]
  · rw [List.getElem?_eq_none (by simpa using h), List.getElem?_eq_none (by rw [rep_flatten_len]; exact h)]; rfl
theorem chunk_ok (sz : Nat) : ∀ (n : Nat) (l : List AV), l.length = n * sz → (chunk sz n l).flatten = l ∧ (∀ x ∈ chunk sz n l, x.length = sz) ∧ (chunk sz n l).length = n
  | 0, l, h => by
    have : l = [] := List.eq_nil_of_length_eq_zero (by omega)
    subst this; exact ⟨rfl, by simp [chunk], rfl⟩
  | n + 1, l, h => by
    rw [Nat.add_mul] at h
    obtain ⟨h1, h2, h3⟩ := chunk_ok sz n (l.drop sz) (by rw [List.length_drop]; omega)
    refine ⟨by rw [chunk, List.flatten_cons, h1, List.take_append_drop], ?_, by rw [chunk, List.length_cons, h3]⟩
    intro x hx
    rw [chunk] at hx
    rcases List.mem_cons.1 hx with rfl | hx
    · rw [List.length_take]; omega
    · exact h2 x hx

theorem fillA_all {p : Nat → Bool} {place : Nat → Option (Nat × Nat)} : ∀ {parts : List (Nat × AV)} {cells out : List AV}, fillA place cells parts = some out → AV.allL p cells = true → (∀ q ∈ parts, q.2.all p = true) → AV.allL p out = true
  | [], cells, out, h, hc, _ => by simp only [fillA, Option.some.injEq] at h; rw [← h]; exact hc
  | (i, v) :: parts, cells, out, h, hc, hp => by
    simp only [fillA] at h
    split at h <;> (try (cases h; done))
    split at h <;> (try (cases h; done))
    exact fillA_all h (setR_all _ _ _ hc (cells_all (hp (i, v) (by simp)))) (fun q hq => hp q (by simp [hq]))
theorem rep_all {p : Nat → Bool} {zc : List AV} (h : AV.allL p zc = true) : ∀ n, AV.allL p (rep n zc).flatten = true
  | 0 => rfl
  | n + 1 => by rw [rep, List.flatten_cons, allL_append, h, rep_all h n]; rfl

def buildSA (P : Program) (t : TypeId) (len : Nat) (parts : List (Nat × AV)) (nid : Nat) : Option Eff :=
  match P.underlying t with
  | some (.slice e) => match P.info? e with
    | some ie => match ie.zero with
      | some z => if decide (len * ie.size ≤ 2 ^ 24) && (ofValue z).cells.length == ie.size then
          match fillA (fun i => some (i * ie.size, ie.size)) (rep len (ofValue z).cells).flatten parts with
          | some out => some ⟨true, true, .slice true nid 0 len (.lit len), [(nid, .rowl e ie.size (chunk ie.size len out))]⟩
          | none => none
        else none
      | none => none
    | none => none
  | _ => none

theorem Post.new1' {lk : Nat → Option Blk} {r : Nat → Loc} {nid : Nat} {w w0 : World} {o : Obj} {l : Loc} {b : Blk} (hl : l.blk = w.heap.size) (hl2 : ∀ k, l.foot k → k = l.blk) (hw : w0 = w ∨ w0 = w.drew) (hb : BRep (upd1 r nid l) nid (w0.alloc o) b) : Post lk r nid [(nid, b)] w (upd1 r nid l) (w0.alloc o) := by
  have hp := Post.new1 (lk := lk) (r := r) (nid := nid) (w := w) (o := o) (l := l) (b := b) hl hl2
  rcases hw with rfl | rfl
  · exact hp hb
  · have hb' : BRep (upd1 r nid l) nid (w.alloc o) b := by cases b <;> exact hb
    have := hp hb'
    refine ⟨this.same, fun p hpm => ?_, ⟨this.fr.os, this.fr.tape, this.fr.output, this.fr.size, this.fr.block⟩, this.new, this.stay, this.apart⟩
    simp only [List.mem_singleton] at hpm; subst hpm; exact hb

theorem buildSA_ok {P : Program} {t : TypeId} {len : Nat} {parts : List (Nat × AV)} {nid : Nat} {eff : Eff} (h : buildSA P t len parts nid = some eff) {r : Nat → Loc} (hsc : ∀ p ∈ parts, p.2.all (fun i => !inR nid i) = true) {lk : Nat → Option Blk} (w : World) :
    ∃ w' r', (Instr.buildSlice t len (parts.map fun x => (x.1, x.2.den r)).toArray).run P w = .ok (eff.val.den r') w' ∧ Post lk r nid eff.upd w r' w' := by
  unfold buildSA at h
  split at h <;> (try (cases h; done))
  rename_i e hu
  split at h <;> (try (cases h; done))
  rename_i ie hie
  split at h <;> (try (cases h; done))
  rename_i z hz
  split at h <;> (try (cases h; done))
  rename_i hc
  simp only [Bool.and_eq_true, beq_iff_eq, decide_eq_true_eq] at hc
  split at h <;> (try (cases h; done))
  rename_i out hf
  simp only [Option.some.injEq] at h; subst h
  have hlen := fillA_length _ _ _ _ hf
  rw [rep_flatten_len, hc.2] at hlen
  obtain ⟨c1, c2, c3⟩ := chunk_ok ie.size len out hlen
  have hfill := fill_A r _ _ _ _ hf
  have hzs := zeros_eq r z (ofValue z).cells (cells_ofValue r z) len
  rw [hc.2] at hzs
  rw [← hzs] at hfill
  let l : Loc := ⟨w.heap.size, 0, ie.size, len, false, none, fun k => k = w.heap.size⟩
  refine ⟨w.alloc (.cells (AV.denL r out).toArray e), upd1 r nid l, ?_, Post.new1 rfl (fun _ h => h) ?_⟩
  · have hsm : ¬ len * ie.size > 2 ^ 24 := by omega
    by_cases h0 : len * ie.size = 0
    · have e0 : (Array.range (len * ie.size)).map (z.cells[· % z.cells.size]!) = #[] := by rw [h0]; exact Array.ext (by simp) (fun i h1 _ => by simp at h1)
      rw [e0] at hfill
      have hA : ∀ f : Nat → Value, (Array.range 0).map f = #[] := fun f => Array.ext (by simp) (fun i h1 _ => by simp at h1)
      simp [Instr.buildSlice, run_underlying hu, sizeOf, typeInfo, hie, h0, hA, hfill, newRow, AV.den, upd1, Cap.den, l]
    · have := run_buildSlice (P := P) w t e len _ _ ie z hu hie hz hsm h0 hfill
      rw [this]
      simp [AV.den, upd1, Cap.den, l, Loc.of]
  · simp only [BRep, upd1, if_true, l]
    refine ⟨trivial, trivial, c2, by rw [c3]; exact Nat.le_refl _, [], by rw [c3]; simp, ?_⟩
    rw [bk_alloc, if_pos rfl, c1, List.append_nil]
    have hsc' : AV.allL (fun i => !inR nid i) out = true := by
      refine fillA_all hf ?_ hsc
      exact rep_all (cells_all (ofValue_all _ z)) len
    rw [denL_congr (upd1_same (l := ⟨w.heap.size, 0, ie.size, len, false, none, fun k => k = w.heap.size⟩)) out hsc']

/-! ### append -/
def rowsOf0 (sz : Nat) : AV → Option Blk → Option (List (List AV))
  | .nils, none => some []
  | .slice _ _ e len _, some (.rowl _ z l) => if z == sz && decide (e + len ≤ l.length) then some ((l.drop e).take len) else none
  | .slice _ _ e len _, some (.cells z _ l) => if z == sz && decide (e * z + len * z ≤ l.length) then some (chunk z len ((l.drop (e * z)).take (len * z))) else none
  | _, _ => none
def rowsOf (sz : Nat) (x : AV) (b : Option Blk) : Option (List (List AV)) := rowsOf0 sz x (b.map Blk.peel)
def lenS : AV → Nat
  | .slice _ _ _ len _ => len
  | _ => 0
def knownS : AV → Bool
  | .slice c _ _ _ _ => c
  | .nils => true
  | _ => false
structure RowsIn (r : Nat → Loc) (w : World) (sz : Nat) (x : AV) (rows : List (List AV)) : Prop where
  len : rows.length = lenS x
  each : ∀ y ∈ rows, y.length = sz
  there : ∀ c id e len cp, x = .slice c id e len cp → ∀ (j : Nat) (u : Value), (AV.denL r rows.flatten)[j]? = some u → w.cell? ⟨(r id).blk, (r id).off + e * (r id).esz + j, none⟩ = some u
theorem take_flatten (sz : Nat) : ∀ (l : List (List AV)), (∀ x ∈ l, x.length = sz) → ∀ n, (l.take n).flatten = l.flatten.take (n * sz)
  | [], _, n => by simp
  | x :: l, hl, 0 => by simp
  | x :: l, hl, n + 1 => by
    have hx := hl x (by simp)
    rw [List.take_succ_cons, List.flatten_cons, List.flatten_cons, take_flatten sz l (fun y hy => hl y (by simp [hy])) n, List.take_append, hx]
    rw [List.take_of_length_le (l := x) (by rw [hx, Nat.add_mul]; omega), show (n + 1) * sz - sz = n * sz by rw [Nat.add_mul]; omega]
theorem drop_flatten (sz : Nat) : ∀ (l : List (List AV)), (∀ x ∈ l, x.length = sz) → ∀ n, (l.drop n).flatten = l.flatten.drop (n * sz)
  | [], _, n => by simp
  | x :: l, hl, 0 => by simp
  | x :: l, hl, n + 1 => by
    have hx := hl x (by simp)
    rw [List.drop_succ_cons, List.flatten_cons, drop_flatten sz l (fun y hy => hl y (by simp [hy])) n, List.drop_append, hx]
    rw [List.drop_of_length_le (l := x) (by rw [hx, Nat.add_mul]; omega), show (n + 1) * sz - sz = n * sz by rw [Nat.add_mul]; omega]; rfl
theorem rowsOf0_ok {r : Nat → Loc} {w : World} {sz : Nat} {x : AV} {b : Option Blk} {rows : List (List AV)} (h : rowsOf0 sz x b = some rows) (hb : ∀ c id e n cp b', x = .slice c id e n cp → b = some b' → BRep r id w b') :
    RowsIn r w sz x rows ∧ (x = .nils ∨ ∃ c id e n cp, x = .slice c id e n cp) := by
  unfold rowsOf0 at h
  split at h <;> (try (cases h; done))
  · simp only [Option.some.injEq] at h; subst h
    exact ⟨⟨rfl, by simp, fun _ _ _ _ _ h => by cases h⟩, .inl rfl⟩
  · rename_i c id e len cp ty z l
    split at h <;> (try (cases h; done))
    rename_i hc
    simp only [Bool.and_eq_true, beq_iff_eq, decide_eq_true_eq] at hc
    simp only [Option.some.injEq] at h; subst h
    obtain ⟨rfl, hle⟩ := hc
    obtain ⟨ho, hz, hlen, hcap, rest, hrest, hbk⟩ := hb c id e len cp _ rfl rfl
    refine ⟨⟨by simp [lenS]; omega, fun y hy => hlen y (List.mem_of_mem_drop (List.mem_of_mem_take hy)), fun c' id' e' len' cp' hx j u hu => ?_⟩, .inr ⟨_, _, _, _, _, rfl⟩⟩
    simp only [AV.slice.injEq] at hx
    obtain ⟨_, rfl, rfl, _, _⟩ := hx
    rw [ho, hz, Nat.zero_add, bk_cells_cell hbk]
    rw [take_flatten z _ (fun y hy => hlen y (List.mem_of_mem_drop hy)), drop_flatten z l hlen, denL_map, List.getElem?_map] at hu
    obtain ⟨v, hv, rfl⟩ := Option.map_eq_some_iff.1 hu
    have hj := (List.getElem?_eq_some_iff.1 hv).1
    simp only [List.length_take, List.length_drop] at hj
    rw [List.getElem?_take_of_lt (by omega), List.getElem?_drop] at hv
    have hlt := (List.getElem?_eq_some_iff.1 hv).1
    rw [List.getElem?_append_left (by rw [denL_length]; exact hlt), denL_map, List.getElem?_map, hv]; rfl
  · rename_i c id e len cp z ty l
    split at h <;> (try (cases h; done))
    rename_i hc
    simp only [Bool.and_eq_true, beq_iff_eq, decide_eq_true_eq] at hc
    simp only [Option.some.injEq] at h; subst h
    obtain ⟨rfl, hle⟩ := hc
    obtain ⟨ho, hz, hbk⟩ := hb c id e len cp _ rfl rfl
    obtain ⟨c1, c2, c3⟩ := chunk_ok z len ((l.drop (e * z)).take (len * z)) (by simp; omega)
    refine ⟨⟨c3, c2, fun c' id' e' len' cp' hx j u hu => ?_⟩, .inr ⟨_, _, _, _, _, rfl⟩⟩
    simp only [AV.slice.injEq] at hx
    obtain ⟨_, rfl, rfl, _, _⟩ := hx
    rw [ho, hz, Nat.zero_add, bk_cells_cell hbk]
    rw [c1, denL_map, List.getElem?_map] at hu
    obtain ⟨v, hv, rfl⟩ := Option.map_eq_some_iff.1 hu
    have hj := (List.getElem?_eq_some_iff.1 hv).1
    simp only [List.length_take, List.length_drop] at hj
    rw [List.getElem?_take_of_lt (by omega), List.getElem?_drop] at hv
    rw [denL_map, List.getElem?_map, hv]; rfl

theorem rowsOf_ok {r : Nat → Loc} {w : World} {sz : Nat} {x : AV} {b : Option Blk} {rows : List (List AV)} (h : rowsOf sz x b = some rows) (hb : ∀ c id e n cp b', x = .slice c id e n cp → b = some b' → BRep r id w b') :
    RowsIn r w sz x rows ∧ (x = .nils ∨ ∃ c id e n cp, x = .slice c id e n cp) := by
  refine rowsOf0_ok h fun c id e n cp b' hx hb' => ?_
  obtain ⟨b0, rfl, rfl⟩ := Option.map_eq_some_iff.1 hb'
  exact (hb c id e n cp b0 hx rfl).peel
def newRowE (e : TypeId) (sz : Nat) (k : Bool) (nid : Nat) (rows : List (List AV)) (by_ : Nat) : Option Eff :=
  some ⟨k, decide ((rows.length + rows.length / 4 + 192) * by_ ≤ 281474976710656 ∧ rows.length ≤ 9223372036854775807), .slice k nid 0 rows.length (.of 0), [(nid, .rowl e sz rows)]⟩
def appendA (P : Program) (ts : List TypeId) (s x : AV) (sb xb : Option Blk) (nid : Nat) : Option Eff :=
  match ts with
  | [t, tx] => match P.underlying t, P.underlying tx with
    | some (.slice e), some (.slice _) => match P.info? e with
      | some i => match i.zero with
        | some z => if z.cells.size == i.size then
          match rowsOf i.size x xb with
          | some news => if news.all (fun y => y.all AV.atom) then
            match s, sb with
            | .nils, none => match knownS x, news with
              | true, [] => some ⟨true, true, .nils, []⟩
              | true, _ :: _ => newRowE e i.size true nid news i.bytes
              | false, _ => none
            | .slice c id 0 len (.of 0), some (.rowl ty sz l) =>
              if sz == i.size && ty == e then
                match c && knownS x, len + news.length ≤ l.length && len != l.length with
                | true, true => some ⟨true, true, .slice true id 0 (len + news.length) (.of 0), [(id, .rowl ty sz (l.take len ++ news ++ l.drop (len + news.length)))]⟩
                | k, _ => some ⟨k, decide (len = l.length ∧ (len + news.length + (len + news.length) / 4 + 192) * i.bytes ≤ 281474976710656 ∧ len + news.length ≤ 9223372036854775807), .slice k nid 0 (len + news.length) (.of 0), [(id, .gone), (nid, .rowl ty sz (l ++ news))]⟩
              else none
            | .slice true id e0 len (.lit cp), some b => match knownS x, decide (len + news.length ≤ cp) with
              | true, false => match rowsOf i.size (.slice true id e0 len (.lit cp)) (some b) with
                | some olds => newRowE e i.size true nid (olds ++ news) i.bytes
                | none => none
              | true, true => match b with
                | .rowl ty sz l => if sz == i.size && ty == e && decide (e0 + len + news.length ≤ l.length) then
                    some ⟨true, true, .slice true id e0 (len + news.length) (.lit cp), [(id, .rowl ty sz (l.take (e0 + len) ++ news ++ l.drop (e0 + len + news.length)))]⟩ else none
                | _ => none
              | false, _ => none
            | _, _ => none
            else none
          | none => none
          else none
        | none => none
      | none => none
    | _, _ => none
  | _ => none

theorem Src_of {P : Program} {r : Nat → Loc} {w : World} {sz : Nat} {x : AV} {rows : List (List AV)} (h : RowsIn r w sz x rows) (hx : x = .nils ∨ ∃ c id e n cp, x = .slice c id e n cp) {tx e' : TypeId} (hk : P.underlying tx = some (.slice e')) (ha : rows.all (fun y => y.all AV.atom) = true) :
    Src P sz tx (x.den r) rows.length (AV.denL r rows.flatten) w := by
  have h1 : ∀ u ∈ AV.denL r rows.flatten, u.oneCell' = true := by
    intro u hu
    rw [denL_map] at hu
    obtain ⟨v, hv, rfl⟩ := List.mem_map.1 hu
    obtain ⟨y, hy, hvy⟩ := List.mem_flatten.1 hv
    simp only [List.all_eq_true] at ha
    exact atom_one r (ha y hy v hvy)
  have hl : (AV.denL r rows.flatten).length = rows.length * sz := by rw [denL_length, flatten_len sz rows h.each]
  rcases hx with rfl | ⟨c, id, e, n, cp, rfl⟩
  · have : rows = [] := List.eq_nil_of_length_eq_zero h.len
    subst this
    exact Src.ofNil w hk 0
  · have hn : rows.length = n := h.len
    subst hn
    exact Src.ofSlice w hk _ _ _ _ hl (fun j u hu => by rw [add_off]; exact h.there _ _ _ _ _ rfl j u hu) h1

end Go.SX
