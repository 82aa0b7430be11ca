/- append: the law. -/
import Derived.Test.YtdaanchagjamfaaSe3
namespace Go.SX
open Go Go.RowKit Go.Proofs.Ytdaanchagjamfaa

theorem setV_get : ∀ (vs A : List Value) (o j : Nat), o + vs.length ≤ A.length → (setV A o vs)[j]? = if o ≤ j ∧ j < o + vs.length then vs[j - o]? else A[j]?
  | [], A, o, j, _ => by rw [if_neg (by simp only [List.length_nil]; omega)]; rfl
  | v :: vs, A, o, j, h => by
    simp only [List.length_cons] at h ⊢
    rw [setV, setV_get vs _ (o + 1) j (by simp; omega)]
    by_cases g : j = o
    · subst g
      rw [if_neg (by omega), if_pos (by omega), Nat.sub_self, List.getElem?_cons_zero, List.getElem?_set_self (by omega)]
    · by_cases g2 : o + 1 ≤ j ∧ j < o + 1 + vs.length
      · rw [if_pos g2, if_pos (by omega), show j - o = (j - (o + 1)) + 1 by omega, List.getElem?_cons_succ]
      · rw [if_neg g2, if_neg (by omega), List.getElem?_set_ne (by omega)]
theorem setV_eq (vs A : List Value) (o : Nat) (h : o + vs.length ≤ A.length) : setV A o vs = A.take o ++ vs ++ A.drop (o + vs.length) := by
  apply List.ext_getElem?
  intro j
  rw [setV_get vs A o j h]
  have hl : (A.take o).length = o := by simp; omega
  by_cases g1 : j < o
  · rw [if_neg (by omega), List.append_assoc, List.getElem?_append_left (by omega), List.getElem?_take_of_lt g1]
  · by_cases g2 : j < o + vs.length
    · rw [if_pos (by omega), List.getElem?_append_left (by rw [List.length_append]; omega), List.getElem?_append_right (by omega), hl]
    · rw [if_neg (by omega), List.getElem?_append_right (by rw [List.length_append]; omega), List.length_append, hl, List.getElem?_drop]
      congr 1; omega

theorem rows_all {p : Nat → Bool} {l : List (List AV)} : l.all (AV.allL p) = true ↔ ∀ y ∈ l, AV.allL p y = true := by simp [List.all_eq_true]
theorem chunk_all {p : Nat → Bool} (sz : Nat) : ∀ (n : Nat) (l : List AV), AV.allL p l = true → (chunk sz n l).all (AV.allL p) = true
  | 0, _, _ => rfl
  | n + 1, l, h => by
    rw [chunk, List.all_cons, chunk_all sz n (l.drop sz) (by rw [allL_get] at h ⊢; exact fun v hv => h v (List.mem_of_mem_drop hv))]
    rw [Bool.and_true, allL_get]
    rw [allL_get] at h
    exact fun v hv => h v (List.mem_of_mem_take hv)
theorem rowsOf0_all {p : Nat → Bool} {sz : Nat} {x : AV} {b : Option Blk} {rows : List (List AV)} (h : rowsOf0 sz x b = some rows) (hb : ∀ b', b = some b' → b'.all p = true) : rows.all (AV.allL p) = true := by
  unfold rowsOf0 at h
  split at h <;> (try (cases h; done))
  · simp only [Option.some.injEq] at h; subst h; rfl
  · split at h <;> (try (cases h; done))
    simp only [Option.some.injEq] at h; subst h
    have := hb _ rfl
    simp only [Blk.all, List.all_eq_true] at this ⊢
    exact fun y hy => this y (List.mem_of_mem_drop (List.mem_of_mem_take hy))
  · split at h <;> (try (cases h; done))
    simp only [Option.some.injEq] at h; subst h
    have := hb _ rfl
    simp only [Blk.all] at this
    refine chunk_all _ _ _ ?_
    rw [allL_get] at this ⊢
    exact fun v hv => this v (List.mem_of_mem_drop (List.mem_of_mem_take hv))

/-- A new row, behind what grew. -/
theorem rowsOf_all {p : Nat → Bool} {sz : Nat} {x : AV} {b : Option Blk} {rows : List (List AV)} (h : rowsOf sz x b = some rows) (hb : ∀ b', b = some b' → b'.all p = true) : rows.all (AV.allL p) = true := by
  refine rowsOf0_all h fun b' hb' => ?_
  obtain ⟨b0, rfl, rfl⟩ := Option.map_eq_some_iff.1 hb'
  exact Blk.all_peel (hb b0 rfl)
theorem grow_post {P : Program} {lk : Nat → Option Blk} {r : Nat → Loc} {nid : Nat} {w : World} {t tx ty e : TypeId} {i : TypeInfo} {z : Value} (ht : P.underlying t = some (.slice e)) (hi : P.info? e = some i) (hz : i.zero = some z) (hzs : z.cells.size = i.size)
    {base : Option Addr} {sLen sCap : Nat} {olds news : List (List AV)} (ho : ∀ y ∈ olds, y.length = i.size) (hn : ∀ y ∈ news, y.length = i.size) (hol : olds.length = sLen)
    (hold : (Builtin.firstCells i.size sLen (.slice base sLen sCap)).run P w.drew = .ok (AV.denL r olds.flatten).toArray w.drew) {x : Value} (hs : Src P i.size tx x news.length (AV.denL r news.flatten) w)
    (hsc : (olds ++ news).all (AV.allL (fun i => !inR nid i)) = true) (hg : sCap < sLen + news.length) (hfit : (sLen + news.length + (sLen + news.length) / 4 + 192) * i.bytes ≤ 281474976710656 ∧ sLen + news.length ≤ 9223372036854775807) :
    ∃ w' r', (Builtin.append_ #[t, tx] ty #[.slice base sLen sCap, x]).run P w = .ok ((AV.slice true nid 0 (sLen + news.length) (.of 0)).den r') w' ∧ Post lk r nid [(nid, .rowl e i.size (olds ++ news))] w r' w' ∧ w.heap.size ≤ (r' nid).blk ∧ (r' nid).nil = false ∧ ∀ k, (r' nid).foot k ↔ k = (r' nid).blk := by
  have hrun := run_append_grow_src (P := P) w t tx ty e i z ht hi hz base sLen sCap _ hold x news.length _ hs hg (by omega) (growslice_fits_wide hg hfit.1)
  let cap := grownCap w (sLen + news.length) sCap e
  have hcap : sLen + news.length ≤ cap := grownCap_ge _ _ _ _
  let l : Loc := ⟨w.heap.size, 0, i.size, cap, false, none, fun k => k = w.heap.size⟩
  refine ⟨w.drew.alloc (.cells ((AV.denL r olds.flatten ++ AV.denL r news.flatten).toArray ++ Builtin.zeroCells z.cells (cap - (sLen + news.length))) e), upd1 r nid l, ?_, Post.new1' rfl (fun _ h => h) (.inr rfl) ?_, by simp [upd1, l], by simp [upd1, l], by simp [upd1, l]⟩
  · rw [hrun]; simp [AV.den, upd1, Cap.den, l, cap, Loc.of]
  simp only [BRep, upd1, if_true, l]
  refine ⟨trivial, trivial, ?_, by rw [List.length_append, hol]; exact hcap, (Builtin.zeroCells z.cells (cap - (sLen + news.length))).toList, ?_, ?_⟩
  · intro y hy
    rcases List.mem_append.1 hy with h | h
    · exact ho y h
    · exact hn y h
  · refine Nat.le_of_eq ?_
    show _ = (Builtin.zeroCells z.cells (cap - (sLen + news.length))).size
    rw [size_zeroCells, hzs, List.length_append, hol]
  · rw [bk_alloc, if_pos (show w.heap.size = w.drew.heap.size from rfl)]
    have e1 := denL_congr (upd1_same (r := r) (l := ⟨w.heap.size, 0, i.size, cap, false, none, fun k => k = w.heap.size⟩)) _ (allL_flatten hsc)
    rw [← e1]
    congr 2
    apply Array.ext'
    simp [denL_map, cap]

theorem room_set {r : Nat → Loc} {id : Nat} {w : World} {ty : TypeId} {sz : Nat} {l : List (List AV)} {news : List (List AV)} (hb : BRep r id w (.rowl ty sz l)) (hn : ∀ y ∈ news, y.length = sz) {len : Nat} (hle : len ≤ l.length) (hcap : len + news.length ≤ (r id).cap) :
    BRep r id (w.setCells (r id).blk (len * sz) (AV.denL r news.flatten)) (.rowl ty sz (l.take len ++ news ++ l.drop (len + news.length))) ∧ w.there (r id).blk (len * sz) (AV.denL r news.flatten).length := by
  obtain ⟨ho, hz, hlen, hc, rest, hrest, hbk⟩ := hb
  have hfl := flatten_len sz l hlen
  have hnl := flatten_len sz news hn
  have e1 : (r id).cap * sz ≤ l.length * sz + rest.length := by
    have e0 : l.length * sz + ((r id).cap - l.length) * sz = (r id).cap * sz := by rw [← Nat.add_mul]; congr 1; omega
    omega
  have e2 : (len + news.length) * sz ≤ (r id).cap * sz := Nat.mul_le_mul_right _ hcap
  rw [Nat.add_mul] at e2
  have hA : len * sz + (AV.denL r news.flatten).length ≤ (AV.denL r l.flatten ++ rest).length := by
    rw [denL_length, hnl, List.length_append, denL_length, hfl]; omega
  refine ⟨?_, there_of_bk hbk hA⟩
  have hlk : len * sz ≤ l.length * sz := Nat.mul_le_mul_right _ hle
  refine ⟨ho, hz, ?_, ?_, rest.drop ((len + news.length - l.length) * sz), ?_, ?_⟩
  · intro y hy
    rcases List.mem_append.1 hy with h | h
    · rcases List.mem_append.1 h with h | h
      · exact hlen y (List.mem_of_mem_take h)
      · exact hn y h
    · exact hlen y (List.mem_of_mem_drop h)
  · simp; omega
  · have hl2 : (l.take len ++ news ++ l.drop (len + news.length)).length = max l.length (len + news.length) := by simp; omega
    rw [hl2, List.length_drop]
    refine Nat.le_sub_of_add_le (Nat.le_trans (Nat.le_of_eq ?_) hrest)
    rw [← Nat.add_mul]; congr 1; omega
  · rw [setCells_bk _ _ _ _ _ hbk, setV_eq _ _ _ hA]
    congr 2
    have t1 : (AV.denL r l.flatten ++ rest).take (len * sz) = AV.denL r (l.take len).flatten := by
      rw [List.take_append_of_le_length (by rw [denL_length, hfl]; exact hlk), take_flatten sz l hlen, denL_map, denL_map, List.map_take]
    have t2 : (AV.denL r l.flatten ++ rest).drop (len * sz + (AV.denL r news.flatten).length) = AV.denL r (l.drop (len + news.length)).flatten ++ rest.drop ((len + news.length - l.length) * sz) := by
      rw [denL_length, hnl, ← Nat.add_mul, List.drop_append, denL_length, hfl, ← Nat.mul_sub_right_distrib, drop_flatten sz l hlen, denL_map, denL_map, List.map_drop]
    rw [t1, t2, List.flatten_append, List.flatten_append, denL_append, denL_append]
    simp [List.append_assoc]

theorem setCells_fr (w : World) (b o : Nat) (vs : List Value) : Fr w (w.setCells b o vs) (fun k => k = b) := by
  obtain ⟨s1, s2, s3, s4, s5⟩ := setCells_same b vs o w
  exact ⟨s1, s2, s3, by omega, fun k _ hk => s5 k hk⟩
/-- The row itself was written: the same number. -/
theorem Post.same1 {lk : Nat → Option Blk} {r : Nat → Loc} {nid id : Nat} {w w' : World} {b b0 : Blk} (hid : inR nid id = false) (hlk : lk id = some b0) (hb0 : Foot r id b0 (r id).blk) (hbb : ∀ k, Foot r id b k → Foot r id b0 k) (hb : BRep r id w' b) (hf : Fr w w' (fun k => k = (r id).blk)) : Post lk r nid [(id, b)] w r w' := by
  refine ⟨fun _ _ => rfl, ?_, ⟨hf.os, hf.tape, hf.output, hf.size, fun k hk hc => hf.block k hk ?_⟩, ?_, ?_, ?_⟩
  · intro p hp; simp only [List.mem_singleton] at hp; subst hp; exact hb
  · rintro rfl; exact hc ⟨(id, b), by simp, hid, b0, hlk, hb0⟩
  · intro p hp hin _; simp only [List.mem_singleton] at hp; subst hp; rw [hid] at hin; cases hin
  · intro p hp hin _ k hk; simp only [List.mem_singleton] at hp; subst hp; exact ⟨b0, hlk, hbb k hk⟩
  · intro p hp q _ hin; simp only [List.mem_singleton] at hp; subst hp; intro; rw [hid] at hin; cases hin
/-- It goes under another number now, wherever it lies. -/
theorem Post.moved {lk : Nat → Option Blk} {r r' : Nat → Loc} {nid id : Nat} {w w' : World} {b b0 : Blk} (hid : inR nid id = false) (hr : ∀ i, inR nid i = false → r' i = r i) (hlk : lk id = some b0) (hb : BRep r' nid w' b) (hf : Fr w w' (fun k => Foot r id b0 k)) (hn : ∀ k, Foot r' nid b k → Foot r id b0 k ∨ w.heap.size ≤ k) :
    Post lk r nid [(id, .gone), (nid, b)] w r' w' := by
  have hne : id ≠ nid := inR_ne hid
  refine ⟨hr, ?_, ⟨hf.os, hf.tape, hf.output, hf.size, fun k hk hc => hf.block k hk ?_⟩, ?_, ?_, ?_⟩
  · intro p hp
    simp only [List.mem_cons, List.not_mem_nil, or_false] at hp
    rcases hp with rfl | rfl
    · trivial
    · exact hb
  · exact fun hk => hc ⟨(id, .gone), by simp, hid, b0, hlk, hk⟩
  · intro p hp hin hl k hk
    simp only [List.mem_cons, List.not_mem_nil, or_false] at hp
    rcases hp with rfl | rfl
    · rw [hid] at hin; cases hin
    · rcases hn k hk with h | h
      · refine .inr (.inl ⟨(id, .gone), by simp, hid, ?_, b0, hlk, h⟩)
        intro z hz he
        simp only [List.mem_cons, List.not_mem_nil, or_false] at hz
        rcases hz with rfl | rfl
        · rfl
        · exact absurd he.symm hne
      · exact .inl h
  · intro p hp hin hl
    simp only [List.mem_cons, List.not_mem_nil, or_false] at hp
    rcases hp with rfl | rfl
    · cases hl
    · rw [inR_self] at hin; cases hin
  · intro p hp q hq hin hin' hpq
    simp only [List.mem_cons, List.not_mem_nil, or_false] at hp hq
    rcases hp with rfl | rfl
    · rw [hid] at hin; cases hin
    · rcases hq with rfl | rfl
      · rw [hid] at hin'; cases hin'
      · exact absurd rfl hpq

theorem olds_cells {P : Program} {r : Nat → Loc} {w : World} {sz : Nat} {c : Bool} {id e n : Nat} {cp : Cap} {rows : List (List AV)} (h : RowsIn r w sz (.slice c id e n cp) rows) :
    (Builtin.firstCells sz n ((AV.slice c id e n cp).den r)).run P w.drew = .ok (AV.denL r rows.flatten).toArray w.drew := by
  have hn : rows.length = n := h.len
  have hl : (AV.denL r rows.flatten).length = n * sz := by rw [denL_length, flatten_len sz rows h.each, hn]
  exact run_firstCells_some w.drew sz n _ n _ _ hl (fun j u hu => by rw [add_off]; exact h.there _ _ _ _ _ rfl j u hu)

theorem appendA_ok {P : Program} {ts : List TypeId} {s x : AV} {sb xb : Option Blk} {nid : Nat} {eff : Eff} {lk : Nat → Option Blk} (h : appendA P ts s x sb xb nid = some eff) (hp : eff.pre = true) {r : Nat → Loc} {w : World}
    (hs : ∀ c id e n cp b, s = .slice c id e n cp → sb = some b → BRep r id w b ∧ inR nid id = false ∧ lk id = some b) (hx : ∀ c id e n cp b, x = .slice c id e n cp → xb = some b → BRep r id w b)
    (hsa : ∀ b, sb = some b → b.all (fun i => !inR nid i) = true) (hxa : ∀ b, xb = some b → b.all (fun i => !inR nid i) = true) (ty : TypeId) :
    ∃ w' r', (Builtin.append_ ts.toArray ty #[s.den r, x.den r]).run P w = .ok (eff.val.den r') w' ∧ Post lk r nid eff.upd w r' w' := by
  unfold appendA at h
  split at h <;> (try (cases h; done))
  rename_i t tx
  split at h <;> (try (cases h; done))
  rename_i e e' ht htx
  split at h <;> (try (cases h; done))
  rename_i i hi
  split at h <;> (try (cases h; done))
  rename_i z hz
  split at h <;> (try (cases h; done))
  rename_i hzs
  have hzs : z.cells.size = i.size := by simpa using hzs
  split at h <;> (try (cases h; done))
  rename_i news hnews
  split at h <;> (try (cases h; done))
  rename_i hat
  obtain ⟨hR, hxk⟩ := rowsOf_ok (r := r) (w := w) hnews hx
  have hsrc := Src_of (P := P) hR hxk htx hat
  have hnall := rowsOf_all hnews hxa
  split at h <;> (try (cases h; done))
  · -- nil
    split at h <;> (try (cases h; done))
    · simp only [Option.some.injEq] at h; subst h
      refine ⟨w, r, ?_, Post.id lk r nid w⟩
      have hcl := hsrc.cells
      have hln := hsrc.len w
      simp only [List.length_nil] at hcl hln
      rcases hsrc.kind with ⟨e2, hk⟩ | hk
      · simp [Builtin.append_, run_underlying ht, run_underlying hk, sizeOf, typeInfo, hi, hln, hcl, AV.den]
      · rw [htx] at hk; cases hk
    · rename_i y ys _
      simp only [newRowE, Option.some.injEq] at h; subst h
      simp only [decide_eq_true_eq] at hp
      obtain ⟨w', r', h1, h2, _⟩ := grow_post (P := P) (lk := lk) (r := r) (nid := nid) (w := w) (t := t) (tx := tx) (ty := ty) ht hi hz hzs (base := none) (sLen := 0) (sCap := 0) (olds := []) (news := y :: ys) (by simp) hR.each rfl
        (run_firstCells_none w.drew i.size 0 0 0) hsrc (by simpa using hnall) (by simp) (by simpa using hp)
      refine ⟨w', r', ?_, by simpa using h2⟩
      have e1 : (0 : Nat) + (y :: ys).length = (y :: ys).length := Nat.zero_add _
      rw [e1] at h1
      exact h1
  · -- all of what it holds
    rename_i c id len ty' sz l
    obtain ⟨hb, hid, hlk⟩ := hs c id 0 len (.of 0) _ rfl rfl
    split at h <;> (try (cases h; done))
    rename_i hc
    simp only [Bool.and_eq_true, beq_iff_eq] at hc
    obtain ⟨rfl, rfl⟩ := hc
    have hb2 := hb
    obtain ⟨ho, hesz, hlen, hcap, rest, hrest, hbk⟩ := hb2
    have haddr : (AV.slice c id 0 len (.of 0)).den r = .slice (some ⟨(r id).blk, 0, none⟩) len (r id).cap := by simp [AV.den, Cap.den, ho]
    split at h
    · rename_i hk hd
      simp only [Option.some.injEq] at h; subst h
      simp only [Bool.and_eq_true, decide_eq_true_eq, bne_iff_ne] at hd
      have hroom : len + news.length ≤ (r id).cap := by have := hd.1; omega
      obtain ⟨h1, h2⟩ := room_set hb hR.each (len := len) (by have := hd.1; omega) hroom
      have hrun := run_append_room_src (P := P) w t tx ty ty' i ht hi (r id).blk 0 len (r id).cap (x.den r) _ _ hsrc hroom (fun j hj => by rw [Nat.zero_add]; exact (h2 j hj).1) (fun j hj => by rw [Nat.zero_add]; exact (h2 j hj).2)
      rw [Nat.zero_add] at hrun
      refine ⟨w.setCells (r id).blk (len * i.size) (AV.denL r news.flatten), r, by rw [haddr, hrun]; simp [AV.den, Cap.den, ho], ?_⟩
      exact Post.same1 hid hlk rfl (fun _ h => h) h1 (setCells_fr _ _ _ _)
    · simp only [Option.some.injEq] at h; subst h
      simp only [decide_eq_true_eq] at hp
      obtain ⟨rfl, hfit⟩ := hp
      by_cases hroom : l.length + news.length ≤ (r id).cap
      · obtain ⟨h1, h2⟩ := room_set hb hR.each (len := l.length) (Nat.le_refl _) hroom
        have hrun := run_append_room_src (P := P) w t tx ty ty' i ht hi (r id).blk 0 l.length (r id).cap (x.den r) _ _ hsrc hroom (fun j hj => by rw [Nat.zero_add]; exact (h2 j hj).1) (fun j hj => by rw [Nat.zero_add]; exact (h2 j hj).2)
        rw [Nat.zero_add] at hrun
        refine ⟨w.setCells (r id).blk (l.length * i.size) (AV.denL r news.flatten), upd1 r nid (r id), by rw [haddr, hrun]; simp [AV.den, Cap.den, ho, upd1], ?_⟩
        rw [List.take_length, List.drop_of_length_le (by omega), List.append_nil] at h1
        refine Post.moved hid (fun j hj => by unfold upd1; rw [if_neg (inR_ne hj)]) hlk ?_ (setCells_fr _ _ _ _) (fun k hk => .inl (by have hk : k = (upd1 r nid (r id) nid).blk := hk; show k = (r id).blk; simpa [upd1] using hk))
        have hall : (Blk.rowl ty' i.size (l ++ news)).all (fun j => !inR nid j) = true := by
          have := hsa _ rfl
          simp only [Blk.all, List.all_append, Bool.and_eq_true] at this ⊢
          exact ⟨this, hnall⟩
        obtain ⟨b1, b2, b3, b4, rest', b5, b6⟩ := h1
        refine ⟨by simp [upd1, b1], by simp [upd1, b2], b3, by simp [upd1]; simpa using b4, rest', by simp [upd1]; simpa using b5, ?_⟩
        rw [← denL_congr (upd1_same (l := r id)) _ (allL_flatten hall)]
        simp only [upd1, if_true]
        exact b6
      · have hold := olds_cells (P := P) (sz := i.size) (c := c) (id := id) (e := 0) (n := l.length) (cp := .of 0) (rows := l) (r := r) (w := w) ⟨rfl, hlen, fun c' id' e' len' cp' hx' j u hu => by
            simp only [AV.slice.injEq] at hx'
            obtain ⟨_, rfl, rfl, _, _⟩ := hx'
            rw [ho, Nat.zero_mul, Nat.zero_add, bk_cells_cell hbk]
            rw [List.getElem?_append_left (List.getElem?_eq_some_iff.1 hu).1]; exact hu⟩
        rw [haddr] at hold
        obtain ⟨w', r', h1, h2, h3, _⟩ := grow_post (P := P) (lk := lk) (r := r) (nid := nid) (w := w) (t := t) (tx := tx) (ty := ty) ht hi hz hzs (sCap := (r id).cap) (olds := l) (news := news) hlen hR.each rfl hold hsrc
          (by
            have := hsa _ rfl
            simp only [Blk.all] at this
            rw [List.all_append, this, hnall]; rfl) (by omega) hfit
        refine ⟨w', r', by rw [haddr]; exact h1, ?_⟩
        refine Post.moved hid h2.same hlk (h2.rep (nid, .rowl ty' i.size (l ++ news)) (by simp)) ⟨h2.fr.os, h2.fr.tape, h2.fr.output, h2.fr.size, fun k hk _ => h2.fr.block k hk ?_⟩ (fun k hk => .inr (by have hk : k = (r' nid).blk := hk; omega))
        rintro ⟨p, hpm, hin, _⟩
        simp only [List.mem_singleton] at hpm; subst hpm
        rw [inR_self] at hin; cases hin
  · -- of a known room
    rename_i id e0 len cp b
    obtain ⟨hb, hid, hlk⟩ := hs true id e0 len (.lit cp) _ rfl rfl
    split at h <;> (try (cases h; done))
    · rename_i hroom
      have hroom : ¬ len + news.length ≤ cp := by simpa using hroom
      split at h <;> (try (cases h; done))
      rename_i olds holds
      simp only [newRowE, Option.some.injEq] at h; subst h
      simp only [decide_eq_true_eq] at hp
      obtain ⟨hRo, _⟩ := rowsOf_ok (r := r) (w := w) holds (fun c' id' e' n' cp' b' he hbb => (hs c' id' e' n' cp' b' he hbb).1)
      have hol : olds.length = len := hRo.len
      have hall : (olds ++ news).all (AV.allL fun i => !inR nid i) = true := by
        rw [List.all_append, rowsOf_all holds hsa, hnall]; rfl
      obtain ⟨w', r', h1, h2, _⟩ := grow_post (P := P) (lk := lk) (r := r) (nid := nid) (w := w) (t := t) (tx := tx) (ty := ty) ht hi hz hzs (sCap := cp) (olds := olds) (news := news) hRo.each hR.each hol (olds_cells hRo) hsrc hall (by omega) (by rw [List.length_append, hol] at hp; exact hp)
      refine ⟨w', r', ?_, h2⟩
      rw [List.length_append, hol]
      exact h1
    · rename_i hroom
      have hroom : len + news.length ≤ cp := by simpa using hroom
      split at h <;> (try (cases h; done))
      rename_i ty' sz l
      split at h <;> (try (cases h; done))
      rename_i hc
      simp only [Bool.and_eq_true, beq_iff_eq, decide_eq_true_eq] at hc
      obtain ⟨⟨rfl, rfl⟩, hfit⟩ := hc
      simp only [Option.some.injEq] at h; subst h
      have hb2 := hb
      obtain ⟨ho, hesz, hlen, hcap, rest, hrest, hbk⟩ := hb2
      obtain ⟨h1, h2⟩ := room_set hb hR.each (len := e0 + len) (by omega) (by omega)
      rw [Nat.add_mul] at h1 h2
      have hrun := run_append_room_src (P := P) w t tx ty ty' i ht hi (r id).blk (e0 * i.size) len cp (x.den r) _ _ hsrc hroom (fun j hj => (h2 j hj).1) (fun j hj => (h2 j hj).2)
      refine ⟨_, r, by simp only [AV.den, Cap.den]; rw [ho, hesz, Nat.zero_add, hrun], ?_⟩
      exact Post.same1 hid hlk rfl (fun _ h => h) h1 (setCells_fr _ _ _ _)

end Go.SX
