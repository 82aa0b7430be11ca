/- A function gone into within a drawn region: what it comes to, as a contract. -/
import Derived.Test.YtdaanchagjamfaaNpq
namespace Go.SX
open Go Go.RowKit Go.Proofs.Ytdaanchagjamfaa

mutual
/-- The same value, its blocks under other numbers. -/
def AV.mapId (q : Nat → Nat) : AV → AV
  | .ptr id e j => .ptr (q id) e j
  | .slice c id e n cp => .slice c (q id) e n cp
  | .slz id e n cp => .slz (q id) e n cp
  | .map id => .map (q id)
  | .yld id => .yld (q id)
  | .fn f l => .fn f (AV.mapIdL q l)
  | .mth f l => .mth f (AV.mapIdL q l)
  | .alt b v w => .alt b (v.mapId q) (w.mapId q)
  | .ifc t v => .ifc t (v.mapId q)
  | .opt b v => .opt b (v.mapId q)
  | .agg l => .agg (AV.mapIdL q l)
  | .tup l => .tup (AV.mapIdL q l)
  | v => v
def AV.mapIdL (q : Nat → Nat) : List AV → List AV
  | [] => []
  | v :: l => v.mapId q :: AV.mapIdL q l
end
mutual
theorem den_mapId {p : Nat → Bool} {q : Nat → Nat} {r r' : Nat → Loc} (h : ∀ id, p id = true → r' (q id) = r id) : ∀ v : AV, v.all p = true → (v.mapId q).den r' = v.den r
  | .int .., _ | .bool .., _ | .addr .., _ | .nilp, _ | .nils, _ | .nilm, _ | .nilf, _ | .nili, _ | .str .., _ | .raw .., _ => rfl
  | .ptr id _ _, hv => by simp only [AV.mapId, AV.den]; rw [h id hv]
  | .slice _ id _ _ _, hv => by simp only [AV.mapId, AV.den]; rw [h id hv]
  | .slz id _ _ _, hv => by simp only [AV.mapId, AV.den]; rw [h id hv]
  | .map id, hv => by simp only [AV.mapId, AV.den]; rw [h id hv]
  | .yld id, hv => by simp only [AV.mapId, AV.den]; rw [h id hv]
  | .fn _ cap, hv => by simp only [AV.mapId, AV.den]; rw [den_mapIdL h cap hv]
  | .mth _ l, hv => by simp only [AV.mapId, AV.den]; rw [den_mapIdL h l hv]
  | .alt _ v w, hv => by
    simp only [AV.all, Bool.and_eq_true] at hv
    simp only [AV.mapId, AV.den]; rw [den_mapId h v hv.1, den_mapId h w hv.2]
  | .ifc _ v, hv => by simp only [AV.mapId, AV.den]; rw [den_mapId h v hv]
  | .opt _ v, hv => by simp only [AV.mapId, AV.den]; rw [den_mapId h v hv]
  | .agg l, hv => by simp only [AV.mapId, AV.den]; rw [den_mapIdL h l hv]
  | .tup l, hv => by simp only [AV.mapId, AV.den]; rw [den_mapIdL h l hv]
theorem den_mapIdL {p : Nat → Bool} {q : Nat → Nat} {r r' : Nat → Loc} (h : ∀ id, p id = true → r' (q id) = r id) : ∀ l : List AV, AV.allL p l = true → AV.denL r' (AV.mapIdL q l) = AV.denL r l
  | [], _ => rfl
  | v :: l, hv => by
    simp only [AV.allL, Bool.and_eq_true] at hv
    simp only [AV.mapIdL, AV.denL]; rw [den_mapId h v hv.1, den_mapIdL h l hv.2]
end
theorem mapIdL_map (q : Nat → Nat) : ∀ l, AV.mapIdL q l = l.map (AV.mapId q)
  | [] => rfl
  | v :: l => by rw [AV.mapIdL, mapIdL_map q l]; rfl
def Blk.mapId (q : Nat → Nat) : Blk → Blk
  | .cells z t l => .cells z t (AV.mapIdL q l)
  | .rowl t z l => .rowl t z (l.map (AV.mapIdL q))
  | .cellsR z t l => .cellsR z t (AV.mapIdL q l)
  | .rowlR t z l => .rowlR t z (l.map (AV.mapIdL q))
  | .lp s pe l ps as body => .lp s pe (AV.mapIdL q l) ps as body
  | b => b
theorem mapIdL_flatten (q : Nat → Nat) : ∀ l : List (List AV), (l.map (AV.mapIdL q)).flatten = AV.mapIdL q l.flatten
  | [] => rfl
  | x :: l => by rw [List.map_cons, List.flatten_cons, mapIdL_flatten q l, List.flatten_cons, mapIdL_map, mapIdL_map, mapIdL_map, List.map_append]
theorem Blk.mapId_rep {p : Nat → Bool} {q : Nat → Nat} {r r' : Nat → Loc} (h : ∀ id, p id = true → r' (q id) = r id) {id : Nat} {w : World} (hid : r' (q id) = r id) : ∀ {b : Blk}, b.all p = true → BRep r id w b → BRep r' (q id) w (b.mapId q)
  | .cells z t l, ha, hb => by
    simp only [Blk.mapId, BRep] at hb ⊢
    rw [hid, den_mapIdL h l ha]; exact hb
  | .rowl t z l, ha, hb => by
    simp only [Blk.mapId, BRep] at hb ⊢
    rw [hid, mapIdL_flatten, den_mapIdL h _ (allL_flatten ha), List.length_map]
    refine ⟨hb.1, hb.2.1, fun x hx => ?_, hb.2.2.2⟩
    obtain ⟨y, hy, rfl⟩ := List.mem_map.1 hx
    rw [mapIdL_map, List.length_map]; exact hb.2.2.1 y hy
  | .cellsR z t l, ha, hb => by
    simp only [Blk.mapId, BRep] at hb ⊢
    rw [hid, den_mapIdL h l ha]; exact hb
  | .rowlR t z l, ha, hb => by
    simp only [Blk.mapId, BRep] at hb ⊢
    rw [hid, mapIdL_flatten, den_mapIdL h _ (allL_flatten ha), List.length_map]
    refine ⟨hb.1, hb.2.1, fun x hx => ?_, hb.2.2.2⟩
    obtain ⟨y, hy, rfl⟩ := List.mem_map.1 hx
    rw [mapIdL_map, List.length_map]; exact hb.2.2.1 y hy
  | .arr z n get, _, hb => by
    simp only [Blk.mapId, BRep] at hb ⊢
    rw [hid]
    refine ⟨hb.1, hb.2.1, fun i hi => ⟨(hb.2.2 i hi).1, fun j v hv => ?_⟩⟩
    obtain ⟨h1, h2⟩ := (hb.2.2 i hi).2 j v hv
    exact ⟨h1, by rw [h2, den_congr (p := fun _ => false) (r := r) (r' := r') (fun _ hf => by cases hf) v h1]⟩
  | .gone, _, _ => trivial
  | .lp s pe l ps as body, ha, hb => by
    simp only [Blk.mapId, BRep] at hb ⊢
    rw [hid, den_mapIdL h l ha]; exact hb
  | .dfr, _, hb => by
    simp only [Blk.mapId, BRep] at hb ⊢
    rw [hid]; exact hb
  | .mp .., _, hb => by
    simp only [Blk.mapId, BRep] at hb ⊢
    rw [hid]; exact hb
  | .rowz o ty z n get, _, hb => by
    simp only [Blk.mapId, BRep, RowzR] at hb ⊢
    rw [hid]
    obtain ⟨h1, h2, h3, h4, h5, h6⟩ := hb
    refine ⟨h1, h2, h3, h4, h5, fun hn => ?_⟩
    obtain ⟨h7, rest, h8, h9⟩ := h6 hn
    exact ⟨h7, rest, h8, by rw [h9, denL_congr (p := fun _ => false) (r := r) (r' := r') (fun _ hf => by cases hf) _ (rowsTo_flat fun i hi => flatR_all (h5 i hi).2)]⟩
  | .frz z n get, _, hb => by
    simp only [Blk.mapId, BRep] at hb ⊢
    rw [hid]
    exact ⟨hb.1, hb.2.1, hb.2.2.keep fun _ _ => rfl⟩
  | .frz2 o ty z n len get, _, hb => by
    simp only [Blk.mapId, BRep] at hb ⊢
    rw [hid]
    obtain ⟨h1, h2, h3, inner, h4, h5, h6, h7⟩ := hb
    exact ⟨h1, h2, h3, inner, h4, h5, fun i hi => ⟨(h6 i hi).1, (h6 i hi).2.1, (h6 i hi).2.2.keep fun _ _ => rfl⟩, h7⟩
  | .mpf k z has get, _, hb => by
    simp only [Blk.mapId, BRep] at hb ⊢
    rw [hid]
    obtain ⟨es, cl, h1, h2⟩ := hb
    exact ⟨es, cl, h1, h2.to⟩
theorem Blk.mapId_back {p : Nat → Bool} {q : Nat → Nat} {r r' : Nat → Loc} (h : ∀ id, p id = true → r' (q id) = r id) {id : Nat} {w : World} (hid : r' (q id) = r id) : ∀ {b : Blk}, b.all p = true → BRep r' (q id) w (b.mapId q) → BRep r id w b
  | .cells z t l, ha, hb => by
    simp only [Blk.mapId, BRep] at hb ⊢
    rw [hid, den_mapIdL h l ha] at hb; exact hb
  | .rowl t z l, ha, hb => by
    simp only [Blk.mapId, BRep] at hb ⊢
    rw [hid, mapIdL_flatten, den_mapIdL h _ (allL_flatten ha), List.length_map] at hb
    refine ⟨hb.1, hb.2.1, fun x hx => ?_, hb.2.2.2⟩
    have := hb.2.2.1 _ (List.mem_map_of_mem hx)
    rw [mapIdL_map, List.length_map] at this; exact this
  | .cellsR z t l, ha, hb => by
    simp only [Blk.mapId, BRep] at hb ⊢
    rw [hid, den_mapIdL h l ha] at hb; exact hb
  | .rowlR t z l, ha, hb => by
    simp only [Blk.mapId, BRep] at hb ⊢
    rw [hid, mapIdL_flatten, den_mapIdL h _ (allL_flatten ha), List.length_map] at hb
    refine ⟨hb.1, hb.2.1, fun x hx => ?_, hb.2.2.2⟩
    have := hb.2.2.1 _ (List.mem_map_of_mem hx)
    rw [mapIdL_map, List.length_map] at this; exact this
  | .arr z n get, _, hb => by
    simp only [Blk.mapId, BRep] at hb ⊢
    rw [hid] at hb
    refine ⟨hb.1, hb.2.1, fun i hi => ⟨(hb.2.2 i hi).1, fun j v hv => ?_⟩⟩
    obtain ⟨h1, h2⟩ := (hb.2.2 i hi).2 j v hv
    exact ⟨h1, by rw [h2, den_congr (p := fun _ => false) (r := r') (r' := r) (fun _ hf => by cases hf) v h1]⟩
  | .gone, _, _ => trivial
  | .lp s pe l ps as body, ha, hb => by
    simp only [Blk.mapId, BRep] at hb ⊢
    rw [hid, den_mapIdL h l ha] at hb; exact hb
  | .dfr, _, hb => by
    simp only [Blk.mapId, BRep] at hb ⊢
    rw [hid] at hb; exact hb
  | .mp .., _, hb => by
    simp only [Blk.mapId, BRep] at hb ⊢
    rw [hid] at hb; exact hb
  | .rowz o ty z n get, _, hb => by
    simp only [Blk.mapId, BRep, RowzR] at hb ⊢
    rw [hid] at hb
    obtain ⟨h1, h2, h3, h4, h5, h6⟩ := hb
    refine ⟨h1, h2, h3, h4, h5, fun hn => ?_⟩
    obtain ⟨h7, rest, h8, h9⟩ := h6 hn
    exact ⟨h7, rest, h8, by rw [h9, denL_congr (p := fun _ => false) (r := r') (r' := r) (fun _ hf => by cases hf) _ (rowsTo_flat fun i hi => flatR_all (h5 i hi).2)]⟩
  | .frz z n get, _, hb => by
    simp only [Blk.mapId, BRep] at hb ⊢
    rw [hid] at hb
    exact ⟨hb.1, hb.2.1, hb.2.2.keep fun _ _ => rfl⟩
  | .frz2 o ty z n len get, _, hb => by
    simp only [Blk.mapId, BRep] at hb ⊢
    rw [hid] at hb
    obtain ⟨h1, h2, h3, inner, h4, h5, h6, h7⟩ := hb
    exact ⟨h1, h2, h3, inner, h4, h5, fun i hi => ⟨(h6 i hi).1, (h6 i hi).2.1, (h6 i hi).2.2.keep fun _ _ => rfl⟩, h7⟩
  | .mpf k z has get, _, hb => by
    simp only [Blk.mapId, BRep] at hb ⊢
    rw [hid] at hb
    obtain ⟨es, cl, h1, h2⟩ := hb
    exact ⟨es, cl, h1, h2.to⟩
theorem Blk.mapId_own (q : Nat → Nat) (b : Blk) : (b.mapId q).own = b.own := by cases b <;> rfl
theorem Blk.mapId_live (q : Nat → Nat) (b : Blk) : (b.mapId q).live = b.live := by cases b <;> rfl

/-- The one end of a run without a choice. -/
def oneLeaf : Tree → Option (Bool × Bool × AV × List (Nat × Blk))
  | .leaf v h => some (true, true, v, h)
  | .need b t => match oneLeaf t with
    | some (_, p, v, h) => some (false, b && p, v, h)
    | none => none
  | _ => none
theorem oneLeaf_den : ∀ {t : Tree} {k p : Bool} {v : AV} {h : List (Nat × Blk)}, oneLeaf t = some (k, p, v, h) → p = true → t.den fun u g => u = v ∧ g = h
  | .leaf u g, k, p, v, h, e, _ => by
    simp only [oneLeaf, Option.some.injEq, Prod.mk.injEq] at e
    exact ⟨e.2.2.1, e.2.2.2⟩
  | .need b t, k, p, v, h, e, hp => by
    simp only [oneLeaf] at e
    split at e <;> (try (cases e; done))
    rename_i k' p' v' h' ht
    simp only [Option.some.injEq, Prod.mk.injEq] at e
    obtain ⟨_, rfl, rfl, rfl⟩ := e
    simp only [Bool.and_eq_true] at hp
    exact ⟨hp.1, oneLeaf_den ht hp.2⟩

def posOf : List Nat → Nat → Nat → Nat
  | [], _, k => k
  | x :: l, id, k => match x == id with
    | true => k
    | false => posOf l id (k + 1)
def newId (N nid : Nat) (news : List Nat) (id : Nat) : Nat := match decide (id < N) with
  | true => id
  | false => nid + posOf news id 0
def zipH (pr : Blk → Blk) : List Nat → List Blk → List (Nat × Blk)
  | i :: l, b :: bs => (i, pr b) :: zipH pr l bs
  | _, _ => []
def prep (rw : Bool) (b : Blk) : Blk := match rw with
  | true => b
  | false => b.ro
def okId (N nid : Nat) (news : List Nat) (id : Nat) : Bool := (decide (id < N) && !inR nid id) || news.contains id
/-- Old blocks, as they are now: those that were one's own. -/
def oldUpd (N nid : Nat) (news : List Nat) (h : List (Nat × Blk)) : List (Nat × Blk) → List (Nat × Blk)
  | [] => []
  | (id, b) :: l => match b.own with
    | true => (id, match look h id with | some b' => b'.mapId (newId N nid news) | none => .gone) :: oldUpd N nid news h l
    | false => oldUpd N nid news h l
def newUpd (N nid : Nat) (news : List Nat) (h : List (Nat × Blk)) : List Nat → Option (List (Nat × Blk))
  | [] => some []
  | id :: l => match look h id, newUpd N nid news h l with
    | some b, some u => (match b.own with
      | true => some ((newId N nid news id, b.mapId (newId N nid news)) :: u)
      | false => none)
    | _, _ => none
def nodupB : List Nat → Bool
  | [] => true
  | x :: l => !(l.contains x) && nodupB l
def maxId (l : List Nat) : Nat := l.foldl (fun a b => if a ≤ b then b else a) 0
def callC (rw : Bool) (E : Env) (H : Hnd) (fn : Func) : FC := fun args nid all => (all, fun blks =>
  let N := (if maxId all ≤ nid then nid else maxId all) + 1000
  let hp := zipH (prep rw) all blks
  match AV.allL (· < N) args && hp.all (fun p => decide (p.1 < N) && p.2.all (· < N)) with
  | false => none
  | true => match oneLeaf (inFn E H fn args hp N fun v h _ => .leaf v h) with
    | none => none
    | some (k, p, v, h) =>
      let old := hp.flatMap fun q => match q.2.own with | true => (match look h q.1 with | some b => b.idsFrom N | none => []) | false => []
      let news := reach N h 3 (addTo (v.idsFrom N ++ old) [])
      match newUpd N nid news h news with
      | none => none
      | some u => match nodupB news && (decide (news.length ≤ 8) && (v.all (okId N nid news) && (news.all (fun id => decide (N ≤ id) && (match look h id with | some b => b.plain && b.all (okId N nid news) | none => false)) &&
          hp.all fun q => !q.2.own || (q.2.plain && (match look h q.1 with | some b => b.plain && b.all (okId N nid news) | none => true))))) with
        | true => some ⟨k, p, v.mapId (newId N nid news), oldUpd N nid news h hp ++ u⟩
        | false => none)

theorem posOf_spec : ∀ (l : List Nat) (id k : Nat), id ∈ l → ∃ i, posOf l id k = k + i ∧ i < l.length ∧ l[i]? = some id
  | x :: l, id, k, h => by
    simp only [posOf]
    split
    · rename_i hx; have : x = id := by simpa using hx
      subst this; exact ⟨0, rfl, by simp, rfl⟩
    · rename_i hx
      have hne : x ≠ id := by simpa using hx
      obtain ⟨i, h1, h2, h3⟩ := posOf_spec l id (k + 1) (by rcases List.mem_cons.1 h with rfl | h; exact absurd rfl hne; exact h)
      exact ⟨i + 1, by rw [h1]; omega, by simpa using h2, by simpa using h3⟩
theorem zipH_mem {pr : Blk → Blk} : ∀ {l : List Nat} {bs : List Blk} {lk : Nat → Option Blk}, l.map lk = bs.map some → ∀ p ∈ zipH pr l bs, ∃ b, lk p.1 = some b ∧ p.2 = pr b
  | [], [], _, _, p, hp => by simp [zipH] at hp
  | i :: l, b :: bs, lk, h, p, hp => by
    simp only [List.map_cons, List.cons.injEq] at h
    simp only [zipH] at hp
    rcases List.mem_cons.1 hp with rfl | hp
    · exact ⟨b, h.1, rfl⟩
    · exact zipH_mem h.2 p hp
  | [], _ :: _, _, h, _, _ => by simp at h
  | _ :: _, [], _, h, _, _ => by simp at h
theorem oldUpd_mem {N nid : Nat} {news : List Nat} {h : List (Nat × Blk)} : ∀ {l : List (Nat × Blk)} {p : Nat × Blk}, p ∈ oldUpd N nid news h l → ∃ b, (p.1, b) ∈ l ∧ b.own = true ∧ p.2 = (match look h p.1 with | some b' => b'.mapId (newId N nid news) | none => .gone)
  | [], p, hp => by simp [oldUpd] at hp
  | (id, b) :: l, p, hp => by
    simp only [oldUpd] at hp
    split at hp
    · rename_i ho
      rcases List.mem_cons.1 hp with rfl | hp
      · exact ⟨b, List.mem_cons_self, ho, rfl⟩
      · obtain ⟨b', h1, h2⟩ := oldUpd_mem hp
        exact ⟨b', List.mem_cons_of_mem _ h1, h2⟩
    · obtain ⟨b', h1, h2⟩ := oldUpd_mem hp
      exact ⟨b', List.mem_cons_of_mem _ h1, h2⟩
theorem mem_oldUpd {N nid : Nat} {news : List Nat} {h : List (Nat × Blk)} : ∀ {l : List (Nat × Blk)} {id : Nat} {b : Blk}, (id, b) ∈ l → b.own = true → ∃ b', (id, b') ∈ oldUpd N nid news h l
  | (id', b') :: l, id, b, hm, ho => by
    simp only [oldUpd]
    rcases List.mem_cons.1 hm with e | hm
    · simp only [Prod.mk.injEq] at e; obtain ⟨rfl, rfl⟩ := e
      rw [ho]; exact ⟨_, List.mem_cons_self⟩
    · obtain ⟨b'', hm'⟩ := mem_oldUpd (N := N) (nid := nid) (news := news) (h := h) hm ho
      split
      · exact ⟨b'', List.mem_cons_of_mem _ hm'⟩
      · exact ⟨b'', hm'⟩
theorem newUpd_mem {N nid : Nat} {news : List Nat} {h : List (Nat × Blk)} : ∀ {l : List Nat} {u : List (Nat × Blk)}, newUpd N nid news h l = some u → ∀ p ∈ u, ∃ id b, id ∈ l ∧ look h id = some b ∧ b.own = true ∧ p = (newId N nid news id, b.mapId (newId N nid news))
  | [], u, e, p, hp => by simp only [newUpd, Option.some.injEq] at e; subst e; cases hp
  | i :: l, u, e, p, hp => by
    simp only [newUpd] at e
    split at e <;> (try (cases e; done))
    rename_i b u' hb hu
    split at e <;> (try (cases e; done))
    rename_i ho
    simp only [Option.some.injEq] at e; subst e
    rcases List.mem_cons.1 hp with rfl | hp
    · exact ⟨i, b, List.mem_cons_self, hb, ho, rfl⟩
    · obtain ⟨id, b', h1, h2⟩ := newUpd_mem hu p hp
      exact ⟨id, b', List.mem_cons_of_mem _ h1, h2⟩
theorem foot_ro {r : Nat → Loc} {id k : Nat} {b : Blk} : Foot r id b.ro k ↔ Foot r id b k := by cases b <;> exact Iff.rfl
theorem foot_prep {rw_ : Bool} {r : Nat → Loc} {id k : Nat} {b : Blk} : Foot r id (prep rw_ b) k ↔ Foot r id b k := by
  cases rw_
  · exact foot_ro
  · exact Iff.rfl
theorem Blk.mapId_plain {q : Nat → Nat} {b : Blk} (h : b.plain = true) : (b.mapId q).plain = true := by cases b <;> first | rfl | cases h
theorem prep_rep {rw_ : Bool} {r : Nat → Loc} {id : Nat} {w : World} {b : Blk} (h : BRep r id w b) : BRep r id w (prep rw_ b) := by
  cases rw_
  · exact h.ro
  · exact h
theorem callC_ok {E : Env} (hE : E.Sound) {H : Hnd} {rw_ : Bool} {f : FuncId} {fn : Func} {c : Code} (hf : E.P.funcs[f]? = some fn) (hb : fn.body = some c) (hgo : goFn E.P f = true) (hl : ∀ G, G.rd = none → HndOk E G H c) : FSound E.P f (callC rw_ E H fn) := by
  refine ⟨hgo, fun args nid all r w lk blks eff hH hargs hv he hp => ?_⟩
  simp only [callC] at hv he
  generalize (if maxId all ≤ nid then nid else maxId all) + 1000 = N at he
  generalize hhp : zipH (prep rw_) all blks = hp0 at he
  split at he <;> (try (cases he; done))
  rename_i hsc
  simp only [Bool.and_eq_true, List.all_eq_true, decide_eq_true_eq] at hsc
  obtain ⟨hsa, hsb⟩ := hsc
  split at he <;> (try (cases he; done))
  rename_i k pp v h hone
  split at he <;> (try (cases he; done))
  rename_i u hu
  split at he <;> (try (cases he; done))
  rename_i hch
  generalize reach N h 3 _ = news at *
  simp only [Option.some.injEq] at he; subst he
  simp only at hp
  simp only [Bool.and_eq_true, List.all_eq_true, decide_eq_true_eq, Bool.or_eq_true, Bool.not_eq_true'] at hch
  obtain ⟨_, hlen, hva, hna, hoa⟩ := hch
  have hz : ∀ id b, look hp0 id = some b → ∃ b0, lk id = some b0 ∧ b = prep rw_ b0 := by
    intro id b hlk
    have := look_memb hlk
    rw [← hhp] at this
    exact zipH_mem hv _ this
  have hI0 : HInv ⟨w, fun k => ∃ id b, look hp0 id = some b ∧ b.own = true ∧ Foot r id b k, N, r, none⟩ N r hp0 w := by
    refine ⟨fun id b hlk => ?_, fun id id' b b' h1 h2 hne ho => ?_, fun _ _ => rfl, Fr.refl _ _, fun id b hlk ho k hk => .inl ⟨id, b, hlk, ho, hk⟩, fun id b hlk => ?_, fun id b hlk => ?_⟩
    · obtain ⟨b0, h1, rfl⟩ := hz id b hlk
      exact prep_rep (hH.rep id b0 h1)
    · obtain ⟨b0, k1, rfl⟩ := hz id b h1
      obtain ⟨b0', k2, rfl⟩ := hz id' b' h2
      cases rw_
      · simp only [prep] at ho
        intro k hk hk'
        refine hH.sep id id' b0 b0' k1 k2 hne ?_ ?_ k (foot_ro.1 hk) (foot_ro.1 hk')
        · rw [← Blk.own_ro b0 ho]; exact ho
        · rw [← Blk.live_ro]; exact look_live h2
      · exact hH.sep id id' b0 b0' k1 k2 hne ho (look_live h2)
    · exact (hsb _ (look_memb hlk)).1
    · exact (hsb _ (look_memb hlk)).2
  refine (fn_calls hE hf hb (hl _ rfl) rfl hI0 hsa (oneLeaf_den hone hp)).mono ?_
  rintro e w' ⟨v', h', nid', r', ⟨rfl, rfl⟩, rfl, hle, hI, hvn⟩
  have hex : ∃ rr : Nat → Loc, (∀ id, inR nid id = false → rr id = r id) ∧ ∀ id, okId N nid news id = true → rr (newId N nid news id) = r' id := by
    refine ⟨(fun j => if inR nid j = true then r' (news.getD (j - nid) 0) else r j), fun id hid => if_neg (by rw [hid]; simp), fun id hid => ?_⟩
    simp only [okId, Bool.or_eq_true, Bool.and_eq_true, decide_eq_true_eq, Bool.not_eq_true', List.contains_iff_mem] at hid
    by_cases hlt : id < N
    · have hin : inR nid id = false := by
        rcases hid with h | h
        · exact h.2
        · exact absurd hlt (by have := (hna id h).1; omega)
      simp only [newId, hlt, decide_true, hin, Bool.false_eq_true, if_false]
      exact (hI.ext id hlt).symm
    · rcases hid with h | h
      · exact absurd h.1 hlt
      · obtain ⟨i, h1, h2, h3⟩ := posOf_spec news id 0 h
        have hin : inR nid (nid + (0 + i)) = true := by simp [inR]; omega
        simp only [newId, hlt, decide_false, h1, hin, if_true]
        rw [show nid + (0 + i) - nid = i by omega, List.getD_eq_getElem?_getD, h3]; rfl
  obtain ⟨rr, hsame, hkey⟩ := hex
  have hold : ∀ id, id < N → newId N nid news id = id := by intro id hlt; simp [newId, hlt]
  have hnew : ∀ id, id ∈ news → inR nid (newId N nid news id) = true ∧ ¬ id < N := by
    intro id hm
    have hlt : ¬ id < N := by have := (hna id hm).1; omega
    obtain ⟨i, h1, h2, h3⟩ := posOf_spec news id 0 hm
    refine ⟨?_, hlt⟩
    simp only [newId, hlt, decide_false, h1]
    simp [inR]; omega
  have hnok : ∀ id, id ∈ news → okId N nid news id = true := by intro id hm; simp [okId, hm]
  have hopos : ∀ id b, (id, b) ∈ hp0 → id < N ∧ inR nid id = false := by
    intro id b hm
    refine ⟨(hsb _ hm).1, ?_⟩
    rw [← hhp] at hm
    obtain ⟨b0, h1, _⟩ := zipH_mem hv _ hm
    exact hH.out id b0 h1
  refine ⟨rr, ?_, ?_⟩
  · rw [den_mapId hkey v' hva]
  · refine ⟨hsame, fun p hpm => ?_, ?_, fun p hpm hin hlv k hk => ?_, fun p hpm hin hlv k hk => ?_, fun p hpm q hqm hin hin' hne ho hlv k hk hk' => ?_⟩
    · rcases List.mem_append.1 hpm with hm | hm
      · obtain ⟨b, h1, h2, h3⟩ := oldUpd_mem hm
        obtain ⟨hlt, hin⟩ := hopos _ _ h1
        rw [h3]
        split
        · rename_i b' hb'
          have hall : b'.all (okId N nid news) = true := by
            rcases hoa _ h1 with h | h
            · rw [h2] at h; cases h
            · rw [hb'] at h; simp only [Bool.and_eq_true] at h; exact h.2.2
          have := Blk.mapId_rep hkey (id := p.1) (w := w') (hkey p.1 (by simp [okId, hlt, hin])) hall (hI.rep _ _ hb')
          rw [hold _ hlt] at this; exact this
        · trivial
      · obtain ⟨id, b, h1, h2, h3, rfl⟩ := newUpd_mem hu p hm
        have hall := (hna id h1).2
        rw [h2] at hall
        simp only [Bool.and_eq_true] at hall
        exact Blk.mapId_rep hkey (hkey id (hnok id h1)) hall.2 (hI.rep _ _ h2)
    · refine ⟨hI.fr.os, hI.fr.tape, hI.fr.output, hI.fr.size, fun k hk hc => hI.fr.block k hk ?_⟩
      rintro ⟨id, b, h1, h2, h3⟩
      have hm := look_memb h1
      obtain ⟨b', hb'⟩ := mem_oldUpd (N := N) (nid := nid) (news := news) (h := h') hm h2
      obtain ⟨b0, g1, rfl⟩ := hz id b h1
      exact hc ⟨(id, b'), List.mem_append_left _ hb', (hopos _ _ hm).2, b0, g1, foot_prep.1 h3⟩
    · rcases List.mem_append.1 hpm with hm | hm
      · obtain ⟨b, h1, h2, h3⟩ := oldUpd_mem hm
        rw [(hopos _ _ h1).2] at hin; cases hin
      · obtain ⟨id, b, h1, h2, h3, rfl⟩ := newUpd_mem hu p hm
        have hpl := (hna id h1).2
        rw [h2] at hpl
        simp only [Bool.and_eq_true] at hpl
        have hk0 : k = (r' id).blk := by
          have := (foot_plain (Blk.mapId_plain hpl.1)).1 hk
          rw [hkey id (hnok id h1)] at this; exact this
        rcases hI.own id b h2 h3 k ((foot_plain hpl.1).2 hk0) with ⟨id0, b0, k1, k2, k3⟩ | k
        · have hm0 := look_memb k1
          obtain ⟨hlt0, hin0⟩ := hopos _ _ hm0
          have hno : look h' id0 = none := by
            cases hlk : look h' id0 with
            | none => rfl
            | some b' =>
              exfalso
              have hpl0 : b0.plain = true ∧ b'.plain = true := by
                rcases hoa _ hm0 with h | h
                · rw [k2] at h; cases h
                · rw [hlk] at h; simp only [Bool.and_eq_true] at h; exact ⟨h.1, h.2.1⟩
              refine hI.sep id id0 b b' h2 hlk (by rintro rfl; exact (hnew _ h1).2 hlt0) h3 k ((foot_plain hpl.1).2 hk0) ((foot_plain hpl0.2).2 ?_)
              rw [hI.ext id0 hlt0]; exact (foot_plain hpl0.1).1 k3
          obtain ⟨b', hb'⟩ := mem_oldUpd (N := N) (nid := nid) (news := news) (h := h') hm0 k2
          obtain ⟨b00, g1, rfl⟩ := hz id0 b0 k1
          refine .inr (.inl ⟨(id0, b'), List.mem_append_left _ hb', hin0, fun z hz hzi => ?_, b00, g1, foot_prep.1 k3⟩)
          rcases List.mem_append.1 hz with hz | hz
          · obtain ⟨b2, _, _, j3⟩ := oldUpd_mem hz
            simp only at hzi
            rw [j3, hzi, hno]; rfl
          · obtain ⟨id2, b2, j1, _, _, rfl⟩ := newUpd_mem hu z hz
            simp only at hzi
            have := (hnew id2 j1).1
            rw [hzi, hin0] at this; cases this
        · exact .inl k
    · rcases List.mem_append.1 hpm with hm | hm
      · obtain ⟨b, h1, h2, h3⟩ := oldUpd_mem hm
        obtain ⟨hlt, hin0⟩ := hopos _ _ h1
        have hmz := h1
        rw [← hhp] at hmz
        obtain ⟨b00, g1, g2⟩ := zipH_mem hv _ hmz
        rcases hoa _ h1 with h | h
        · rw [h2] at h; cases h
        · rw [h3] at hk hlv
          split at hk
          · rename_i b' hb'
            rw [hb'] at h
            simp only [Bool.and_eq_true] at h
            have hk := (foot_plain (Blk.mapId_plain h.2.1)).1 hk
            rw [hsame _ hin0] at hk
            refine ⟨b00, g1, (foot_prep (b := b00) (rw_ := rw_)).1 ?_⟩
            simp only at g2
            rw [← g2]
            exact (foot_plain h.1).2 hk
          · rename_i hn; rw [hn] at hlv; cases hlv
      · obtain ⟨id, b, h1, h2, h3, rfl⟩ := newUpd_mem hu p hm
        have := (hnew id h1).1
        rw [hin] at this; cases this
    · rcases List.mem_append.1 hpm with hm | hm
      · obtain ⟨b, h1, h2, h3⟩ := oldUpd_mem hm
        rw [(hopos _ _ h1).2] at hin; cases hin
      rcases List.mem_append.1 hqm with hm' | hm'
      · obtain ⟨b, h1, h2, h3⟩ := oldUpd_mem hm'
        rw [(hopos _ _ h1).2] at hin'; cases hin'
      obtain ⟨id, b, h1, h2, h3, rfl⟩ := newUpd_mem hu p hm
      obtain ⟨id2, b2, j1, j2, j3, rfl⟩ := newUpd_mem hu q hm'
      have hpl := (hna id h1).2
      rw [h2] at hpl
      simp only [Bool.and_eq_true] at hpl
      have hpl2 := (hna id2 j1).2
      rw [j2] at hpl2
      simp only [Bool.and_eq_true] at hpl2
      have hk := (foot_plain (Blk.mapId_plain hpl.1)).1 hk
      have hk' := (foot_plain (Blk.mapId_plain hpl2.1)).1 hk'
      rw [hkey id (hnok id h1)] at hk
      rw [hkey id2 (hnok id2 j1)] at hk'
      exact hI.sep id id2 b b2 h2 j2 (by rintro rfl; exact hne rfl) h3 k ((foot_plain hpl.1).2 hk) ((foot_plain hpl2.1).2 hk')
end Go.SX
