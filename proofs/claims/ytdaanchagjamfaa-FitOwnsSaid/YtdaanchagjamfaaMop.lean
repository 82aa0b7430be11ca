/- A function gone into within a drawn region: what it comes to, as a contract. -/
import Derived.Test.YtdaanchagjamfaaMoo
namespace Go.SX
open Go Go.RowKit Go.Proofs.Ytdaanchagjamfaa

mutual
/-- The same value, its blocks under other numbers. -/
def AV.mapId (q : Nat → Nat) : AV → AV
  | .ptr id e j => .ptr (q id) e j
  | .slice c id e n cp => .slice c (q id) e n cp
  | .slz id e n cp => .slz (q id) e n cp
  | .map id => .map (q id)
  | .yld id => .yld (q id)
  | .fn f l => .fn f (AV.mapIdL q l)
  | .ifc t v => .ifc t (v.mapId q)
  | .opt b v => .opt b (v.mapId q)
  | .agg l => .agg (AV.mapIdL q l)
  | .tup l => .tup (AV.mapIdL q l)
  | v => v
def AV.mapIdL (q : Nat → Nat) : List AV → List AV
  | [] => []
  | v :: l => v.mapId q :: AV.mapIdL q l
end
mutual
theorem den_mapId {p : Nat → Bool} {q : Nat → Nat} {r r' : Nat → Loc} (h : ∀ id, p id = true → r' (q id) = r id) : ∀ v : AV, v.all p = true → (v.mapId q).den r' = v.den r
  | .int .., _ | .bool .., _ | .addr .., _ | .nilp, _ | .nils, _ | .nilm, _ | .nilf, _ | .nili, _ | .str .., _ | .raw .., _ => rfl
  | .ptr id _ _, hv => by simp only [AV.mapId, AV.den]; rw [h id hv]
  | .slice _ id _ _ _, hv => by simp only [AV.mapId, AV.den]; rw [h id hv]
  | .slz id _ _ _, hv => by simp only [AV.mapId, AV.den]; rw [h id hv]
  | .map id, hv => by simp only [AV.mapId, AV.den]; rw [h id hv]
  | .yld id, hv => by simp only [AV.mapId, AV.den]; rw [h id hv]
  | .fn _ cap, hv => by simp only [AV.mapId, AV.den]; rw [den_mapIdL h cap hv]
  | .ifc _ v, hv => by simp only [AV.mapId, AV.den]; rw [den_mapId h v hv]
  | .opt _ v, hv => by simp only [AV.mapId, AV.den]; rw [den_mapId h v hv]
  | .agg l, hv => by simp only [AV.mapId, AV.den]; rw [den_mapIdL h l hv]
  | .tup l, hv => by simp only [AV.mapId, AV.den]; rw [den_mapIdL h l hv]
theorem den_mapIdL {p : Nat → Bool} {q : Nat → Nat} {r r' : Nat → Loc} (h : ∀ id, p id = true → r' (q id) = r id) : ∀ l : List AV, AV.allL p l = true → AV.denL r' (AV.mapIdL q l) = AV.denL r l
  | [], _ => rfl
  | v :: l, hv => by
    simp only [AV.allL, Bool.and_eq_true] at hv
    simp only [AV.mapIdL, AV.denL]; rw [den_mapId h v hv.1, den_mapIdL h l hv.2]
end
theorem mapIdL_map (q : Nat → Nat) : ∀ l, AV.mapIdL q l = l.map (AV.mapId q)
  | [] => rfl
  | v :: l => by rw [AV.mapIdL, mapIdL_map q l]; rfl
def Blk.mapId (q : Nat → Nat) : Blk → Blk
  | .cells z t l => .cells z t (AV.mapIdL q l)
  | .rowl t z l => .rowl t z (l.map (AV.mapIdL q))
  | .cellsR z t l => .cellsR z t (AV.mapIdL q l)
  | .rowlR t z l => .rowlR t z (l.map (AV.mapIdL q))
  | .lp s pe l ps as body => .lp s pe (AV.mapIdL q l) ps as body
  | b => b
theorem mapIdL_flatten (q : Nat → Nat) : ∀ l : List (List AV), (l.map (AV.mapIdL q)).flatten = AV.mapIdL q l.flatten
  | [] => rfl
  | x :: l => by rw [List.map_cons, List.flatten_cons, mapIdL_flatten q l, List.flatten_cons, mapIdL_map, mapIdL_map, mapIdL_map, List.map_append]
theorem Blk.mapId_rep {p : Nat → Bool} {q : Nat → Nat} {r r' : Nat → Loc} (h : ∀ id, p id = true → r' (q id) = r id) {id : Nat} {w : World} (hid : r' (q id) = r id) : ∀ {b : Blk}, b.all p = true → BRep r id w b → BRep r' (q id) w (b.mapId q)
  | .cells z t l, ha, hb => by
    simp only [Blk.mapId, BRep] at hb ⊢
    rw [hid, den_mapIdL h l ha]; exact hb
  | .rowl t z l, ha, hb => by
    simp only [Blk.mapId, BRep] at hb ⊢
    rw [hid, mapIdL_flatten, den_mapIdL h _ (allL_flatten ha), List.length_map]
    refine ⟨hb.1, hb.2.1, fun x hx => ?_, hb.2.2.2⟩
    obtain ⟨y, hy, rfl⟩ := List.mem_map.1 hx
    rw [mapIdL_map, List.length_map]; exact hb.2.2.1 y hy
  | .cellsR z t l, ha, hb => by
    simp only [Blk.mapId, BRep] at hb ⊢
    rw [hid, den_mapIdL h l ha]; exact hb
  | .rowlR t z l, ha, hb => by
    simp only [Blk.mapId, BRep] at hb ⊢
    rw [hid, mapIdL_flatten, den_mapIdL h _ (allL_flatten ha), List.length_map]
    refine ⟨hb.1, hb.2.1, fun x hx => ?_, hb.2.2.2⟩
    obtain ⟨y, hy, rfl⟩ := List.mem_map.1 hx
    rw [mapIdL_map, List.length_map]; exact hb.2.2.1 y hy
  | .arr z n get, _, hb => by
    simp only [Blk.mapId, BRep] at hb ⊢
    rw [hid]
    refine ⟨hb.1, hb.2.1, fun i hi => ⟨(hb.2.2 i hi).1, fun j v hv => ?_⟩⟩
    obtain ⟨h1, h2⟩ := (hb.2.2 i hi).2 j v hv
    exact ⟨h1, by rw [h2, den_congr (p := fun _ => false) (r := r) (r' := r') (fun _ hf => by cases hf) v h1]⟩
  | .gone, _, _ => trivial
  | .lp s pe l ps as body, ha, hb => by
    simp only [Blk.mapId, BRep] at hb ⊢
    rw [hid, den_mapIdL h l ha]; exact hb
  | .dfr, _, hb => by
    simp only [Blk.mapId, BRep] at hb ⊢
    rw [hid]; exact hb
  | .mp .., _, hb => by
    simp only [Blk.mapId, BRep] at hb ⊢
    rw [hid]; exact hb
  | .rowz o ty z n get, _, hb => by
    simp only [Blk.mapId, BRep, RowzR] at hb ⊢
    rw [hid]
    obtain ⟨h1, h2, h3, h4, h5, h6⟩ := hb
    refine ⟨h1, h2, h3, h4, h5, fun hn => ?_⟩
    obtain ⟨h7, rest, h8, h9⟩ := h6 hn
    exact ⟨h7, rest, h8, by rw [h9, denL_congr (p := fun _ => false) (r := r) (r' := r') (fun _ hf => by cases hf) _ (rowsTo_flat fun i hi => flatR_all (h5 i hi).2)]⟩
  | .frz z n get, _, hb => by
    simp only [Blk.mapId, BRep] at hb ⊢
    rw [hid]
    exact ⟨hb.1, hb.2.1, hb.2.2.keep fun _ _ => rfl⟩
  | .frz2 o ty z n len get, _, hb => by
    simp only [Blk.mapId, BRep] at hb ⊢
    rw [hid]
    obtain ⟨h1, h2, h3, inner, h4, h5, h6, h7⟩ := hb
    exact ⟨h1, h2, h3, inner, h4, h5, fun i hi => ⟨(h6 i hi).1, (h6 i hi).2.1, (h6 i hi).2.2.keep fun _ _ => rfl⟩, h7⟩
  | .mpf k z has get, _, hb => by
    simp only [Blk.mapId, BRep] at hb ⊢
    rw [hid]
    obtain ⟨es, cl, h1, h2⟩ := hb
    exact ⟨es, cl, h1, h2.to⟩
theorem Blk.mapId_back {p : Nat → Bool} {q : Nat → Nat} {r r' : Nat → Loc} (h : ∀ id, p id = true → r' (q id) = r id) {id : Nat} {w : World} (hid : r' (q id) = r id) : ∀ {b : Blk}, b.all p = true → BRep r' (q id) w (b.mapId q) → BRep r id w b
  | .cells z t l, ha, hb => by
    simp only [Blk.mapId, BRep] at hb ⊢
    rw [hid, den_mapIdL h l ha] at hb; exact hb
  | .rowl t z l, ha, hb => by
    simp only [Blk.mapId, BRep] at hb ⊢
    rw [hid, mapIdL_flatten, den_mapIdL h _ (allL_flatten ha), List.length_map] at hb
    refine ⟨hb.1, hb.2.1, fun x hx => ?_, hb.2.2.2⟩
    have := hb.2.2.1 _ (List.mem_map_of_mem hx)
    rw [mapIdL_map, List.length_map] at this; exact this
  | .cellsR z t l, ha, hb => by
    simp only [Blk.mapId, BRep] at hb ⊢
    rw [hid, den_mapIdL h l ha] at hb; exact hb
  | .rowlR t z l, ha, hb => by
    simp only [Blk.mapId, BRep] at hb ⊢
    rw [hid, mapIdL_flatten, den_mapIdL h _ (allL_flatten ha), List.length_map] at hb
    refine ⟨hb.1, hb.2.1, fun x hx => ?_, hb.2.2.2⟩
    have := hb.2.2.1 _ (List.mem_map_of_mem hx)
    rw [mapIdL_map, List.length_map] at this; exact this
  | .arr z n get, _, hb => by
    simp only [Blk.mapId, BRep] at hb ⊢
    rw [hid] at hb
    refine ⟨hb.1, hb.2.1, fun i hi => ⟨(hb.2.2 i hi).1, fun j v hv => ?_⟩⟩
    obtain ⟨h1, h2⟩ := (hb.2.2 i hi).2 j v hv
    exact ⟨h1, by rw [h2, den_congr (p := fun _ => false) (r := r') (r' := r) (fun _ hf => by cases hf) v h1]⟩
  | .gone, _, _ => trivial
  | .lp s pe l ps as body, ha, hb => by
    simp only [Blk.mapId, BRep] at hb ⊢
    rw [hid, den_mapIdL h l ha] at hb; exact hb
  | .dfr, _, hb => by
    simp only [Blk.mapId, BRep] at hb ⊢
    rw [hid] at hb; exact hb
  | .mp .., _, hb => by
    simp only [Blk.mapId, BRep] at hb ⊢
    rw [hid] at hb; exact hb
  | .rowz o ty z n get, _, hb => by
    simp only [Blk.mapId, BRep, RowzR] at hb ⊢
    rw [hid] at hb
    obtain ⟨h1, h2, h3, h4, h5, h6⟩ := hb
    refine ⟨h1, h2, h3, h4, h5, fun hn => ?_⟩
    obtain ⟨h7, rest, h8, h9⟩ := h6 hn
    exact ⟨h7, rest, h8, by rw [h9, denL_congr (p := fun _ => false) (r := r') (r' := r) (fun _ hf => by cases hf) _ (rowsTo_flat fun i hi => flatR_all (h5 i hi).2)]⟩
  | .frz z n get, _, hb => by
    simp only [Blk.mapId, BRep] at hb ⊢
    rw [hid] at hb
    exact ⟨hb.1, hb.2.1, hb.2.2.keep fun _ _ => rfl⟩
  | .frz2 o ty z n len get, _, hb => by
    simp only [Blk.mapId, BRep] at hb ⊢
    rw [hid] at hb
    obtain ⟨h1, h2, h3, inner, h4, h5, h6, h7⟩ := hb
    exact ⟨h1, h2, h3, inner, h4, h5, fun i hi => ⟨(h6 i hi).1, (h6 i hi).2.1, (h6 i hi).2.2.keep fun _ _ => rfl⟩, h7⟩
  | .mpf k z has get, _, hb => by
    simp only [Blk.mapId, BRep] at hb ⊢
    rw [hid] at hb
    obtain ⟨es, cl, h1, h2⟩ := hb
    exact ⟨es, cl, h1, h2.to⟩
theorem Blk.mapId_own (q : Nat → Nat) (b : Blk) : (b.mapId q).own = b.own := by cases b <;> rfl
theorem Blk.mapId_live (q : Nat → Nat) (b : Blk) : (b.mapId q).live = b.live := by cases b <;> rfl

/-- The one end of a run without a choice. -/
def oneLeaf : Tree → Option (Bool × Bool × AV × List (Nat × Blk))
  | .leaf v h => some (true, true, v, h)
  | .need b t => match oneLeaf t with
    | some (_, p, v, h) => some (false, b && p, v, h)
    | none => none
  | _ => none
theorem oneLeaf_den : ∀ {t : Tree} {k p : Bool} {v : AV} {h : List (Nat × Blk)}, oneLeaf t = some (k, p, v, h) → p = true → t.den fun u g => u = v ∧ g = h
  | .leaf u g, k, p, v, h, e, _ => by
    simp only [oneLeaf, Option.some.injEq, Prod.mk.injEq] at e
    exact ⟨e.2.2.1, e.2.2.2⟩
  | .need b t, k, p, v, h, e, hp => by
    simp only [oneLeaf] at e
    split at e <;> (try (cases e; done))
    rename_i k' p' v' h' ht
    simp only [Option.some.injEq, Prod.mk.injEq] at e
    obtain ⟨_, rfl, rfl, rfl⟩ := e
    simp only [Bool.and_eq_true] at hp
    exact ⟨hp.1, oneLeaf_den ht hp.2⟩

mutual
/-- The numbers from N on that a value names. -/
def AV.idsFrom (N : Nat) : AV → List Nat
  | .ptr id _ _ => if N ≤ id then [id] else []
  | .slice _ id _ _ _ => if N ≤ id then [id] else []
  | .slz id _ _ _ => if N ≤ id then [id] else []
  | .map id => if N ≤ id then [id] else []
  | .yld id => if N ≤ id then [id] else []
  | .fn _ l => AV.idsFromL N l
  | .ifc _ v => v.idsFrom N
  | .agg l => AV.idsFromL N l
  | .tup l => AV.idsFromL N l
  | _ => []
def AV.idsFromL (N : Nat) : List AV → List Nat
  | [] => []
  | v :: l => v.idsFrom N ++ AV.idsFromL N l
end
def Blk.idsFrom (N : Nat) : Blk → List Nat
  | .cells _ _ l => AV.idsFromL N l
  | .cellsR _ _ l => AV.idsFromL N l
  | .rowl _ _ l => AV.idsFromL N l.flatten
  | .rowlR _ _ l => AV.idsFromL N l.flatten
  | .lp _ _ l _ _ _ => AV.idsFromL N l
  | _ => []
def addTo : List Nat → List Nat → List Nat
  | [], acc => acc
  | x :: l, acc => match acc.contains x with
    | true => addTo l acc
    | false => addTo l (acc ++ [x])
/-- What is reached, so many steps far. -/
def reach (N : Nat) (h : List (Nat × Blk)) : Nat → List Nat → List Nat
  | 0, l => l
  | n + 1, l => reach N h n (addTo (l.flatMap fun id => match look h id with | some b => b.idsFrom N | none => []) l)
def posOf : List Nat → Nat → Nat → Nat
  | [], _, k => k
  | x :: l, id, k => match x == id with
    | true => k
    | false => posOf l id (k + 1)
def newId (N nid : Nat) (news : List Nat) (id : Nat) : Nat := match decide (id < N) with
  | true => id
  | false => nid + posOf news id 0
def zipH (pr : Blk → Blk) : List Nat → List Blk → List (Nat × Blk)
  | i :: l, b :: bs => (i, pr b) :: zipH pr l bs
  | _, _ => []
def prep (rw : Bool) (b : Blk) : Blk := match rw with
  | true => b
  | false => b.ro
def okId (N nid : Nat) (news : List Nat) (id : Nat) : Bool := (decide (id < N) && !inR nid id) || news.contains id
/-- Old blocks, as they are now: those that were one's own. -/
def oldUpd (N nid : Nat) (news : List Nat) (h : List (Nat × Blk)) : List (Nat × Blk) → List (Nat × Blk)
  | [] => []
  | (id, b) :: l => match b.own with
    | true => (id, match look h id with | some b' => b'.mapId (newId N nid news) | none => .gone) :: oldUpd N nid news h l
    | false => oldUpd N nid news h l
def newUpd (N nid : Nat) (news : List Nat) (h : List (Nat × Blk)) : List Nat → Option (List (Nat × Blk))
  | [] => some []
  | id :: l => match look h id, newUpd N nid news h l with
    | some b, some u => (match b.own with
      | true => some ((newId N nid news id, b.mapId (newId N nid news)) :: u)
      | false => none)
    | _, _ => none
def nodupB : List Nat → Bool
  | [] => true
  | x :: l => !(l.contains x) && nodupB l
def maxId (l : List Nat) : Nat := l.foldl (fun a b => if a ≤ b then b else a) 0
def callC (rw : Bool) (E : Env) (H : Hnd) (fn : Func) : FC := fun args nid all => (all, fun blks =>
  let N := (if maxId all ≤ nid then nid else maxId all) + 1000
  let hp := zipH (prep rw) all blks
  match AV.allL (· < N) args && hp.all (fun p => decide (p.1 < N) && p.2.all (· < N)) with
  | false => none
  | true => match oneLeaf (inFn E H fn args hp N fun v h _ => .leaf v h) with
    | none => none
    | some (k, p, v, h) =>
      let old := hp.flatMap fun q => match q.2.own with | true => (match look h q.1 with | some b => b.idsFrom N | none => []) | false => []
      let news := reach N h 3 (addTo (v.idsFrom N ++ old) [])
      match newUpd N nid news h news with
      | none => none
      | some u => match nodupB news && (decide (news.length ≤ 8) && (v.all (okId N nid news) && (news.all (fun id => decide (N ≤ id) && (match look h id with | some b => b.plain && b.all (okId N nid news) | none => false)) &&
          hp.all fun q => !q.2.own || (q.2.plain && (match look h q.1 with | some b => b.plain && b.all (okId N nid news) | none => true))))) with
        | true => some ⟨k, p, v.mapId (newId N nid news), oldUpd N nid news h hp ++ u⟩
        | false => none)

theorem posOf_spec : ∀ (l : List Nat) (id k : Nat), id ∈ l → ∃ i, posOf l id k = k + i ∧ i < l.length ∧ l[i]? = some id
  | x :: l, id, k, h => by
    simp only [posOf]
    split
    · rename_i hx; have : x = id := by simpa using hx
      subst this; exact ⟨0, rfl, by simp, rfl⟩
    · rename_i hx
      have hne : x ≠ id := by simpa using hx
      obtain ⟨i, h1, h2, h3⟩ := posOf_spec l id (k + 1) (by rcases List.mem_cons.1 h with rfl | h; exact absurd rfl hne; exact h)
      exact ⟨i + 1, by rw [h1]; omega, by simpa using h2, by simpa using h3⟩
theorem zipH_mem {pr : Blk → Blk} : ∀ {l : List Nat} {bs : List Blk} {lk : Nat → Option Blk}, l.map lk = bs.map some → ∀ p ∈ zipH pr l bs, ∃ b, lk p.1 = some b ∧ p.2 = pr b
  | [], [], _, _, p, hp => by simp [zipH] at hp
  | i :: l, b :: bs, lk, h, p, hp => by
    simp only [List.map_cons, List.cons.injEq] at h
    simp only [zipH] at hp
    rcases List.mem_cons.1 hp with rfl | hp
    · exact ⟨b, h.1, rfl⟩
    · exact zipH_mem h.2 p hp
  | [], _ :: _, _, h, _, _ => by simp at h
  | _ :: _, [], _, h, _, _ => by simp at h
theorem oldUpd_mem {N nid : Nat} {news : List Nat} {h : List (Nat × Blk)} : ∀ {l : List (Nat × Blk)} {p : Nat × Blk}, p ∈ oldUpd N nid news h l → ∃ b, (p.1, b) ∈ l ∧ b.own = true ∧ p.2 = (match look h p.1 with | some b' => b'.mapId (newId N nid news) | none => .gone)
  | [], p, hp => by simp [oldUpd] at hp
  | (id, b) :: l, p, hp => by
    simp only [oldUpd] at hp
    split at hp
    · rename_i ho
      rcases List.mem_cons.1 hp with rfl | hp
      · exact ⟨b, List.mem_cons_self, ho, rfl⟩
      · obtain ⟨b', h1, h2⟩ := oldUpd_mem hp
        exact ⟨b', List.mem_cons_of_mem _ h1, h2⟩
    · obtain ⟨b', h1, h2⟩ := oldUpd_mem hp
      exact ⟨b', List.mem_cons_of_mem _ h1, h2⟩
theorem mem_oldUpd {N nid : Nat} {news : List Nat} {h : List (Nat × Blk)} : ∀ {l : List (Nat × Blk)} {id : Nat} {b : Blk}, (id, b) ∈ l → b.own = true → ∃ b', (id, b') ∈ oldUpd N nid news h l
  | (id', b') :: l, id, b, hm, ho => by
    simp only [oldUpd]
    rcases List.mem_cons.1 hm with e | hm
    · simp only [Prod.mk.injEq] at e; obtain ⟨rfl, rfl⟩ := e
      rw [ho]; exact ⟨_, List.mem_cons_self⟩
    · obtain ⟨b'', hm'⟩ := mem_oldUpd (N := N) (nid := nid) (news := news) (h := h) hm ho
      split
      · exact ⟨b'', List.mem_cons_of_mem _ hm'⟩
      · exact ⟨b'', hm'⟩
theorem newUpd_mem {N nid : Nat} {news : List Nat} {h : List (Nat × Blk)} : ∀ {l : List Nat} {u : List (Nat × Blk)}, newUpd N nid news h l = some u → ∀ p ∈ u, ∃ id b, id ∈ l ∧ look h id = some b ∧ b.own = true ∧ p = (newId N nid news id, b.mapId (newId N nid news))
  | [], u, e, p, hp => by simp only [newUpd, Option.some.injEq] at e; subst e; cases hp
  | i :: l, u, e, p, hp => by
    simp only [newUpd] at e
    split at e <;> (try (cases e; done))
    rename_i b u' hb hu
    split at e <;> (try (cases e; done))
    rename_i ho
    simp only [Option.some.injEq] at e; subst e
    rcases List.mem_cons.1 hp with rfl | hp
    · exact ⟨i, b, List.mem_cons_self, hb, ho, rfl⟩
    · obtain ⟨id, b', h1, h2⟩ := newUpd_mem hu p hp
      exact ⟨id, b', List.mem_cons_of_mem _ h1, h2⟩
theorem foot_ro {r : Nat → Loc} {id k : Nat} {b : Blk} : Foot r id b.ro k ↔ Foot r id b k := by cases b <;> exact Iff.rfl
theorem foot_prep {rw_ : Bool} {r : Nat → Loc} {id k : Nat} {b : Blk} : Foot r id (prep rw_ b) k ↔ Foot r id b k := by
  cases rw_
  · exact foot_ro
  · exact Iff.rfl
theorem Blk.mapId_plain {q : Nat → Nat} {b : Blk} (h : b.plain = true) : (b.mapId q).plain = true := by cases b <;> first | rfl | cases h
theorem prep_rep {rw_ : Bool} {r : Nat → Loc} {id : Nat} {w : World} {b : Blk} (h : BRep r id w b) : BRep r id w (prep rw_ b) := by
  cases rw_
  · exact h.ro
  · exact h
theorem callC_ok {E : Env} (hE : E.Sound) {H : Hnd} {rw_ : Bool} {f : FuncId} {fn : Func} {c : Code} (hf : E.P.funcs[f]? = some fn) (hb : fn.body = some c) (hgo : goFn E.P f = true) (hl : ∀ G, G.rd = none → HndOk E G H c) : FSound E.P f (callC rw_ E H fn) := by
  refine ⟨hgo, fun args nid all r w lk blks eff hH hargs hv he hp => ?_⟩
  simp only [callC] at hv he
  generalize (if maxId all ≤ nid then nid else maxId all) + 1000 = N at he
  generalize hhp : zipH (prep rw_) all blks = hp0 at he
  split at he <;> (try (cases he; done))
  rename_i hsc
  simp only [Bool.and_eq_true, List.all_eq_true, decide_eq_true_eq] at hsc
  obtain ⟨hsa, hsb⟩ := hsc
  split at he <;> (try (cases he; done))
  rename_i k pp v h hone
  split at he <;> (try (cases he; done))
  rename_i u hu
  split at he <;> (try (cases he; done))
  rename_i hch
  generalize reach N h 3 _ = news at *
  simp only [Option.some.injEq] at he; subst he
  simp only at hp
  simp only [Bool.and_eq_true, List.all_eq_true, decide_eq_true_eq, Bool.or_eq_true, Bool.not_eq_true'] at hch
  obtain ⟨_, hlen, hva, hna, hoa⟩ := hch
  have hz : ∀ id b, look hp0 id = some b → ∃ b0, lk id = some b0 ∧ b = prep rw_ b0 := by
    intro id b hlk
    have := look_memb hlk
    rw [← hhp] at this
    exact zipH_mem hv _ this
  have hI0 : HInv ⟨w, fun k => ∃ id b, look hp0 id = some b ∧ b.own = true ∧ Foot r id b k, N, r, none⟩ N r hp0 w := by
    refine ⟨fun id b hlk => ?_, fun id id' b b' h1 h2 hne ho => ?_, fun _ _ => rfl, Fr.refl _ _, fun id b hlk ho k hk => .inl ⟨id, b, hlk, ho, hk⟩, fun id b hlk => ?_, fun id b hlk => ?_⟩
    · obtain ⟨b0, h1, rfl⟩ := hz id b hlk
      exact prep_rep (hH.rep id b0 h1)
    · obtain ⟨b0, k1, rfl⟩ := hz id b h1
      obtain ⟨b0', k2, rfl⟩ := hz id' b' h2
      cases rw_
      · simp only [prep] at ho
        intro k hk hk'
        refine hH.sep id id' b0 b0' k1 k2 hne ?_ ?_ k (foot_ro.1 hk) (foot_ro.1 hk')
        · rw [← Blk.own_ro b0 ho]; exact ho
        · rw [← Blk.live_ro]; exact look_live h2
      · exact hH.sep id id' b0 b0' k1 k2 hne ho (look_live h2)
    · exact (hsb _ (look_memb hlk)).1
    · exact (hsb _ (look_memb hlk)).2
  refine (fn_calls hE hf hb (hl _ rfl) rfl hI0 hsa (oneLeaf_den hone hp)).mono ?_
  rintro e w' ⟨v', h', nid', r', ⟨rfl, rfl⟩, rfl, hle, hI, hvn⟩
  have hex : ∃ rr : Nat → Loc, (∀ id, inR nid id = false → rr id = r id) ∧ ∀ id, okId N nid news id = true → rr (newId N nid news id) = r' id := by
    refine ⟨(fun j => if inR nid j = true then r' (news.getD (j - nid) 0) else r j), fun id hid => if_neg (by rw [hid]; simp), fun id hid => ?_⟩
    simp only [okId, Bool.or_eq_true, Bool.and_eq_true, decide_eq_true_eq, Bool.not_eq_true', List.contains_iff_mem] at hid
    by_cases hlt : id < N
    · have hin : inR nid id = false := by
        rcases hid with h | h
        · exact h.2
        · exact absurd hlt (by have := (hna id h).1; omega)
      simp only [newId, hlt, decide_true, hin, Bool.false_eq_true, if_false]
      exact (hI.ext id hlt).symm
    · rcases hid with h | h
      · exact absurd h.1 hlt
      · obtain ⟨i, h1, h2, h3⟩ := posOf_spec news id 0 h
        have hin : inR nid (nid + (0 + i)) = true := by simp [inR]; omega
        simp only [newId, hlt, decide_false, h1, hin, if_true]
        rw [show nid + (0 + i) - nid = i by omega, List.getD_eq_getElem?_getD, h3]; rfl
  obtain ⟨rr, hsame, hkey⟩ := hex
  have hold : ∀ id, id < N → newId N nid news id = id := by intro id hlt; simp [newId, hlt]
  have hnew : ∀ id, id ∈ news → inR nid (newId N nid news id) = true ∧ ¬ id < N := by
    intro id hm
    have hlt : ¬ id < N := by have := (hna id hm).1; omega
    obtain ⟨i, h1, h2, h3⟩ := posOf_spec news id 0 hm
    refine ⟨?_, hlt⟩
    simp only [newId, hlt, decide_false, h1]
    simp [inR]; omega
  have hnok : ∀ id, id ∈ news → okId N nid news id = true := by intro id hm; simp [okId, hm]
  have hopos : ∀ id b, (id, b) ∈ hp0 → id < N ∧ inR nid id = false := by
    intro id b hm
    refine ⟨(hsb _ hm).1, ?_⟩
    rw [← hhp] at hm
    obtain ⟨b0, h1, _⟩ := zipH_mem hv _ hm
    exact hH.out id b0 h1
  refine ⟨rr, ?_, ?_⟩
  · rw [den_mapId hkey v' hva]
  · refine ⟨hsame, fun p hpm => ?_, ?_, fun p hpm hin hlv k hk => ?_, fun p hpm hin hlv k hk => ?_, fun p hpm q hqm hin hin' hne ho hlv k hk hk' => ?_⟩
    · rcases List.mem_append.1 hpm with hm | hm
      · obtain ⟨b, h1, h2, h3⟩ := oldUpd_mem hm
        obtain ⟨hlt, hin⟩ := hopos _ _ h1
        rw [h3]
        split
        · rename_i b' hb'
          have hall : b'.all (okId N nid news) = true := by
            rcases hoa _ h1 with h | h
            · rw [h2] at h; cases h
            · rw [hb'] at h; simp only [Bool.and_eq_true] at h; exact h.2.2
          have := Blk.mapId_rep hkey (id := p.1) (w := w') (hkey p.1 (by simp [okId, hlt, hin])) hall (hI.rep _ _ hb')
          rw [hold _ hlt] at this; exact this
        · trivial
      · obtain ⟨id, b, h1, h2, h3, rfl⟩ := newUpd_mem hu p hm
        have hall := (hna id h1).2
        rw [h2] at hall
        simp only [Bool.and_eq_true] at hall
        exact Blk.mapId_rep hkey (hkey id (hnok id h1)) hall.2 (hI.rep _ _ h2)
    · refine ⟨hI.fr.os, hI.fr.tape, hI.fr.output, hI.fr.size, fun k hk hc => hI.fr.block k hk ?_⟩
      rintro ⟨id, b, h1, h2, h3⟩
      have hm := look_memb h1
      obtain ⟨b', hb'⟩ := mem_oldUpd (N := N) (nid := nid) (news := news) (h := h') hm h2
      obtain ⟨b0, g1, rfl⟩ := hz id b h1
      exact hc ⟨(id, b'), List.mem_append_left _ hb', (hopos _ _ hm).2, b0, g1, foot_prep.1 h3⟩
    · rcases List.mem_append.1 hpm with hm | hm
      · obtain ⟨b, h1, h2, h3⟩ := oldUpd_mem hm
        rw [(hopos _ _ h1).2] at hin; cases hin
      · obtain ⟨id, b, h1, h2, h3, rfl⟩ := newUpd_mem hu p hm
        have hpl := (hna id h1).2
        rw [h2] at hpl
        simp only [Bool.and_eq_true] at hpl
        have hk0 : k = (r' id).blk := by
          have := (foot_plain (Blk.mapId_plain hpl.1)).1 hk
          rw [hkey id (hnok id h1)] at this; exact this
        rcases hI.own id b h2 h3 k ((foot_plain hpl.1).2 hk0) with ⟨id0, b0, k1, k2, k3⟩ | k
        · have hm0 := look_memb k1
          obtain ⟨hlt0, hin0⟩ := hopos _ _ hm0
          have hno : look h' id0 = none := by
            cases hlk : look h' id0 with
            | none => rfl
            | some b' =>
              exfalso
              have hpl0 : b0.plain = true ∧ b'.plain = true := by
                rcases hoa _ hm0 with h | h
                · rw [k2] at h; cases h
                · rw [hlk] at h; simp only [Bool.and_eq_true] at h; exact ⟨h.1, h.2.1⟩
              refine hI.sep id id0 b b' h2 hlk (by rintro rfl; exact (hnew _ h1).2 hlt0) h3 k ((foot_plain hpl.1).2 hk0) ((foot_plain hpl0.2).2 ?_)
              rw [hI.ext id0 hlt0]; exact (foot_plain hpl0.1).1 k3
          obtain ⟨b', hb'⟩ := mem_oldUpd (N := N) (nid := nid) (news := news) (h := h') hm0 k2
          obtain ⟨b00, g1, rfl⟩ := hz id0 b0 k1
          refine .inr (.inl ⟨(id0, b'), List.mem_append_left _ hb', hin0, fun z hz hzi => ?_, b00, g1, foot_prep.1 k3⟩)
          rcases List.mem_append.1 hz with hz | hz
          · obtain ⟨b2, _, _, j3⟩ := oldUpd_mem hz
            simp only at hzi
            rw [j3, hzi, hno]; rfl
          · obtain ⟨id2, b2, j1, _, _, rfl⟩ := newUpd_mem hu z hz
            simp only at hzi
            have := (hnew id2 j1).1
            rw [hzi, hin0] at this; cases this
        · exact .inl k
    · rcases List.mem_append.1 hpm with hm | hm
      · obtain ⟨b, h1, h2, h3⟩ := oldUpd_mem hm
        obtain ⟨hlt, hin0⟩ := hopos _ _ h1
        have hmz := h1
        rw [← hhp] at hmz
        obtain ⟨b00, g1, g2⟩ := zipH_mem hv _ hmz
        rcases hoa _ h1 with h | h
        · rw [h2] at h; cases h
        · rw [h3] at hk hlv
          split at hk
          · rename_i b' hb'
            rw [hb'] at h
            simp only [Bool.and_eq_true] at h
            have hk := (foot_plain (Blk.mapId_plain h.2.1)).1 hk
            rw [hsame _ hin0] at hk
            refine ⟨b00, g1, (foot_prep (b := b00) (rw_ := rw_)).1 ?_⟩
            simp only at g2
            rw [← g2]
            exact (foot_plain h.1).2 hk
          · rename_i hn; rw [hn] at hlv; cases hlv
      · obtain ⟨id, b, h1, h2, h3, rfl⟩ := newUpd_mem hu p hm
        have := (hnew id h1).1
        rw [hin] at this; cases this
    · rcases List.mem_append.1 hpm with hm | hm
      · obtain ⟨b, h1, h2, h3⟩ := oldUpd_mem hm
        rw [(hopos _ _ h1).2] at hin; cases hin
      rcases List.mem_append.1 hqm with hm' | hm'
      · obtain ⟨b, h1, h2, h3⟩ := oldUpd_mem hm'
        rw [(hopos _ _ h1).2] at hin'; cases hin'
      obtain ⟨id, b, h1, h2, h3, rfl⟩ := newUpd_mem hu p hm
      obtain ⟨id2, b2, j1, j2, j3, rfl⟩ := newUpd_mem hu q hm'
      have hpl := (hna id h1).2
      rw [h2] at hpl
      simp only [Bool.and_eq_true] at hpl
      have hpl2 := (hna id2 j1).2
      rw [j2] at hpl2
      simp only [Bool.and_eq_true] at hpl2
      have hk := (foot_plain (Blk.mapId_plain hpl.1)).1 hk
      have hk' := (foot_plain (Blk.mapId_plain hpl2.1)).1 hk'
      rw [hkey id (hnok id h1)] at hk
      rw [hkey id2 (hnok id2 j1)] at hk'
      exact hI.sep id id2 b b2 h2 j2 (by rintro rfl; exact hne rfl) h3 k ((foot_plain hpl.1).2 hk) ((foot_plain hpl2.1).2 hk')
end Go.SX
/- What every law ends with: results that the document fixes, run whole. -/
namespace Go.Proofs.Ytdaanchagjamfaa
open Go.SX

/-- A function gone into within a drawn region. -/
def inl (P : Program) (C : Tab) (d f : Nat) : Tab := match P.funcs[f]? with
  | some fn => addF C f (callC false (mkE P C) (hnd (mkE P C) d) fn)
  | none => C
theorem inl_ok {C : Tab} (hC : TabOk C) {d f : Nat} {fn : Func} (hf : Try.prog.funcs[f]? = some fn) (hb : fn.body = some (bodyOf fn)) (hgo : goFn Try.prog f = true) : TabOk (inl Try.prog C d f) := by
  unfold inl
  rw [hf]
  exact hC.add (callC_ok (E := mkE Try.prog C) (mkE_ok hC) hf hb hgo fun G hG => hnd_hndOk (mkE_ok hC) d G _ hG)
def tabI (P : Program) (C : Tab) : Tab := inl P (inl P (inl P (inl P (inl P C 40 81) 40 66) 40 86) 40 31) 40 28
set_option maxRecDepth 100000 in
theorem tabI_ok {C : Tab} (hC : TabOk C) : TabOk (tabI Try.prog C) :=
  inl_ok (inl_ok (inl_ok (inl_ok (inl_ok hC Try.func81 (by kernel_rfl) (by kernel_rfl)) Try.func66 (by kernel_rfl) (by kernel_rfl)) Try.func86 (by kernel_rfl) (by kernel_rfl)) Try.func31 (by kernel_rfl) (by kernel_rfl)) Try.func28 (by kernel_rfl) (by kernel_rfl)
def tabA (P : Program) : Tab := tabI P tab_rFit
theorem tabA_ok : TabOk (tabA Try.prog) := tabI_ok tab_rFit_ok
def yesF : Unit → Bool × AV := fun _ => (true, .bool false true)
def yesC : FC := pureFC (pfOf yesF)
set_option maxRecDepth 100000 in
theorem alive_t : execFn (mkE Try.prog (tabA Try.prog)) (hnd (mkE Try.prog (tabA Try.prog)) 60) false Try.f21 (EncL.enc ()) [] 0 = .leaf (.bool true true) [] := by kernel_rfl
set_option maxRecDepth 100000 in
theorem alive_s : FSound Try.prog 21 yesC := by
  refine plain_fn tabA_ok 60 Try.func21 (by kernel_rfl) (by kernel_rfl) ?_
  rintro ⟨⟩ _
  rw [alive_t]
  rfl
def tab_alive : Tab := addF tab_rFit 21 yesC
theorem tab_alive_ok : TabOk tab_alive := tab_rFit_ok.add alive_s
/-- The law file's own functions without arguments. -/
def tabL (P : Program) (C : Tab) : Tab := inl P (inl P (inl P (inl P (inl P (tabI P C) 40 29) 40 30) 40 32) 40 33) 40 34
theorem tabL_ok {C : Tab} (hC : TabOk C) : TabOk (tabL Try.prog C) :=
  inl_ok (inl_ok (inl_ok (inl_ok (inl_ok (tabI_ok hC) Try.func29 (by kernel_rfl) (by kernel_rfl)) Try.func30 (by kernel_rfl) (by kernel_rfl)) Try.func32 (by kernel_rfl) (by kernel_rfl)) Try.func33 (by kernel_rfl) (by kernel_rfl)) Try.func34 (by kernel_rfl) (by kernel_rfl)
def tabB (P : Program) : Tab := inl P (tabL P tab_alive) 60 22
theorem tabB_ok : TabOk (tabB Try.prog) := inl_ok (tabL_ok tab_alive_ok) Try.func22 (by kernel_rfl) (by kernel_rfl)

end Go.Proofs.Ytdaanchagjamfaa
/- Trees, node by node. -/
namespace Go.SX
open Go

theorem den_need {Q : AV → List (Nat × Blk) → Prop} {b : Bool} {t : Tree} (hb : b = true) (ht : t.den Q) : (Tree.need b t).den Q := ⟨hb, ht⟩
theorem den_bnd {Q : AV → List (Nat × Blk) → Prop} {b : Bool} {f : Bool → Tree} (h : ∀ x, x = b → (f x).den Q) : (Tree.bnd b f).den Q := h
theorem den_bndI {Q : AV → List (Nat × Blk) → Prop} {b : Int} {f : Int → Tree} (h : ∀ x, x = b → (f x).den Q) : (Tree.bndI b f).den Q := h
theorem den_br {Q : AV → List (Nat × Blk) → Prop} {b : Bool} {t e : Tree} (h1 : b = true → t.den Q) (h2 : b = false → e.den Q) : (Tree.br b t e).den Q := ⟨h1, h2⟩
theorem den_ask {Q : AV → List (Nat × Blk) → Prop} {p : Prop} {t : Tree} (hp : p) (ht : t.den Q) : (Tree.ask p t).den Q := ⟨hp, ht⟩
theorem den_asm {Q : AV → List (Nat × Blk) → Prop} {p : Prop} {t : Tree} (ht : p → t.den Q) : (Tree.asm p t).den Q := ht
theorem den_all {Q : AV → List (Nat × Blk) → Prop} {f : (Nat → Value) → Tree} (ht : ∀ g, (f g).den Q) : (Tree.all f).den Q := ht
theorem den_both {Q : AV → List (Nat × Blk) → Prop} {a b : Tree} (h1 : a.den Q) (h2 : b.den Q) : (Tree.both a b).den Q := ⟨h1, h2⟩
/-- What a tree asks for, held together (so that no elaborator unfolds it). -/
structure DenOk (Q : AV → List (Nat × Blk) → Prop) (t : Tree) : Prop where
  den : t.den Q
end Go.SX
/- What a state has to do with a pattern: which block stands for which, and what must be equal. Loops by invariants, told ahead where they begin and how they end. -/
namespace Go.SX
open Go Go.RowKit Go.Proofs.Ytdaanchagjamfaa

inductive Cv where
  | same
  | ghost
  | lift
/-- The pattern's number, the state's, and how. -/
structure Pr where
  p : Nat
  s : Nat
  c : Cv
mutual
def prV : AV → AV → List Pr
  | .ptr id _ _, .ptr id' _ _ => [⟨id', id, .same⟩]
  | .slice _ id _ _ _, .slice _ id' _ _ _ => [⟨id', id, .same⟩]
  | .slice _ id _ _ _, .slz id' _ _ _ => [⟨id', id, .lift⟩]
  | .slz id _ _ _, .slz id' _ _ _ => [⟨id', id, .same⟩]
  | .nils, .slz id' _ _ _ => [⟨id', 0, .ghost⟩]
  | .map id, .map id' => [⟨id', id, .same⟩]
  | .yld id, .yld id' => [⟨id', id, .same⟩]
  | .fn _ l, .fn _ l' => prL l l'
  | .ifc _ v, .ifc _ v' => prV v v'
  | .agg l, .agg l' => prL l l'
  | .tup l, .tup l' => prL l l'
  | _, _ => []
def prL : List AV → List AV → List Pr
  | v :: l, v' :: l' => prV v v' ++ prL l l'
  | _, _ => []
end
def findP : List Pr → Nat → Option Pr
  | [], _ => none
  | x :: l, i => match Nat.beq x.p i with
    | true => some x
    | false => findP l i
def addP : List Pr → List Pr → List Pr
  | [], acc => acc
  | x :: l, acc => match findP acc x.p with
    | some _ => addP l acc
    | none => addP l (acc ++ [x])
def prB : Blk → Blk → List Pr
  | .cells _ _ l, .cells _ _ l' => prL l l'
  | .cells _ _ l, .cellsR _ _ l' => prL l l'
  | .cellsR _ _ l, .cellsR _ _ l' => prL l l'
  | .lp _ _ l _ _ _, .lp _ _ l' _ _ _ => prL l l'
  | .rowl _ _ l, .rowl _ _ l' => prL l.flatten l'.flatten
  | _, _ => []
def stepP (h hJ : List (Nat × Blk)) (Q : List Pr) : List Pr := addP (Q.flatMap fun x => match look h x.s, look hJ x.p with
  | some b, some b' => prB b b'
  | _, _ => []) Q
def baseP (n0 : Nat) : List (Nat × Blk) → List Pr
  | [] => []
  | (i, _) :: l => match Nat.blt i n0 with
    | true => ⟨i, i, .same⟩ :: baseP n0 l
    | false => baseP n0 l
def unif (n0 : Nat) (vals Jv : List AV) (h hJ : List (Nat × Blk)) : List Pr := stepP h hJ (stepP h hJ (stepP h hJ (addP (prL vals Jv) (baseP n0 hJ))))

def isP (Q : List Pr) (p s : Nat) : Bool := match findP Q p with
  | some ⟨_, s', .same⟩ => Nat.beq s s'
  | some ⟨_, s', .lift⟩ => Nat.beq s s'
  | _ => false
def isLift (Q : List Pr) (p s : Nat) : Bool := match findP Q p with
  | some ⟨_, s', .lift⟩ => Nat.beq s s'
  | _ => false
def isSame (Q : List Pr) (p s : Nat) : Bool := match findP Q p with
  | some ⟨_, s', .same⟩ => Nat.beq s s'
  | _ => false
def isGhost (Q : List Pr) (p : Nat) : Bool := match findP Q p with
  | some ⟨_, _, .ghost⟩ => true
  | _ => false
def kindB : IntKind → IntKind → Bool
  | k, k' => k == k'
mutual
/-- What must be equal. -/
def eqV (Q : List Pr) : AV → AV → Option (List Prop)
  | .int _ k n, .int _ k' n' => match kindB k k' with | true => some [n = n'] | false => none
  | .bool _ b, .bool _ b' => some [b = b']
  | .ptr id e j, .ptr id' e' j' => match isP Q id' id with | true => some [e = e', j = j'] | false => none
  | .addr a, .addr a' => some [a = a']
  | .nilp, .nilp => some []
  | .slice _ id e n cp, .slice _ id' e' n' cp' => match isP Q id' id with | true => some [e = e', n = n', cp = cp'] | false => none
  | .slice _ id e n cp, .slz id' e' n' cp' => match isLift Q id' id with | true => some [e = e', n = n', cp = cp'] | false => none
  | .slz id e n cp, .slz id' e' n' cp' => match isSame Q id' id with | true => some [e = e', n = n', cp = cp'] | false => none
  | .nils, .slz id' _ n' _ => match isGhost Q id' with | true => some [n' = 0] | false => none
  | .nils, .nils => some []
  | .map id, .map id' => match isP Q id' id with | true => some [] | false => none
  | .yld id, .yld id' => match isP Q id' id with | true => some [] | false => none
  | .nilm, .nilm => some []
  | .fn f l, .fn f' l' => match eqL Q l l' with | some ps => some ((f = f') :: ps) | none => none
  | .nilf, .nilf => some []
  | .ifc t v, .ifc t' v' => match eqV Q v v' with | some ps => some ((t = t') :: ps) | none => none
  | .nili, .nili => some []
  | .str s, .str s' => some [s = s']
  | .agg l, .agg l' => eqL Q l l'
  | .tup l, .tup l' => eqL Q l l'
  | .raw v, .raw v' => some [v = v']
  | _, _ => none
def eqL (Q : List Pr) : List AV → List AV → Option (List Prop)
  | [], [] => some []
  | v :: l, v' :: l' => match eqV Q v v', eqL Q l l' with
    | some ps, some qs => some (ps ++ qs)
    | _, _ => none
  | _, _ => none
end
def eqLL (Q : List Pr) : List (List AV) → List (List AV) → Option (List Prop)
  | [], [] => some []
  | v :: l, v' :: l' => match eqL Q v v', eqLL Q l l' with
    | some ps, some qs => some (ps ++ qs)
    | _, _ => none
  | _, _ => none
/-- The numbers of two rows are equal. -/
def eqF : Nat → Nat → (Nat → Int) → (Nat → Int) → Prop
  | 0, _, _, _ => True
  | n + 1, j, f, g => f j = g j ∧ eqF n (j + 1) f g
theorem eqF_get : ∀ {n j : Nat} {f g : Nat → Int}, eqF n j f g → ∀ i, i < n → f (j + i) = g (j + i)
  | 0, _, _, _, _, i, hi => by omega
  | n + 1, j, f, g, h, 0, _ => h.1
  | n + 1, j, f, g, h, i + 1, hi => by
    have := eqF_get h.2 i (by omega)
    rw [show j + (i + 1) = j + 1 + i by omega]; exact this
def RowsEq (m n : Nat) (g g' : Nat → Nat → Int) : Prop := ∀ i, i < n → eqF m 0 (g i) (g' i)
theorem eqF_refl : ∀ (n j : Nat) (f : Nat → Int), eqF n j f f
  | 0, _, _ => trivial
  | n + 1, j, f => ⟨rfl, eqF_refl n (j + 1) f⟩
theorem RowsEq.refl (m n : Nat) (g : Nat → Nat → Int) : RowsEq m n g g := fun _ _ => eqF_refl _ _ _
def RowsIs (ks : List CK) (l : List (List AV)) (n : Nat) (g' : Nat → Nat → Int) : Prop := n ≤ l.length ∧ ∀ i, i < n → ∀ x, l[i]? = some x → ∀ r, AV.denL r x = AV.denL r (rowG ks g' i)
def ArrIs (ks : List CK) (n : Nat) (g : Nat → List AV) (g' : Nat → Nat → Int) : Prop := ∀ i, i < n → ∀ r, AV.denL r (g i) = AV.denL r (rowG ks g' i)
def Rows2Eq (m n : Nat) (ln ln' : Nat → Nat) (g g' : Nat → Nat → Nat → Int) : Prop := ∀ i, i < n → ln i = ln' i ∧ RowsEq m (ln' i) (g i) (g' i)
def MapEq (z z' : AV) (has has' : Int → Bool) (g g' : Int → AV) : Prop := (∀ r, z.den r = z'.den r) ∧ z'.all (fun _ => false) = true ∧ (∀ n, has n = has' n) ∧ ∀ n, (∀ r, (g n).den r = (g' n).den r) ∧ (g' n).all (fun _ => false) = true
def MapNil (z : AV) (has : Int → Bool) (g : Int → AV) : Prop := z.all (fun _ => false) = true ∧ (∀ n, has n = false) ∧ ∀ n, (∀ r, (g n).den r = z.den r) ∧ (g n).all (fun _ => false) = true
def eqB (Q : List Pr) (c : Cv) : Blk → Blk → Option (List Prop)
  | .cells z t l, .cells z' t' l' => match c, Nat.beq z z', Nat.beq t t' with | .same, true, true => eqL Q l l' | _, _, _ => none
  | .cells z t l, .cellsR z' t' l' => match c, Nat.beq z z', Nat.beq t t' with | .same, true, true => eqL Q l l' | _, _, _ => none
  | .cellsR z t l, .cellsR z' t' l' => match c, Nat.beq z z', Nat.beq t t' with | .same, true, true => eqL Q l l' | _, _, _ => none
  | .rowl t z l, .rowl t' z' l' => match c, Nat.beq z z', Nat.beq t t' with | .same, true, true => eqLL Q l l' | _, _, _ => none
  | .arr z n g, .arr z' n' g' => match c, Nat.beq z z' with | .same, true => some [n = n', g = g'] | _, _ => none
  | .rowz o t ks n g, .rowz o' t' ks' n' g' => match c, ksB ks ks', Nat.beq t t', (o || !o') with | .same, true, true, true => some [n' ≤ n, RowsEq ks'.length n' g g'] | _, _, _, _ => none
  | .rowz _ _ ks n g, .frz ks' n' g' => match c, ksB ks ks' with | .same, true => some [n' ≤ n, RowsEq ks'.length n' g g'] | _, _ => none
  | .frz ks n g, .frz ks' n' g' => match c, ksB ks ks' with | .same, true => some [n' ≤ n, RowsEq ks'.length n' g g'] | _, _ => none
  | .frz2 o t ks n ln g, .frz2 o' t' ks' n' ln' g' => match c, ksB ks ks', Nat.beq t t', (o || !o') with | .same, true, true, true => some [n = n', Rows2Eq ks'.length n' ln ln' g g'] | _, _, _, _ => none
  | .rowl t z l, .rowz _ t' ks' n' g' => match c, Nat.beq z ks'.length, Nat.beq t t' with | .lift, true, true => some [RowsIs ks' l n' g'] | _, _, _ => none
  | .rowl _ z l, .frz ks' n' g' => match c, Nat.beq z ks'.length with | .lift, true => some [RowsIs ks' l n' g'] | _, _ => none
  | .rowlR _ z l, .frz ks' n' g' => match c, Nat.beq z ks'.length with | .lift, true => some [RowsIs ks' l n' g'] | _, _ => none
  | .arr z n g, .frz ks' n' g' => match c, Nat.beq z ks'.length with | .lift, true => some [n' ≤ n, ArrIs ks' n' g g'] | _, _ => none
  | .mp es cl, .mp es' cl' => match c with | .same => some [es = es', cl = cl'] | _ => none
  | .mp es _, .mpf _ z has g => match c with | .same => some [es = [], MapNil z has g] | _ => none
  | .mpf k z has g, .mpf k' z' has' g' => match c, kindB k k' with | .same, true => some [MapEq z z' has has' g g'] | _, _ => none
  | .lp s pe l ps as body, .lp s' pe' l' ps' as' body' => match c, eqL Q l l' with | .same, some qs => some ((s = s') :: (pe = pe') :: (ps = ps') :: (as = as') :: (body = body') :: qs) | _, _ => none
  | _, _ => none
/-- What has no block of its own. -/
def eqG : Blk → Option (List Prop)
  | .rowz _ _ _ n _ => some [n = 0]
  | .frz _ n _ => some [n = 0]
  | _ => none
def eqH (Q : List Pr) (h : List (Nat × Blk)) : List (Nat × Blk) → Option (List Prop)
  | [] => some []
  | (i, b) :: l => match findP Q i with
    | some ⟨_, _, .ghost⟩ => (match eqG b, eqH Q h l with
      | some ps, some qs => some (ps ++ qs)
      | _, _ => none)
    | some ⟨_, s, c⟩ => (match look h s with
      | some b' => (match eqB Q c b' b, eqH Q h l with
        | some ps, some qs => some (ps ++ qs)
        | _, _ => none)
      | none => none)
    | none => none
/-- No two of the pattern's blocks are one of the state's. -/
def injP (Q : List Pr) : List (Nat × Blk) → Bool
  | [] => true
  | (i, _) :: l => (match findP Q i with
    | some ⟨_, s, c⟩ => l.all fun p => match findP Q p.1 with
      | some ⟨_, s', c'⟩ => (match c, c' with
        | .ghost, _ => true
        | _, .ghost => true
        | _, _ => !(Nat.beq s s'))
      | none => false
    | none => false) && injP Q l
def lowP (n0 : Nat) : List Pr → Bool
  | [] => true
  | x :: l => (match Nat.blt x.p n0 with
    | true => (match x.c with | .same => Nat.beq x.p x.s | _ => false)
    | false => true) && lowP n0 l
def distH : List (Nat × Blk) → Bool
  | [] => true
  | (i, _) :: l => (l.all fun p => !(Nat.beq i p.1)) && distH l
def subE (n0 : Nat) (vals : List AV) (h : List (Nat × Blk)) (J : JSt) : Option (List Prop) :=
  match unif n0 vals (J.live.map (·.2)) h J.hp with
  | Q => match eqL Q vals (J.live.map (·.2)), eqH Q h J.hp, (scopeJ J && (injP Q J.hp && (lowP n0 Q && (noDfr h && distH J.hp)))) with
    | some ps, some qs, true => some (ps ++ qs)
    | _, _, _ => none
def allE : List Prop → Prop
  | [] => True
  | p :: l => p ∧ allE l
theorem allE_append : ∀ {a b : List Prop}, allE (a ++ b) ↔ allE a ∧ allE b
  | [], b => by simp [allE]
  | p :: a, b => by simp only [List.cons_append, allE, allE_append (a := a)]; exact and_assoc.symm
structure SubOk (n0 : Nat) (ls : List Nat) (len : Nat) (vals : List AV) (h : List (Nat × Blk)) (J : JSt) : Prop where
  slots : J.live.map (·.1) = ls
  len : len = J.len
  eqs : ∃ ps, subE n0 vals h J = some ps ∧ allE ps

/-- Where the pattern's blocks lie. -/
def liftL (l : Loc) : Loc := { l with nil := false, nb := none, foot := fun k => k = l.blk }
def zOf : Option Blk → Nat
  | some (.rowz _ _ ks _ _) => ks.length
  | some (.frz ks _ _) => ks.length
  | _ => 0
def locP (Q : List Pr) (hJ : List (Nat × Blk)) (r : Nat → Loc) (i : Nat) : Loc := match findP Q i with
  | some ⟨_, s, .same⟩ => r s
  | some ⟨_, s, .lift⟩ => liftL (r s)
  | some ⟨_, _, .ghost⟩ => Loc.none (zOf (look hJ i))
  | none => r i
theorem isP_den {Q : List Pr} {hJ : List (Nat × Blk)} {p s : Nat} (h : isP Q p s = true) (r : Nat → Loc) : (locP Q hJ r p).blk = (r s).blk ∧ (locP Q hJ r p).off = (r s).off ∧ (locP Q hJ r p).esz = (r s).esz ∧ (locP Q hJ r p).cap = (r s).cap := by
  unfold isP at h
  unfold locP
  split at h
  · rename_i s' he
    rw [he]
    have := Nat.eq_of_beq_eq_true h
    subst this
    exact ⟨rfl, rfl, rfl, rfl⟩
  · rename_i s' he
    rw [he]
    have := Nat.eq_of_beq_eq_true h
    subst this
    exact ⟨rfl, rfl, rfl, rfl⟩
  · cases h
theorem isLift_den {Q : List Pr} {hJ : List (Nat × Blk)} {p s : Nat} (h : isLift Q p s = true) (r : Nat → Loc) : locP Q hJ r p = liftL (r s) := by
  unfold isLift at h
  unfold locP
  split at h
  · rename_i s' he
    rw [he]
    have := Nat.eq_of_beq_eq_true h
    subst this; rfl
  · cases h
theorem isSame_den {Q : List Pr} {hJ : List (Nat × Blk)} {p s : Nat} (h : isSame Q p s = true) (r : Nat → Loc) : locP Q hJ r p = r s := by
  unfold isSame at h
  unfold locP
  split at h
  · rename_i s' he
    rw [he]
    have := Nat.eq_of_beq_eq_true h
    subst this; rfl
  · cases h
theorem isGhost_den {Q : List Pr} {hJ : List (Nat × Blk)} {p : Nat} (h : isGhost Q p = true) (r : Nat → Loc) : ∃ z, locP Q hJ r p = Loc.none z := by
  unfold isGhost at h
  unfold locP
  split at h
  · rename_i he
    rw [he]
    exact ⟨_, rfl⟩
  · cases h
mutual
theorem eqV_den {Q : List Pr} {hJ : List (Nat × Blk)} (r : Nat → Loc) : ∀ (v v' : AV) (ps : List Prop), eqV Q v v' = some ps → allE ps → v.den r = v'.den (locP Q hJ r) := by
  intro v v' ps h ha
  cases v <;> cases v' <;> simp only [eqV] at h <;> (try (cases h; done)) <;> (try (split at h <;> (try (cases h; done)))) <;> (try (simp only [Option.some.injEq] at h; subst h)) <;> (try simp only [allE, and_true] at ha)
  · rename_i hk; have hk := beq_iff_eq.1 hk; subst hk; rw [AV.den, AV.den, ha]
  · rw [AV.den, AV.den, ha]
  · rename_i hk; obtain ⟨h1, h2, h3, h4⟩ := isP_den (hJ := hJ) hk r; rw [AV.den, AV.den, h1, h2, h3, ha.1, ha.2]
  · rw [AV.den, AV.den, ha]
  · rfl
  · rename_i hk; obtain ⟨h1, h2, h3, h4⟩ := isP_den (hJ := hJ) hk r; rw [AV.den, AV.den, h1, h2, h3, h4, ha.1, ha.2.1, ha.2.2]
  · rename_i hk; have h1 := isLift_den (hJ := hJ) hk r; simp only [AV.den]; rw [h1, ha.1, ha.2.1, ha.2.2]; rfl
  · rfl
  · rename_i hk; obtain ⟨z, h1⟩ := isGhost_den (hJ := hJ) hk r; simp only [AV.den]; rw [h1, ha]; rfl
  · rename_i hk; have h1 := isSame_den (hJ := hJ) hk r; simp only [AV.den]; rw [h1, ha.1, ha.2.1, ha.2.2]
  · rename_i hk; obtain ⟨h1, h2, h3, h4⟩ := isP_den (hJ := hJ) hk r; rw [AV.den, AV.den, h1]
  · rename_i hk; obtain ⟨h1, h2, h3, h4⟩ := isP_den (hJ := hJ) hk r; rw [AV.den, AV.den, h1]
  · rfl
  · rename_i hl; simp only [AV.den]; rw [ha.1, eqL_den r _ _ _ hl ha.2]
  · rfl
  · rename_i hl; simp only [AV.den]; rw [ha.1, eqV_den r _ _ _ hl ha.2]
  · rfl
  · rw [AV.den, AV.den, ha]
  · simp only [AV.den]; rw [eqL_den r _ _ _ h ha]
  · simp only [AV.den]; rw [eqL_den r _ _ _ h ha]
  · rw [AV.den, AV.den, ha]
theorem eqL_den {Q : List Pr} {hJ : List (Nat × Blk)} (r : Nat → Loc) : ∀ (l l' : List AV) (ps : List Prop), eqL Q l l' = some ps → allE ps → AV.denL r l = AV.denL (locP Q hJ r) l'
  | [], [], _, _, _ => rfl
  | [], _ :: _, _, h, _ => by simp [eqL] at h
  | _ :: _, [], _, h, _ => by simp [eqL] at h
  | v :: l, v' :: l', ps, h, ha => by
    simp only [eqL] at h
    split at h <;> (try (cases h; done))
    rename_i p1 p2 h1 h2
    simp only [Option.some.injEq] at h; subst h
    obtain ⟨a1, a2⟩ := allE_append.1 ha
    simp only [AV.denL]
    rw [eqV_den r _ _ _ h1 a1, eqL_den r _ _ _ h2 a2]
end
theorem eqL_len {Q : List Pr} : ∀ {l l' : List AV} {ps : List Prop}, eqL Q l l' = some ps → l.length = l'.length
  | [], [], _, _ => rfl
  | [], _ :: _, _, h => by simp [eqL] at h
  | _ :: _, [], _, h => by simp [eqL] at h
  | v :: l, v' :: l', ps, h => by
    simp only [eqL] at h
    split at h <;> (try (cases h; done))
    rename_i p1 p2 h1 h2
    simp only [List.length_cons, eqL_len h2]
theorem denL_app (r : Nat → Loc) (a b : List AV) : AV.denL r (a ++ b) = AV.denL r a ++ AV.denL r b := by simp only [denL_map, List.map_append]
theorem eqLL_den {Q : List Pr} {hJ : List (Nat × Blk)} (r : Nat → Loc) : ∀ (l l' : List (List AV)) (ps : List Prop), eqLL Q l l' = some ps → allE ps → AV.denL r l.flatten = AV.denL (locP Q hJ r) l'.flatten ∧ l.length = l'.length ∧ ∀ z, (∀ x ∈ l, x.length = z) → ∀ x ∈ l', x.length = z
  | [], [], _, _, _ => ⟨rfl, rfl, fun _ h => h⟩
  | [], _ :: _, _, h, _ => by simp [eqLL] at h
  | _ :: _, [], _, h, _ => by simp [eqLL] at h
  | v :: l, v' :: l', ps, h, ha => by
    simp only [eqLL] at h
    split at h <;> (try (cases h; done))
    rename_i p1 p2 h1 h2
    simp only [Option.some.injEq] at h; subst h
    obtain ⟨a1, a2⟩ := allE_append.1 ha
    obtain ⟨e1, e2, e3⟩ := eqLL_den (hJ := hJ) r l l' _ h2 a2
    refine ⟨?_, by simp only [List.length_cons, e2], fun z hz x hx => ?_⟩
    · rw [List.flatten_cons, List.flatten_cons, denL_app, denL_app, eqL_den r _ _ _ h1 a1, e1]
    · rcases List.mem_cons.1 hx with rfl | hx
      · rw [← eqL_len h1]; exact hz v List.mem_cons_self
      · exact e3 z (fun y hy => hz y (List.mem_cons_of_mem _ hy)) x hx
end Go.SX
/- What a state has to do with a pattern: the law; loops by invariants told ahead. -/
namespace Go.SX
open Go Go.RowKit Go.Proofs.Ytdaanchagjamfaa

theorem rowsEq_row {ks : List CK} {n : Nat} {g g' : Nat → Nat → Int} (h : RowsEq ks.length n g g') {i : Nat} (hi : i < n) : rowG ks g i = rowG ks g' i :=
  cellsOf_congr ks 0 fun j hj => eqF_get (h i hi) j hj
theorem rowsAt_of {r r' : Nat → Loc} {w : World} {l : Loc} {ks : List CK} {n : Nat} {g : Nat → Nat → Int} (h1 : l.nil = true → n = 0) (h2 : ∀ i, i < n → l.foot l.blk) (h3 : ∀ i, i < n → ∀ j v, (rowG ks g i)[j]? = some v → w.cell? ⟨l.blk, l.off + i * ks.length + j, none⟩ = some (v.den r)) : RowsAt w r' l ks.length n (rowG ks g) := by
  refine ⟨h1, fun i hi => ⟨h2 i hi, cellsOf_len _ _ _, fun j v hv => ?_⟩⟩
  have hf : flatC v = true := by
    have := cellsOf_flat ks 0 (g i)
    rw [flatR, List.all_eq_true] at this
    exact this v (List.mem_of_getElem? hv)
  exact ⟨hf, by rw [h3 i hi j v hv, den_congr (p := fun _ => false) (r := r) (r' := r') (fun _ hf => by cases hf) v (flatC_all hf)]⟩
/-- Rows there, read at a place that lies the same. -/
theorem rows_rep {r r' : Nat → Loc} {w : World} {l l' : Loc} {ks : List CK} {n n' : Nat} {g g' : Nat → Nat → Int} (h : RowsAt w r l ks.length n (rowG ks g)) (hle : n' ≤ n) (hg : RowsEq ks.length n' g g') (h1 : l'.blk = l.blk) (h2 : l'.off = l.off) (h3 : l'.nil = true → l.nil = true) (h4 : ∀ k, l.foot k → l'.foot k) : RowsAt w r' l' ks.length n' (rowG ks g') := by
  refine rowsAt_of (r := r) (fun hn => by have := h.1 (h3 hn); omega) (fun i hi => by rw [h1]; exact h4 _ (h.2 i (by omega)).1) fun i hi j v hv => ?_
  rw [h1, h2]
  rw [← rowsEq_row hg hi] at hv
  exact ((h.2 i (by omega)).2.2 j v hv).2
theorem rowz_at {r : Nat → Loc} {w : World} {id : Nat} {ty : TypeId} {z n : Nat} {g : Nat → List AV} (h : RowzR r id w ty z n g) : RowsAt w r (r id) z n g := by
  refine ⟨h.2.2.2.1, fun i hi => ?_⟩
  have hn := rowz_nil h (by omega)
  refine ⟨(h.2.2.1 _).2 ⟨hn, rfl⟩, (h.2.2.2.2.1 i hi).1, fun j v hv => ⟨?_, rowz_cell h hi hv⟩⟩
  have hf := (h.2.2.2.2.1 i hi).2
  rw [flatR, List.all_eq_true] at hf
  exact hf v (List.mem_of_getElem? hv)
/-- Cells that stand for the same. -/
theorem denL_at {r : Nat → Loc} {x y : List AV} (h : AV.denL r x = AV.denL r y) {j : Nat} {v : AV} (hv : y[j]? = some v) : ∃ u, x[j]? = some u ∧ u.den r = v.den r := by
  have e := congrArg (fun l => l[j]?) h
  simp only [denL_map, List.getElem?_map, hv, Option.map_some] at e
  cases hu : x[j]? with
  | none => rw [hu] at e; cases e
  | some u => rw [hu] at e; exact ⟨u, rfl, by simpa using e⟩
/-- Rows of a block that is known whole. -/
theorem rowl_at {r : Nat → Loc} {w : World} {id : Nat} {ty : TypeId} {ks : List CK} {l : List (List AV)} (h : BRep r id w (.rowl ty ks.length l)) {r' : Nat → Loc} {n : Nat} {g : Nat → Nat → Int} (hg : RowsIs ks l n g) {l' : Loc} (h1 : l'.blk = (r id).blk) (h2 : l'.off = (r id).off) (h3 : l'.nil = false) (h4 : l'.foot (r id).blk) : RowsAt w r' l' ks.length n (rowG ks g) := by
  obtain ⟨ho, hz, hlen, hcap, rest, hrest, hbk⟩ := h
  refine rowsAt_of (r := r) (fun hn => by rw [h3] at hn; cases hn) (fun i hi => by rw [h1]; exact h4) fun i hi j v hv => ?_
  have hx := List.getElem?_eq_getElem (l := l) (i := i) (by have := hg.1; omega)
  obtain ⟨u, hu, hd⟩ := denL_at (hg.2 i hi _ hx r) hv
  have hl0 := hlen _ (List.mem_of_getElem? hx)
  have hj := (List.getElem?_eq_some_iff.1 hu).1
  obtain ⟨f1, f2⟩ := flatten_get ks.length l hlen i _ hx j (by omega)
  rw [h1, h2, ho, Nat.zero_add, bk_cells_cell hbk, List.getElem?_append_left (by rw [denL_length]; exact f1), denL_map, List.getElem?_map, f2, hu]
  simp only [Option.map_some, hd]
theorem mapIs_to {r r' : Nat → Loc} {k : IntKind} {z z' : AV} {has has' : Int → Bool} {g g' : Int → AV} {es : List MapEntry} (h : MapIs r k z has g es) (e : MapEq z z' has has' g g') : MapIs r' k z' has' g' es := by
  obtain ⟨e1, e2, e3, e4⟩ := e
  have c : ∀ v : AV, v.all (fun _ => false) = true → v.den r = v.den r' := den_congr (fun _ hf => by cases hf)
  refine ⟨h.keys, h.once, fun n => (e4 n).2, e2, fun n hn => ?_, fun n hn => ?_⟩
  · rw [← c _ (e4 n).2, ← (e4 n).1 r]; exact h.yes n (by rw [e3]; exact hn)
  · rw [← c _ (e4 n).2, ← c _ e2, ← (e4 n).1 r, ← e1 r]; exact h.no n (by rw [e3]; exact hn)
theorem eqB_ok {Q : List Pr} {hJ : List (Nat × Blk)} {r : Nat → Loc} {w : World} {p s : Nat} {c : Cv} {x : Pr} (hf : findP Q p = some ⟨x.p, s, c⟩) {b b' : Blk} {ps : List Prop} (h : eqB Q c b b' = some ps) (ha : allE ps) (hb : BRep r s w b) :
    BRep (locP Q hJ r) p w b' ∧ (∀ k, Foot (locP Q hJ r) p b' k → Foot r s b k) ∧ (b'.own = true → b.own = true) := by
  have Ls : c = .same → locP Q hJ r p = r s := by intro e; subst e; unfold locP; rw [hf]
  have Ll : c = .lift → locP Q hJ r p = liftL (r s) := by intro e; subst e; unfold locP; rw [hf]
  unfold eqB at h
  split at h
  · -- cells
    split at h <;> (try (cases h; done))
    rename_i c0 z0 t0
    have L := Ls rfl
    have z0 := Nat.eq_of_beq_eq_true z0
    have t0 := Nat.eq_of_beq_eq_true t0
    subst z0 t0
    refine ⟨?_, ?_, id⟩
    · simp only [BRep] at hb ⊢
      rw [L, ← eqL_den r _ _ _ h ha]; exact hb
    · intro k hk
      have hk : k = (locP Q hJ r p).blk := hk
      rw [L] at hk; exact hk
  · split at h <;> (try (cases h; done))
    rename_i c0 z0 t0
    have L := Ls rfl
    have z0 := Nat.eq_of_beq_eq_true z0
    have t0 := Nat.eq_of_beq_eq_true t0
    subst z0 t0
    refine ⟨?_, ?_, fun h => by cases h⟩
    · simp only [BRep] at hb ⊢
      rw [L, ← eqL_den r _ _ _ h ha]; exact hb
    · intro k hk
      have hk : k = (locP Q hJ r p).blk := hk
      rw [L] at hk; exact hk
  · split at h <;> (try (cases h; done))
    rename_i c0 z0 t0
    have L := Ls rfl
    have z0 := Nat.eq_of_beq_eq_true z0
    have t0 := Nat.eq_of_beq_eq_true t0
    subst z0 t0
    refine ⟨?_, ?_, fun h => by cases h⟩
    · simp only [BRep] at hb ⊢
      rw [L, ← eqL_den r _ _ _ h ha]; exact hb
    · intro k hk
      have hk : k = (locP Q hJ r p).blk := hk
      rw [L] at hk; exact hk
  · -- rowl, rowl
    split at h <;> (try (cases h; done))
    rename_i c0 z0 t0
    have L := Ls rfl
    have z0 := Nat.eq_of_beq_eq_true z0
    have t0 := Nat.eq_of_beq_eq_true t0
    subst z0 t0
    obtain ⟨e1, e2, e3⟩ := eqLL_den (hJ := hJ) r _ _ _ h ha
    refine ⟨?_, ?_, id⟩
    · simp only [BRep] at hb ⊢
      rw [L, ← e1, ← e2]
      exact ⟨hb.1, hb.2.1, e3 _ hb.2.2.1, hb.2.2.2⟩
    · intro k hk
      have hk : k = (locP Q hJ r p).blk := hk
      rw [L] at hk; exact hk
  · -- arr, arr
    split at h <;> (try (cases h; done))
    rename_i c0 z0
    simp only [Option.some.injEq] at h; subst h
    simp only [allE, and_true] at ha
    have L := Ls rfl
    have z0 := Nat.eq_of_beq_eq_true z0
    subst z0
    obtain ⟨rfl, rfl⟩ := ha
    refine ⟨?_, ?_, fun h => by cases h⟩
    · simp only [BRep] at hb ⊢
      rw [L]
      refine ⟨hb.1, hb.2.1, fun i hi => ⟨(hb.2.2 i hi).1, fun j v hv => ?_⟩⟩
      obtain ⟨a1, a2⟩ := (hb.2.2 i hi).2 j v hv
      exact ⟨a1, by rw [a2, den_congr (p := fun _ => false) (r := r) (r' := locP Q hJ r) (fun _ hf => by cases hf) v a1]⟩
    · intro k hk
      have hk : k = (locP Q hJ r p).blk := hk
      rw [L] at hk; exact hk
  · -- rowz, rowz
    rename_i o t ks n g o' t' ks' n' g'
    split at h <;> (try (cases h; done))
    rename_i c0 z0 t0 ho
    simp only [Option.some.injEq] at h; subst h
    simp only [allE, and_true] at ha
    have L := Ls rfl
    have z0 := ksB_eq z0
    have t0 := Nat.eq_of_beq_eq_true t0
    subst z0 t0
    have hb0 : RowzR r s w t ks.length n (rowG ks g) := hb
    refine ⟨?_, fun k hk => ?_, fun h => ?_⟩
    · show RowzR (locP Q hJ r) p w t ks.length n' (rowG ks g')
      unfold RowzR
      rw [L]
      have hb1 := hb0
      obtain ⟨h1, h2, h3, h4, h5, h6⟩ := hb0
      refine ⟨h1, h2, h3, fun hn => by have := h4 hn; omega, fun i hi => ⟨cellsOf_len _ _ _, cellsOf_flat _ _ _⟩, fun hn => ?_⟩
      have hrow := rowl_take (rowz_rowl hb1 hn) (k := n') (by rw [rowsTo_len]; exact ha.1)
      have hz := rowl_rowz (n := n') (get := rowG ks g') hrow hn (fun k => by rw [h3, hn]; simp) (by rw [List.length_take, rowsTo_len]; omega) (fun i x hx => by
        have hi := (List.getElem?_eq_some_iff.1 hx).1
        simp only [List.length_take, rowsTo_len] at hi
        rw [List.getElem?_take_of_lt (by omega)] at hx
        rw [rowsTo_get (by omega)] at hx
        simp only [Option.some.injEq] at hx; subst hx
        rw [rowsEq_row ha.2 (by omega)]) (fun i hi => cellsOf_flat _ _ _)
      obtain ⟨k1, rest, k2, k3⟩ := hz.2.2.2.2.2 hn
      exact ⟨k1, rest, k2, by rw [k3, denL_congr (p := fun _ => false) (r := r) (r' := locP Q hJ r) (fun _ hf => by cases hf) _ (rowsTo_flat fun i hi => flatR_all (l := rowG ks g' i) (cellsOf_flat _ _ _))]⟩
    · have hk : (locP Q hJ r p).foot k := hk
      rw [L] at hk; exact hk
    · simp only [Blk.own] at h ⊢
      rw [h] at ho; simpa using ho
  · -- rowz, frz
    rename_i o t ks n g ks' n' g'
    split at h <;> (try (cases h; done))
    rename_i c0 z0
    simp only [Option.some.injEq] at h; subst h
    simp only [allE, and_true] at ha
    have L := Ls rfl
    have z0 := ksB_eq z0
    subst z0
    have hb0 : RowzR r s w t ks.length n (rowG ks g) := hb
    refine ⟨?_, fun k hk => ?_, fun h => by cases h⟩
    · simp only [BRep]
      rw [L]
      exact ⟨hb0.2.1, hb.lt rfl, rows_rep (rowz_at hb0) ha.1 ha.2 rfl rfl id (fun _ h => h)⟩
    · have hk : (locP Q hJ r p).foot k := hk
      rw [L] at hk; exact hk
  · -- frz, frz
    split at h <;> (try (cases h; done))
    rename_i c0 z0
    simp only [Option.some.injEq] at h; subst h
    simp only [allE, and_true] at ha
    have L := Ls rfl
    have z0 := ksB_eq z0
    subst z0
    refine ⟨?_, fun k hk => ?_, fun h => by cases h⟩
    · simp only [BRep]
      rw [L]
      exact ⟨hb.1, hb.2.1, rows_rep hb.2.2 ha.1 ha.2 rfl rfl id (fun _ h => h)⟩
    · have hk : (locP Q hJ r p).foot k := hk
      rw [L] at hk; exact hk
  · -- frz2
    rename_i o t ks n ln g o' t' ks' n' ln' g'
    split at h <;> (try (cases h; done))
    rename_i c0 z0 t0 ho
    simp only [Option.some.injEq] at h; subst h
    simp only [allE, and_true] at ha
    have L := Ls rfl
    have z0 := ksB_eq z0
    have t0 := Nat.eq_of_beq_eq_true t0
    subst z0 t0
    obtain ⟨rfl, ha⟩ := ha
    refine ⟨?_, fun k hk => ?_, fun h => ?_⟩
    · simp only [BRep] at hb ⊢
      rw [L]
      obtain ⟨h1, h2, h3, inner, h4, h5, h6, h7⟩ := hb
      refine ⟨h1, h2, h3, inner, h4, h5, fun i hi => ?_, fun hn => ?_⟩
      · obtain ⟨a1, a2⟩ := ha i hi
        obtain ⟨c1, c2, c3⟩ := h6 i hi
        rw [a1] at c3
        exact ⟨c1, c2, rows_rep c3 (Nat.le_refl _) a2 rfl rfl id (fun _ h => h)⟩
      · obtain ⟨k1, rest, k2, k3⟩ := h7 hn
        refine ⟨k1, rest, k2, ?_⟩
        rw [k3]
        congr 3
        apply congrArg (· ++ rest)
        apply List.map_congr_left
        intro i hi
        rw [(ha i (List.mem_range.1 hi)).1]
    · have hk : (locP Q hJ r p).foot k := hk
      rw [L] at hk; exact hk
    · simp only [Blk.own] at h ⊢
      rw [h] at ho; simpa using ho
  · -- rowl, rowz
    rename_i t z l o' t' ks' n' g'
    split at h <;> (try (cases h; done))
    rename_i c0 z0 t0
    simp only [Option.some.injEq] at h; subst h
    simp only [allE, and_true] at ha
    have L := Ll rfl
    have z0 := Nat.eq_of_beq_eq_true z0
    have t0 := Nat.eq_of_beq_eq_true t0
    subst z0 t0
    refine ⟨?_, fun k hk => ?_, fun _ => rfl⟩
    · show RowzR (locP Q hJ r) p w t ks'.length n' (rowG ks' g')
      unfold RowzR
      rw [L]
      refine ⟨hb.1, hb.2.1, fun k => ?_, fun hn => (by cases hn), fun i hi => ⟨cellsOf_len _ _ _, cellsOf_flat _ _ _⟩, fun _ => ?_⟩
      · simp [liftL]
      · have hrow := rowl_take hb ha.1
        obtain ⟨k0, k1, k2, k3, rest, k4, k5⟩ := hrow
        have hlen : (l.take n').length = n' := by rw [List.length_take]; have := ha.1; omega
        refine ⟨by rw [hlen] at k3; exact k3, rest, by rw [hlen] at k4; exact k4, ?_⟩
        show bk w (r s).blk = _
        rw [k5]
        have e1 : AV.denL r (l.take n').flatten = AV.denL r (rowsTo n' (rowG ks' g')).flatten := by
          apply flat_congr
          apply List.ext_getElem?
          intro i
          rw [List.getElem?_map, List.getElem?_map]
          rcases Nat.lt_or_ge i n' with hi | hi
          · have hx := List.getElem?_eq_getElem (l := l) (i := i) (by have := ha.1; omega)
            rw [List.getElem?_take_of_lt hi, rowsTo_get hi, hx]
            simp only [Option.map_some, ha.2 i hi _ hx r]
          · rw [List.getElem?_eq_none (by omega), List.getElem?_eq_none (by rw [rowsTo_len]; exact hi)]
        rw [e1, denL_congr (p := fun _ => false) (r := r) (r' := locP Q hJ r) (fun _ hf => by cases hf) _ (rowsTo_flat fun i hi => flatR_all (l := rowG ks' g' i) (cellsOf_flat _ _ _))]
    · have hk : (locP Q hJ r p).foot k := hk
      rw [L] at hk; exact hk
  · -- rowl, frz
    split at h <;> (try (cases h; done))
    rename_i c0 z0
    simp only [Option.some.injEq] at h; subst h
    simp only [allE, and_true] at ha
    have L := Ll rfl
    have z0 := Nat.eq_of_beq_eq_true z0
    subst z0
    refine ⟨?_, fun k hk => ?_, fun h => by cases h⟩
    · simp only [BRep]
      rw [L]
      exact ⟨hb.2.1, fun k hk => hb.lt rfl k hk, rowl_at hb ha (l' := liftL (r s)) rfl rfl rfl rfl⟩
    · have hk : (locP Q hJ r p).foot k := hk
      rw [L] at hk; exact hk
  · -- rowlR, frz
    split at h <;> (try (cases h; done))
    rename_i c0 z0
    simp only [Option.some.injEq] at h; subst h
    simp only [allE, and_true] at ha
    have L := Ll rfl
    have z0 := Nat.eq_of_beq_eq_true z0
    subst z0
    refine ⟨?_, fun k hk => ?_, fun h => by cases h⟩
    · simp only [BRep]
      rw [L]
      exact ⟨hb.2.1, fun k hk => hb.lt rfl k hk, rowl_at (hb.peel) ha (l' := liftL (r s)) rfl rfl rfl rfl⟩
    · have hk : (locP Q hJ r p).foot k := hk
      rw [L] at hk; exact hk
  · -- arr, frz
    rename_i z n g ks' n' g'
    split at h <;> (try (cases h; done))
    rename_i c0 z0
    simp only [Option.some.injEq] at h; subst h
    simp only [allE, and_true] at ha
    have L := Ll rfl
    have z0 := Nat.eq_of_beq_eq_true z0
    subst z0
    refine ⟨?_, fun k hk => ?_, fun h => by cases h⟩
    · simp only [BRep] at hb ⊢
      rw [L]
      refine ⟨hb.1, fun k hk => (by have hk : k = (r s).blk := hk; rw [hk]; exact hb.2.1), rowsAt_of (r := r) (fun hn => (by cases hn)) (fun i hi => rfl) fun i hi j v hv => ?_⟩
      obtain ⟨u, hu, hd⟩ := denL_at (ha.2 i hi r) hv
      obtain ⟨_, b2⟩ := hb.2.2 i (by have := ha.1; omega)
      show w.cell? ⟨(r s).blk, (r s).off + i * _ + j, none⟩ = _
      rw [(b2 j u hu).2, hd]
    · have hk : (locP Q hJ r p).foot k := hk
      rw [L] at hk; exact hk
  · -- mp, mp
    split at h <;> (try (cases h; done))
    simp only [Option.some.injEq] at h; subst h
    simp only [allE, and_true] at ha
    obtain ⟨rfl, rfl⟩ := ha
    have L := Ls rfl
    refine ⟨?_, fun k hk => ?_, id⟩
    · simp only [BRep] at hb ⊢
      rw [L]; exact hb
    · have hk : k = (locP Q hJ r p).blk := hk
      rw [L] at hk; exact hk
  · -- mp, mpf
    split at h <;> (try (cases h; done))
    simp only [Option.some.injEq] at h; subst h
    simp only [allE, and_true] at ha
    obtain ⟨rfl, m1, m2, m3⟩ := ha
    have L := Ls rfl
    refine ⟨?_, fun k hk => ?_, fun _ => rfl⟩
    · simp only [BRep] at hb ⊢
      rw [L]
      exact ⟨[], _, hb, ⟨by simp, by simp, fun n => (m3 n).2, m1, fun n hn => (by rw [m2 n] at hn; cases hn), fun n _ => ⟨rfl, (m3 n).1 _⟩⟩⟩
    · have hk : k = (locP Q hJ r p).blk := hk
      rw [L] at hk; exact hk
  · -- mpf, mpf
    split at h <;> (try (cases h; done))
    rename_i c0 k0
    have k0 := beq_iff_eq.1 k0
    subst k0
    simp only [Option.some.injEq] at h; subst h
    simp only [allE, and_true] at ha
    have L := Ls rfl
    refine ⟨?_, fun k hk => ?_, fun _ => rfl⟩
    · simp only [BRep] at hb ⊢
      rw [L]
      obtain ⟨es, cl, h1, h2⟩ := hb
      exact ⟨es, cl, h1, mapIs_to h2 ha⟩
    · have hk : k = (locP Q hJ r p).blk := hk
      rw [L] at hk; exact hk
  · -- lp
    split at h <;> (try (cases h; done))
    rename_i c0 qs hq
    simp only [Option.some.injEq] at h; subst h
    simp only [allE] at ha
    obtain ⟨rfl, rfl, rfl, rfl, rfl, ha⟩ := ha
    have L := Ls rfl
    refine ⟨?_, fun k hk => ?_, fun _ => rfl⟩
    · simp only [BRep] at hb ⊢
      rw [L, ← eqL_den r _ _ _ hq ha]; exact hb
    · have hk : k = (locP Q hJ r p).blk := hk
      rw [L] at hk; exact hk
  · cases h
theorem eqG_ok {Q : List Pr} {hJ : List (Nat × Blk)} {r : Nat → Loc} {w : World} {p : Nat} {b' : Blk} {ps : List Prop} (h : eqG b' = some ps) (ha : allE ps) (hl : locP Q hJ r p = Loc.none (zOf (some b'))) :
    BRep (locP Q hJ r) p w b' ∧ ∀ k, ¬ Foot (locP Q hJ r) p b' k := by
  unfold eqG at h
  split at h <;> (try (cases h; done))
  · simp only [Option.some.injEq] at h; subst h
    simp only [allE, and_true] at ha
    subst ha
    refine ⟨?_, fun k hk => ?_⟩
    · simp only [BRep, RowzR, hl, Loc.none, zOf]
      refine ⟨trivial, trivial, fun k => by simp, fun _ => trivial, fun i hi => by omega, fun h => by cases h⟩
    · have hk : (locP Q hJ r p).foot k := hk
      rw [hl] at hk; exact hk
  · simp only [Option.some.injEq] at h; subst h
    simp only [allE, and_true] at ha
    subst ha
    refine ⟨?_, fun k hk => ?_⟩
    · simp only [BRep, hl, Loc.none, zOf]
      exact ⟨trivial, fun k hk => hk.elim, fun _ => rfl, fun i hi => by omega⟩
    · have hk : (locP Q hJ r p).foot k := hk
      rw [hl] at hk; exact hk
end Go.SX
