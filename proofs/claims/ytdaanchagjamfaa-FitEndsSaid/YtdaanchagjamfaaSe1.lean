/- The operations that touch memory, and calls: what they ask to see, what they do, one law. -/
import Derived.Test.YtdaanchagjamfaaSd
import Derived.Great.BuildSlice
namespace Go.SX
open Go Go.RowKit Go.Proofs.Ytdaanchagjamfaa

structure Eff where
  known : Bool
  pre : Bool
  val : AV
  upd : List (Nat × Blk)
/-- The blocks that are looked at, and what comes of what they hold. -/
abbrev View := List Nat × (List Blk → Option Eff)
def noV : View := ([], fun _ => none)
/-- What a function does: its arguments, the first free number (eight are free), the numbers of all blocks. -/
abbrev FC := List AV → Nat → List Nat → View

def inR (nid id : Nat) : Bool := nid ≤ id && id < nid + 8

structure Fr (w w' : World) (ch : Nat → Prop) : Prop where
  os : w'.os = w.os
  tape : w'.tape = w.tape
  output : w'.output = w.output
  size : w.heap.size ≤ w'.heap.size
  block : ∀ k, k < w.heap.size → ¬ ch k → bk w' k = bk w k
def Chg (r : Nat → Loc) (nid : Nat) (u : List (Nat × Blk)) (b : Nat) : Prop := ∃ p ∈ u, inR nid p.1 = false ∧ (r p.1).blk = b
structure Post (r : Nat → Loc) (nid : Nat) (u : List (Nat × Blk)) (w : World) (r' : Nat → Loc) (w' : World) : Prop where
  same : ∀ id, inR nid id = false → r' id = r id
  rep : ∀ p ∈ u, BRep r' p.1 w' p.2
  fr : Fr w w' (Chg r nid u)
  new : ∀ p ∈ u, inR nid p.1 = true → p.2.live = true → (w.heap.size ≤ (r' p.1).blk ∨ ∃ q ∈ u, inR nid q.1 = false ∧ (∀ z ∈ u, z.1 = q.1 → z.2.live = false) ∧ (r q.1).blk = (r' p.1).blk)
  apart : ∀ p ∈ u, ∀ q ∈ u, inR nid p.1 = true → inR nid q.1 = true → p.1 ≠ q.1 → p.2.own = true → q.2.live = true → (r' p.1).blk ≠ (r' q.1).blk

structure HOk (r : Nat → Loc) (w : World) (nid : Nat) (look : Nat → Option Blk) : Prop where
  out : ∀ id b, look id = some b → inR nid id = false
  rep : ∀ id b, look id = some b → BRep r id w b
  scope : ∀ id b, look id = some b → b.all (fun i => !inR nid i) = true
  sep : ∀ id id' b b', look id = some b → look id' = some b' → id ≠ id' → b.own = true → b'.live = true → (r id).blk ≠ (r id').blk

def goFn (P : Program) (f : FuncId) : Bool := match P.funcs[f]? with
  | some fn => fn.name != "runtime.NumGoroutine" && fn.body.isSome
  | none => false
theorem run_goFn {P : Program} {f : FuncId} (h : goFn P f = true) (args : Array Value) (w : World) : (callFunc f args).run P w = .ok (.enter f args) w := by
  unfold goFn at h
  split at h
  · rename_i fn hf
    simp only [Bool.and_eq_true, bne_iff_ne, ne_eq] at h
    simp [callFunc, hf, h.1, Option.isNone_iff_eq_none]
    intro hb; rw [hb] at h; exact absurd h.2 (by simp)
  · cases h

def FSound (P : Program) (f : FuncId) (fc : FC) : Prop :=
  goFn P f = true ∧ ∀ (args : List AV) (nid : Nat) (all : List Nat) (r : Nat → Loc) (w : World) (look : Nat → Option Blk) (blks : List Blk) (eff : Eff),
    HOk r w nid look → AV.allL (fun i => !inR nid i) args = true → (fc args nid all).1.map look = blks.map some → (fc args nid all).2 blks = some eff → eff.pre = true →
    Calls P f (AV.denL r args).toArray w fun e w' => ∃ r', e = .returned (eff.val.den r') ∧ Post r nid eff.upd w r' w'
def MSound (P : Program) (M : TypeId → String → Option FuncId) : Prop :=
  ∀ t name f, M t name = some f → ∀ v w, (method (P.types.size + Made.depth) t v name).run P w = .ok (f, v) w

def loadB (P : Program) (t : TypeId) (e j : Nat) : Blk → Option Eff
  | .cells z _ l => match szT P t, rowT P t with
    | some n, some row => (subV row n l (e * z + j)).map fun v => ⟨true, true, v, []⟩
    | _, _ => none
  | .rowl _ _ l => match szT P t, rowT P t, l[e]? with
    | some n, some row, some cs => (subV row n cs j).map fun v => ⟨true, true, v, []⟩
    | _, _, _ => none
  | .arr _ n get => match szT P t, rowT P t with
    | some m, some row => (subV row m (get e) j).map fun v => ⟨false, decide (e < n), v, []⟩
    | _, _ => none
  | .gone => none
  | .cellsR .. => none
  | .rowlR .. => none
  | .lp .. => none
  | .dfr => none
  | .mp .. => none
def storeB (P : Program) (t : TypeId) (e j : Nat) (v : AV) : Blk → Option Blk
  | .cells z ty l => if v.storable && szT P t == some v.cells.length && decide (e * z + j + v.cells.length ≤ l.length) then some (.cells z ty (setR l (e * z + j) v.cells)) else none
  | .rowl ty esz l => match l[e]? with
    | some cs => if v.storable && szT P t == some v.cells.length && decide (j + v.cells.length ≤ cs.length) then some (.rowl ty esz (l.set e (setR cs j v.cells))) else none
    | none => none
  | _ => none

/-- The cells of an element, where a variable is an array's. -/
def elemZ (P : Program) (t : TypeId) : Nat := match P.underlying t with
  | some (.array _ e) => (szT P e).getD 0
  | _ => 0
/-- n times the cells z -/
def rep : Nat → List AV → List (List AV)
  | 0, _ => []
  | n + 1, z => z :: rep n z
def chunk (sz : Nat) : Nat → List AV → List (List AV)
  | 0, _ => []
  | n + 1, l => l.take sz :: chunk sz n (l.drop sz)

theorem Fr.refl (w : World) (ch : Nat → Prop) : Fr w w ch := ⟨rfl, rfl, rfl, Nat.le_refl _, fun _ _ _ => rfl⟩
theorem Post.id (r : Nat → Loc) (nid : Nat) (w : World) : Post r nid [] w r w :=
  ⟨fun _ _ => rfl, by simp, Fr.refl w _, by simp, by simp⟩

theorem allocFr (w : World) (o : Obj) (ch : Nat → Prop) : Fr w (w.alloc o) ch :=
  ⟨rfl, rfl, rfl, by show w.heap.size ≤ (w.heap.push o).size; simp, fun k hk _ => by rw [bk_alloc, if_neg (by omega)]⟩
def upd1 (r : Nat → Loc) (n : Nat) (l : Loc) : Nat → Loc := fun i => if i = n then l else r i
theorem inR_self (n : Nat) : inR n n = true := by simp [inR]
theorem inR_ne {n id : Nat} (h : inR n id = false) : id ≠ n := by rintro rfl; rw [inR_self] at h; cases h
/-- One new block. -/
theorem Post.new1 {r : Nat → Loc} {nid : Nat} {w : World} {o : Obj} {l : Loc} {b : Blk} (hl : l.blk = w.heap.size) (hb : BRep (upd1 r nid l) nid (w.alloc o) b) : Post r nid [(nid, b)] w (upd1 r nid l) (w.alloc o) := by
  refine ⟨fun id h => ?_, fun p hp => ?_, allocFr _ _ _, fun p hp _ _ => .inl ?_, fun p hp q hq _ _ h => ?_⟩
  · unfold upd1; rw [if_neg (inR_ne h)]
  · simp only [List.mem_singleton] at hp; subst hp; exact hb
  · simp only [List.mem_singleton] at hp; subst hp; unfold upd1; rw [if_pos rfl, hl]; exact Nat.le_refl _
  · simp only [List.mem_singleton] at hp hq; subst hp; subst hq; exact absurd rfl h

theorem ofAtom_cells (v : Value) : (ofAtom v).cells = [ofAtom v] := by
  unfold ofAtom
  split <;> rfl
theorem cells_ofValue (r : Nat → Loc) (z : Value) : z.cells = (AV.denL r (ofValue z).cells).toArray := by
  cases z <;> first
    | (simp only [ofValue, AV.cells, Value.cells, den_ofAtoms]; done)
    | (simp only [ofValue, ofAtom_cells, Value.cells, AV.denL, den_ofAtom]; done)
    | (simp only [ofValue, AV.cells, Value.cells, AV.denL, AV.den, den_ofAtoms]; done)

theorem run_alloc {P : Program} {t : TypeId} {z : Value} (h : (P.info? t).bind (·.zero) = some z) (w : World) :
    (Instr.alloc t true (.tuple #[])).run P w = .ok (.pointer (some ⟨w.heap.size, 0, none⟩)) (w.alloc (.cells z.cells t)) := by
  cases hi : P.info? t with
  | none => simp [hi] at h
  | some i =>
    simp only [hi, Option.bind_some] at h
    simp [Instr.alloc, zeroValue, typeInfo, hi, h, newVar, newRow]
theorem run_box {P : Program} {t : TypeId} (v : Value) (w : World) :
    (Instr.box t v).run P w = .ok (.pointer (some ⟨w.heap.size, 0, none⟩)) (w.alloc (.cells v.cells t)) := by
  simp [Instr.box, newVar, newRow]

theorem run_subV {P : Program} {r : Nat → Loc} {w : World} {t : TypeId} {row : Bool} {n : Nat} {l : List AV} {j b o : Nat} {v : AV} (hr : rowT P t = some row) (hn : szT P t = some n)
    (hc : ∀ i v, l[i]? = some v → w.cell? ⟨b, o + i, none⟩ = some (v.den r)) (h : subV row n l j = some v) : (loadVar t ⟨b, o + j, none⟩).run P w = .ok (v.den r) w := by
  have hu : ∃ d, P.underlying t = some d ∧ d.isRow = row := by
    unfold rowT at hr
    cases hu : P.underlying t with
    | none => simp [hu] at hr
    | some d => exact ⟨d, rfl, by simpa [hu] using hr⟩
  obtain ⟨d, hu, hd⟩ := hu
  unfold subV at h
  cases row with
  | true =>
    simp only [if_true] at h
    split at h <;> (try (cases h; done))
    rename_i hl
    simp only [Option.some.injEq] at h; subst h
    have hlen : ((l.drop j).take n).length = n := by simp; omega
    simp only [AV.den]
    refine run_loadVar_mid w b (o + j) t _ d (fun i x hx => ?_) hu hd (by rw [denL_length, hlen]; exact hn)
    rw [denL_map, List.getElem?_map] at hx
    obtain ⟨y, hy, rfl⟩ := Option.map_eq_some_iff.1 hx
    rw [Nat.add_assoc]
    refine hc (j + i) y ?_
    have hi : i < n := by
      have := (List.getElem?_eq_some_iff.1 hy).1
      omega
    rw [List.getElem?_take_of_lt hi, List.getElem?_drop] at hy
    exact hy
  | false =>
    simp only [Bool.false_eq_true, if_false] at h
    exact load_cell_one (hc j v h) hu hd

theorem bk_cells_cell {w : World} {b : Nat} {l : List Value} {t : TypeId} {fr : Nat × Nat} (h : bk w b = some (.cells l.toArray t fr)) (i : Nat) : w.cell? ⟨b, i, none⟩ = l[i]? := by
  unfold bk at h
  simp [World.cell?, h]
theorem flatten_get (sz : Nat) : ∀ (l : List (List AV)), (∀ x ∈ l, x.length = sz) → ∀ (e : Nat) (cs : List AV), l[e]? = some cs → ∀ i, i < sz → e * sz + i < l.flatten.length ∧ l.flatten[e * sz + i]? = cs[i]?
  | [], _, e, cs, h, _, _ => by simp at h
  | x :: l, hl, 0, cs, h, i, hi => by
    simp only [List.getElem?_cons_zero, Option.some.injEq] at h; subst h
    have hx := hl x (by simp)
    rw [List.flatten_cons, Nat.zero_mul, Nat.zero_add]
    exact ⟨by rw [List.length_append]; omega, List.getElem?_append_left (by omega)⟩
  | x :: l, hl, e + 1, cs, h, i, hi => by
    simp only [List.getElem?_cons_succ] at h
    have hx := hl x (by simp)
    obtain ⟨h1, h2⟩ := flatten_get sz l (fun y hy => hl y (by simp [hy])) e cs h i hi
    have e1 : (e + 1) * sz + i = x.length + (e * sz + i) := by rw [hx, Nat.add_mul]; omega
    rw [List.flatten_cons, e1]
    refine ⟨by rw [List.length_append]; omega, ?_⟩
    rw [List.getElem?_append_right (by omega), Nat.add_sub_cancel_left]; exact h2
theorem flatten_len (sz : Nat) : ∀ (l : List (List AV)), (∀ x ∈ l, x.length = sz) → l.flatten.length = l.length * sz
  | [], _ => by simp
  | x :: l, hl => by
    rw [List.flatten_cons, List.length_append, flatten_len sz l (fun y hy => hl y (by simp [hy])), hl x (by simp), List.length_cons, Nat.add_mul]; omega
theorem loadB_ok {P : Program} {r : Nat → Loc} {w : World} {t : TypeId} {id e j : Nat} {b : Blk} {eff : Eff} (hb : BRep r id w b) (h : loadB P t e j b = some eff) (hp : eff.pre = true) :
    (Instr.loadAt t (AV.den r (.ptr id e j))).run P w = .ok (eff.val.den r) w ∧ eff.upd = [] := by
  simp only [AV.den, Instr.loadAt, Instr.sureAddr, Sem.run_bind, Sem.run_pure, Result.andThen_ok]
  cases b with
  | cells z ty l =>
    simp only [loadB] at h
    split at h <;> (try (cases h; done))
    rename_i n row hn hr
    rw [Option.map_eq_some_iff] at h
    obtain ⟨v, hv, rfl⟩ := h
    obtain ⟨ho, hz, hbk⟩ := hb
    refine ⟨?_, rfl⟩
    rw [ho, hz, Nat.zero_add, ← Nat.zero_add (e * z + j)]
    exact run_subV hr hn (o := 0) (fun i x hx => by rw [Nat.zero_add, bk_cells_cell hbk, denL_map, List.getElem?_map, hx]; rfl) hv
  | rowl ty esz l =>
    simp only [loadB] at h
    split at h <;> (try (cases h; done))
    rename_i n row cs hn hr hcs
    rw [Option.map_eq_some_iff] at h
    obtain ⟨v, hv, rfl⟩ := h
    obtain ⟨ho, hz, hlen, _, rest, _, hbk⟩ := hb
    refine ⟨?_, rfl⟩
    rw [ho, hz, Nat.zero_add]
    refine run_subV hr hn (o := e * esz) (fun i x hx => ?_) hv
    rw [bk_cells_cell hbk]
    have hel := (List.getElem?_eq_some_iff.1 hcs)
    have hi : i < esz := by
      have h1 := (List.getElem?_eq_some_iff.1 hx).1
      rw [hlen cs (List.mem_of_getElem? hcs)] at h1; exact h1
    have hflat := flatten_get esz l hlen e cs hcs i hi
    rw [List.getElem?_append_left (by rw [denL_length]; exact hflat.1), denL_map, List.getElem?_map, hflat.2, hx]; rfl
  | arr esz n get =>
    simp only [loadB] at h
    split at h <;> (try (cases h; done))
    rename_i m row hm hr
    rw [Option.map_eq_some_iff] at h
    obtain ⟨v, hv, rfl⟩ := h
    simp only [decide_eq_true_eq] at hp
    obtain ⟨hz, _, hget⟩ := hb
    refine ⟨?_, rfl⟩
    rw [hz]
    refine run_subV hr hm (o := (r id).off + e * esz) (fun i x hx => ?_) hv
    exact ((hget e hp).2 i x hx).2
  | gone => simp [loadB] at h
  | cellsR _ _ _ => simp [loadB] at h
  | rowlR _ _ _ => simp [loadB] at h
  | lp _ _ _ _ _ _ => simp [loadB] at h
  | dfr => simp [loadB] at h
  | mp _ _ => simp [loadB] at h

theorem setCells_same (b : Nat) : ∀ (vs : List Value) (o : Nat) (w : World), (w.setCells b o vs).os = w.os ∧ (w.setCells b o vs).tape = w.tape ∧ (w.setCells b o vs).output = w.output ∧ (w.setCells b o vs).heap.size = w.heap.size ∧ ∀ k, k ≠ b → bk (w.setCells b o vs) k = bk w k
  | [], _, _ => ⟨rfl, rfl, rfl, rfl, fun _ _ => rfl⟩
  | v :: vs, o, w => by
    obtain ⟨h1, h2, h3, h4, h5⟩ := setCells_same b vs (o + 1) (w.setCell ⟨b, o, none⟩ v)
    rw [World.setCells]
    refine ⟨h1.trans rfl, h2.trans rfl, h3.trans rfl, h4.trans (by simp [World.setCell]), fun k hk => (h5 k hk).trans (bk_set_other _ _ _ _ hk)⟩
theorem setCells_bk {t : TypeId} (b : Nat) : ∀ (vs : List Value) (o : Nat) (w : World) (l : List Value), bk w b = some (.cells l.toArray t (0, 0)) → bk (w.setCells b o vs) b = some (.cells (setV l o vs).toArray t (0, 0))
  | [], _, _, _, h => h
  | v :: vs, o, w, l, h => by
    rw [World.setCells, setV]
    refine setCells_bk b vs (o + 1) _ _ ?_
    have := bk_set_own w b o v h
    rw [List.setIfInBounds_toArray] at this
    exact this
theorem run_storeV {P : Program} {w : World} {t : TypeId} {b o : Nat} {v : Value} {cs : List Value} (hcs : v.cells = cs.toArray) (hs : szT P t = some cs.length) (ht : w.there b o cs.length) (h1 : ∀ x ∈ cs, x.oneCell' = true) :
    (storeVar t ⟨b, o, none⟩ v).run P w = .ok () (w.setCells b o cs) := by
  have := run_storeCells_cells (P := P) b o cs 0 w (fun j hj => by simpa using (ht j hj).1) (fun j hj => by simpa using (ht j hj).2) h1
  obtain ⟨i, hi, hz⟩ := szT_info hs
  simp only [Nat.add_zero] at this
  simp [storeVar, sizeOf, typeInfo, hi, hcs, hz, this]
theorem there_of_bk {w : World} {b : Nat} {l : List Value} {t : TypeId} (h : bk w b = some (.cells l.toArray t (0, 0))) {o n : Nat} (hn : o + n ≤ l.length) : w.there b o n := fun j hj => by
  refine ⟨?_, ?_⟩
  · rw [bk_cells_cell h]; simp; omega
  · unfold bk at h; simp [World.frozen?, h]
theorem setV_append : ∀ (vs a b : List Value) (o : Nat), o + vs.length ≤ a.length → setV (a ++ b) o vs = setV a o vs ++ b
  | [], _, _, _, _ => rfl
  | v :: vs, a, b, o, h => by
    simp only [List.length_cons] at h
    rw [setV, setV, List.set_append_left _ _ (by omega), setV_append vs _ b (o + 1) (by simp; omega)]
theorem setV_right : ∀ (vs a b : List Value) (o : Nat), setV (a ++ b) (a.length + o) vs = a ++ setV b o vs
  | [], _, _, _ => rfl
  | v :: vs, a, b, o => by
    rw [setV, setV, List.set_append_right _ _ (by omega), Nat.add_sub_cancel_left, Nat.add_assoc, setV_right vs]
theorem setR_flatten (r : Nat → Loc) (sz : Nat) (vs : List AV) : ∀ (l : List (List AV)), (∀ x ∈ l, x.length = sz) → ∀ (e : Nat) (cs : List AV) (j : Nat), l[e]? = some cs → j + vs.length ≤ sz →
    setV (AV.denL r l.flatten) (e * sz + j) (AV.denL r vs) = AV.denL r (l.set e (setR cs j vs)).flatten
  | [], _, e, cs, _, h, _ => by simp at h
  | x :: l, hl, 0, cs, j, h, hj => by
    simp only [List.getElem?_cons_zero, Option.some.injEq] at h; subst h
    have hx := hl x (by simp)
    rw [List.set_cons_zero, List.flatten_cons, List.flatten_cons, denL_map r (_ ++ _), denL_map r (_ ++ _), List.map_append, List.map_append, ← denL_map, ← denL_map, ← denL_map, Nat.zero_mul, Nat.zero_add,
      setV_append _ _ _ _ (by rw [denL_length, denL_length]; omega), denL_setR]
  | x :: l, hl, e + 1, cs, j, h, hj => by
    simp only [List.getElem?_cons_succ] at h
    have hx := hl x (by simp)
    have ih := setR_flatten r sz vs l (fun y hy => hl y (by simp [hy])) e cs j h hj
    have e1 : (e + 1) * sz + j = (AV.denL r x).length + (e * sz + j) := by rw [denL_length, hx, Nat.add_mul]; omega
    rw [List.set_cons_succ, List.flatten_cons, List.flatten_cons, denL_map r (_ ++ _), denL_map r (_ ++ _), List.map_append, List.map_append, ← denL_map, ← denL_map, ← denL_map, e1, setV_right, ih]

theorem storeB_ok {P : Program} {r : Nat → Loc} {w : World} {t : TypeId} {id e j : Nat} {v : AV} {b b' : Blk} (hb : BRep r id w b) (h : storeB P t e j v b = some b') :
    ∃ w', (Instr.storeAt t (AV.den r (.ptr id e j)) (v.den r)).run P w = .ok () w' ∧ BRep r id w' b' ∧ b'.live = true ∧ Fr w w' (fun k => k = (r id).blk) := by
  simp only [AV.den, Instr.storeAt, Instr.sureAddr, Sem.run_bind, Sem.run_pure, Result.andThen_ok]
  cases b with
  | cells z ty l =>
    simp only [storeB] at h
    split at h <;> (try (cases h; done))
    rename_i hc
    simp only [Bool.and_eq_true, beq_iff_eq, decide_eq_true_eq] at hc
    obtain ⟨⟨hst, hs⟩, hj⟩ := hc
    simp only [Option.some.injEq] at h; subst h
    obtain ⟨ho, hz, hbk⟩ := hb
    have hlen : (AV.denL r v.cells).length = v.cells.length := denL_length _ _
    obtain ⟨s1, s2, s3, s4, s5⟩ := setCells_same (r id).blk (AV.denL r v.cells) (e * z + j) w
    refine ⟨w.setCells (r id).blk (e * z + j) (AV.denL r v.cells), ?_, ⟨ho, hz, ?_⟩, rfl, ⟨s1, s2, s3, by omega, fun k _ hk => s5 k hk⟩⟩
    · rw [ho, hz, Nat.zero_add]
      exact run_storeV (storable_cells r hst) (by rw [hlen]; exact hs) (there_of_bk hbk (by rw [denL_length, denL_length]; omega)) (storable_one r hst)
    · rw [setCells_bk _ _ _ _ _ hbk, denL_setR]
  | rowl ty esz l =>
    simp only [storeB] at h
    split at h <;> (try (cases h; done))
    rename_i cs hcs
    split at h <;> (try (cases h; done))
    rename_i hc
    simp only [Bool.and_eq_true, beq_iff_eq, decide_eq_true_eq] at hc
    obtain ⟨⟨hst, hs⟩, hj⟩ := hc
    simp only [Option.some.injEq] at h; subst h
    obtain ⟨ho, hz, hlen, hcap, rest, hrest, hbk⟩ := hb
    have hl2 : (AV.denL r v.cells).length = v.cells.length := denL_length _ _
    have hcl := hlen cs (List.mem_of_getElem? hcs)
    obtain ⟨s1, s2, s3, s4, s5⟩ := setCells_same (r id).blk (AV.denL r v.cells) (e * esz + j) w
    have hin : e * esz + j + v.cells.length ≤ l.flatten.length := by
      by_cases hv : v.cells.length = 0
      · have := flatten_len esz l hlen
        have he := (List.getElem?_eq_some_iff.1 hcs).1
        have : e * esz + esz ≤ l.length * esz := by
          have : (e + 1) * esz ≤ l.length * esz := Nat.mul_le_mul_right _ he
          rw [Nat.add_mul] at this; omega
        omega
      · have := (flatten_get esz l hlen e cs hcs (j + v.cells.length - 1) (by omega)).1
        omega
    refine ⟨w.setCells (r id).blk (e * esz + j) (AV.denL r v.cells), ?_, ⟨ho, hz, ?_, ?_, rest, ?_, ?_⟩, rfl, ⟨s1, s2, s3, by omega, fun k _ hk => s5 k hk⟩⟩
    · rw [ho, hz, Nat.zero_add]
      exact run_storeV (storable_cells r hst) (by rw [hl2]; exact hs) (there_of_bk hbk (by rw [List.length_append, denL_length, denL_length]; omega)) (storable_one r hst)
    · intro x hx
      rcases List.mem_or_eq_of_mem_set hx with hx | rfl
      · exact hlen x hx
      · rw [setR_length]; exact hcl
    · rw [List.length_set]; exact hcap
    · rw [List.length_set]; exact hrest
    · rw [setCells_bk _ _ _ _ _ hbk, setV_append _ _ _ _ (by rw [denL_length, denL_length]; omega), setR_flatten r esz v.cells l hlen e cs j hcs (by omega)]
  | arr esz n get => simp [storeB] at h
  | gone => simp [storeB] at h
  | cellsR _ _ _ => simp [storeB] at h
  | rowlR _ _ _ => simp [storeB] at h
  | lp _ _ _ _ _ _ => simp [storeB] at h
  | dfr => simp [storeB] at h
  | mp _ _ => simp [storeB] at h

theorem run_indexS {P : Program} {t elem : TypeId} (hu : P.underlying t = some (.slice elem)) {n : Nat} (hn : szT P elem = some n) (b o len cap : Nat) (k : IntKind) (i : Int) (h : 0 ≤ i ∧ i < len) (w : World) :
    (Instr.indexAt t (.slice (some ⟨b, o, none⟩) len cap) (.int k i)).run P w = .ok (.pointer (some ⟨b, o + i.toNat * n, none⟩)) w := by
  simp [Instr.indexAt, asIntOf, run_underlying hu, run_szT hn, add_off, h.1, h.2]

theorem upon_of_value {P : Program} {o : Oper} {a : Act} {w w' : World} {K : Act → World → Prop} {Q : Exit → Act → World → Prop} {v : Value} (h : (execOp a.eval o).run P w = .ok (.value v) w') (k : K (a.put o.dst v) w') : o.wp P a w K Q := by
  unfold Oper.wp; rw [h]; exact k
theorem upon_of_skip {P : Program} {o : Oper} {a : Act} {w w' : World} {K : Act → World → Prop} {Q : Exit → Act → World → Prop} (h : (execOp a.eval o).run P w = .ok .skip w') (k : K (a.put o.dst undef) w') : o.wp P a w K Q := by
  unfold Oper.wp; rw [h]; exact k
theorem upon_of_enter {P : Program} {o : Oper} {a : Act} {w : World} {K : Act → World → Prop} {Q : Exit → Act → World → Prop} {f : FuncId} {args : Array Value} (h : (execOp a.eval o).run P w = .ok (.enter f args) w)
    (k : Calls P f args w fun e w' => ∃ v, e = .returned v ∧ K (a.put o.dst v) w') : o.wp P a w K Q := by
  unfold Oper.wp; rw [h]
  exact k.mono fun e w' ⟨v, he, hk⟩ => by subst he; exact hk

theorem upd1_same {r : Nat → Loc} {n : Nat} {l : Loc} : ∀ i, (!inR n i) = true → r i = upd1 r n l i := by
  intro i h
  unfold upd1
  rw [if_neg (inR_ne (by simpa using h))]
theorem cells_all {p : Nat → Bool} {v : AV} (h : v.all p = true) : AV.allL p v.cells = true := by
  cases v <;> first | (simp only [AV.cells, AV.allL, h, Bool.and_true]; done) | exact h
theorem allL_map {p : Nat → Bool} {ev : Operand → AV} : ∀ {l : List Operand}, (∀ x ∈ l, (ev x).all p = true) → AV.allL p (l.map ev) = true
  | [], _ => rfl
  | x :: l, h => by
    have h1 := allL_map (p := p) (ev := ev) (l := l) (fun y hy => h y (by simp [hy]))
    simp only [List.map_cons, AV.allL, h x (by simp), h1, Bool.and_self]
theorem denL_append (r : Nat → Loc) (a b : List AV) : AV.denL r (a ++ b) = AV.denL r a ++ AV.denL r b := by rw [denL_map, denL_map, denL_map, List.map_append]

theorem one_of {x : Option Blk} {l : List Blk} (h : [x] = l.map some) : ∃ b, l = [b] := by
  match l, h with
  | [b], _ => exact ⟨b, rfl⟩

end Go.SX
