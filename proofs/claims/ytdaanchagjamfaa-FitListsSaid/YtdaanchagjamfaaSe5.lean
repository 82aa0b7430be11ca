/- Maps whose keys are whole numbers, their entries all known. -/
import Derived.Test.YtdaanchagjamfaaSea
import Derived.RangeFuncRecord
namespace Go.SX
open Go Go.RowKit Go.Proofs.Ytdaanchagjamfaa

def plainV (v : AV) : Value := v.den fun _ => Loc.none 0
theorem plainV_ok {v : AV} (h : v.all (fun _ => false) = true) (r : Nat → Loc) : v.den r = plainV v := den_congr (p := fun _ => false) (fun _ hf => by cases hf) v h
def intKey (P : Program) (kt : TypeId) (k : IntKind) : Bool := match P.underlying kt with
  | some (.int k') => k == k'
  | _ => false
/-- Where a key stands. -/
def findI (k : IntKind) (n : Int) : List MapEntry → Nat → Option (Option (Nat × Value))
  | [], _ => some none
  | e :: es, i => match e.key with
    | .int k' m => match k == k' with
      | true => (match decide (n = m) with | true => some (some (i, e.val)) | false => findI k n es (i + 1))
      | false => none
    | _ => none
def setAt (key val : Value) : List MapEntry → Nat → List MapEntry
  | [], _ => []
  | e :: es, 0 => { e with key, val } :: es
  | e :: es, i + 1 => e :: setAt key val es i
def dropAt : List MapEntry → Nat → List MapEntry
  | [], _ => []
  | _ :: es, 0 => es
  | e :: es, i + 1 => e :: dropAt es i
def lookM (P : Program) (kt et : TypeId) (k : IntKind) (n : Int) (es : List MapEntry) : Option Eff := match intKey P kt k, findI k n es 0 with
  | true, some (some (_, v)) => some ⟨true, true, ofValue v, []⟩
  | true, some none => match (P.info? et).bind (·.zero) with
    | some z => some ⟨true, true, ofValue z, []⟩
    | none => none
  | _, _ => none
def updM (P : Program) (kt : TypeId) (id : Nat) (k : IntKind) (n : Int) (v : AV) (es : List MapEntry) (cl : Nat) : Option Eff := match intKey P kt k, v.all (fun _ => false), findI k n es 0 with
  | true, true, some (some (i, _)) => some ⟨true, true, .tup [], [(id, .mp (setAt (.int k n) (plainV v) es i) cl)]⟩
  | true, true, some none => some ⟨true, true, .tup [], [(id, .mp (es ++ [{ key := .int k n, val := plainV v, born := cl }]) (cl + 1))]⟩
  | _, _, _ => none
def delM (P : Program) (kt : TypeId) (id : Nat) (k : IntKind) (n : Int) (es : List MapEntry) (cl : Nat) : Option Eff := match intKey P kt k, findI k n es 0 with
  | true, some (some (i, _)) => some ⟨true, true, .tup [], [(id, .mp (dropAt es i) cl)]⟩
  | true, some none => some ⟨true, true, .tup [], [(id, .mp es cl)]⟩
  | _, _ => none
def mapOp (P : Program) (op : Op) (ev : Operand → AV) (nid : Nat) : Option View := match op with
  | .makeMap _ none => some ([], fun _ => some ⟨true, true, .map nid, [(nid, .mp [] 0)]⟩)
  | .lookup t x ix false => match P.underlying t, ev x, ev ix with
    | some (.map kt et), .map id, .int _ k n => some ([id], fun | [.mp es _] => lookM P kt et k n es | _ => none)
    | _, _, _ => none
  | .mapUpdate t m x v => match P.underlying t, ev m, ev x with
    | some (.map kt _), .map id, .int _ k n => some ([id], fun | [.mp es cl] => updM P kt id k n (ev v) es cl | _ => none)
    | _, _, _ => none
  | .call ⟨.builtin .delete, args, ts⟩ => match args.toList, ts.toList with
    | [m, x], [t, _] => match P.underlying t, ev m, ev x with
      | some (.map kt _), .map id, .int _ k n => some ([id], fun | [.mp es cl] => delM P kt id k n es cl | _ => none)
      | _, _, _ => none
    | _, _ => none
  | _ => none
theorem findI_now {k : IntKind} {n : Int} : ∀ {es : List MapEntry} {i : Nat} {x : Option (Nat × Value)}, findI k n es i = some x → Instr.findNow (.int k) (.int k n) es i = some x
  | [], i, x, h => h
  | e :: es, i, x, h => by
    simp only [findI] at h
    split at h <;> (try (cases h; done))
    rename_i k' m he
    split at h <;> (try (cases h; done))
    rename_i hk
    have hk : k = k' := by simpa using hk
    subst hk
    simp only [Instr.findNow, he, Instr.sameNow, if_true]
    by_cases hm : n = m
    · subst hm
      simp only [decide_true] at h
      simp only [beq_self_eq_true]; exact h
    · simp only [hm, decide_false] at h
      have : (n == m) = false := by simpa using hm
      simp only [this]; exact findI_now h
theorem intKey_spec {P : Program} {kt : TypeId} {k : IntKind} (h : intKey P kt k = true) : P.underlying kt = some (.int k) := by
  unfold intKey at h
  split at h <;> (try (cases h; done))
  rename_i k' hu
  have : k = k' := by simpa using h
  subst this; exact hu
theorem run_findI {P : Program} {kt : TypeId} {k : IntKind} {n : Int} {es : List MapEntry} {x : Option (Nat × Value)} (hk : intKey P kt k = true) (h : findI k n es 0 = some x) (w : World) :
    (Instr.findKey kt (.int k n) es).run P w = .ok x w := by
  simp only [Instr.findKey, Sem.run_bind, run_underlying (intKey_spec hk), Result.andThen_ok, findI_now h, Sem.run_pure]
theorem run_keyI' {P : Program} {kt : TypeId} {k : IntKind} {n : Int} (hk : intKey P kt k = true) (b : Bool) (m : Nat) (w : World) : (Instr.checkKey b (m + 1) kt (.int k n)).run P w = .ok () w := by
  rw [Instr.checkKey, Sem.run_bind, run_underlying (intKey_spec hk)]
  rfl
theorem run_keyI {P : Program} {kt : TypeId} {k : IntKind} {n : Int} (hk : intKey P kt k = true) (b : Bool) (w : World) : (Instr.checkKey b 10000 kt (.int k n)).run P w = .ok () w := run_keyI' hk b 9999 w
theorem run_getMap {P : Program} {w : World} {b : Nat} {es : Array MapEntry} {cl : Nat} (h : bk w b = some (.map es cl)) : (getObj b).run P w = .ok (.map es cl) w := by
  unfold bk at h; simp [getObj, Sem.run, h]
theorem run_setMap {P : Program} {w : World} {b : Nat} {es : Array MapEntry} {cl : Nat} {o' : Obj} (h : bk w b = some (.map es cl)) : (setObj b o').run P w = .ok () (w.putObj b o') := by
  unfold bk at h; simp [setObj, Sem.run, h, World.putObj]
theorem run_zero {P : Program} {t : TypeId} {z : Value} (h : (P.info? t).bind (·.zero) = some z) (w : World) : (zeroValue t).run P w = .ok z w := by
  cases hi : P.info? t with
  | none => simp [hi] at h
  | some i =>
    simp only [hi, Option.bind_some] at h
    simp [zeroValue, typeInfo, hi, h, Sem.run_bind]
theorem findI_at {k : IntKind} {n : Int} : ∀ {es : List MapEntry} {i j : Nat} {v : Value}, findI k n es i = some (some (j, v)) → i ≤ j ∧ ∃ e, es[j - i]? = some e ∧ e.key = .int k n ∧ e.val = v
  | [], i, j, v, h => by simp [findI] at h
  | e :: es, i, j, v, h => by
    simp only [findI] at h
    split at h <;> (try (cases h; done))
    rename_i k' m he
    split at h <;> (try (cases h; done))
    rename_i hk
    have hk : k = k' := by simpa using hk
    subst hk
    by_cases hm : n = m
    · subst hm
      simp only [decide_true, Option.some.injEq, Prod.mk.injEq] at h
      obtain ⟨rfl, rfl⟩ := h
      exact ⟨Nat.le_refl _, e, by simp, he, rfl⟩
    · simp only [hm, decide_false] at h
      obtain ⟨h1, e', h2, h3⟩ := findI_at h
      exact ⟨by omega, e', by rw [show j - i = (j - (i + 1)) + 1 by omega]; simpa using h2, h3⟩
theorem setAt_modify (key val : Value) : ∀ (es : List MapEntry) (i : Nat), es.modify i (fun e => { e with key, val }) = setAt key val es i
  | [], i => by cases i <;> rfl
  | e :: es, 0 => rfl
  | e :: es, i + 1 => by rw [List.modify_succ_cons, setAt_modify key val es i]; rfl
theorem dropAt_erase : ∀ (es : List MapEntry) (i : Nat), es.eraseIdx i = dropAt es i
  | [], i => by cases i <;> rfl
  | e :: es, 0 => rfl
  | e :: es, i + 1 => by rw [List.eraseIdx_cons_succ, dropAt_erase es i]; rfl
theorem putObj_fr (w : World) (b : Nat) (o : Obj) : Fr w (w.putObj b o) (fun k => k = b) := by
  refine ⟨rfl, rfl, rfl, by simp [World.putObj], fun k _ hk => ?_⟩
  unfold bk
  exact World.putObj_heap_other hk
theorem putObj_bk {w : World} {b : Nat} {o o' : Obj} (h : bk w b = some o) : bk (w.putObj b o') b = some o' := by
  unfold bk
  exact World.putObj_heap_same (bk_lt h)

theorem run_lookM {P : Program} {t kt et : TypeId} {k : IntKind} {n : Int} {es : List MapEntry} {cl b : Nat} {w : World} {eff : Eff} (hu : P.underlying t = some (.map kt et)) (hb : bk w b = some (.map es.toArray cl)) (h : lookM P kt et k n es = some eff) (r : Nat → Loc) :
    (Instr.lookup t (.map (some b)) (.int k n) false).run P w = .ok (eff.val.den r) w ∧ eff.upd = [] := by
  unfold lookM at h
  split at h <;> (try (cases h; done))
  · rename_i i v hk hf
    simp only [Option.some.injEq] at h; subst h
    refine ⟨?_, rfl⟩
    simp only [Instr.lookup, Sem.run_bind, run_underlying hu, Result.andThen_ok, run_getMap hb, Sem.run_pure, run_keyI hk, run_findI hk hf, den_ofValue]
    rfl
  · rename_i hk hf
    split at h <;> (try (cases h; done))
    rename_i z hz
    simp only [Option.some.injEq] at h; subst h
    refine ⟨?_, rfl⟩
    simp only [Instr.lookup, Sem.run_bind, run_underlying hu, Result.andThen_ok, run_getMap hb, Sem.run_pure, run_keyI hk, run_findI hk hf, den_ofValue, run_zero hz]
    rfl
theorem run_updM {P : Program} {t kt et : TypeId} {id : Nat} {k : IntKind} {n : Int} {v : AV} {es : List MapEntry} {cl b : Nat} {w : World} {eff : Eff} (hu : P.underlying t = some (.map kt et)) (hb : bk w b = some (.map es.toArray cl)) (h : updM P kt id k n v es cl = some eff) (r : Nat → Loc) :
    ∃ es' cl', (Instr.mapUpdate t (.map (some b)) (.int k n) (v.den r)).run P w = .ok () (w.putObj b (.map es'.toArray cl')) ∧ eff = ⟨true, true, .tup [], [(id, .mp es' cl')]⟩ := by
  unfold updM at h
  split at h <;> (try (cases h; done))
  · rename_i i x hk hv hf
    simp only [Option.some.injEq] at h
    obtain ⟨_, e, he, hek, _⟩ := findI_at hf
    refine ⟨_, _, ?_, h.symm⟩
    have hkey : ((es.toArray[i]?).map (·.key)).getD (.int k n) = .int k n := by
      rw [List.getElem?_toArray]; simp only [Nat.sub_zero] at he; rw [he]; simpa using hek
    have hst : (Instr.keyThatStays (.int k n) (.int k n)).run P w = .ok (.int k n) w := by
      simp [Instr.keyThatStays, Instr.sameBits]
    simp only [Instr.mapUpdate, Sem.run_bind, run_underlying hu, Result.andThen_ok, run_getMap hb, run_keyI hk, run_findI hk hf, hkey, hst, plainV_ok hv r]
    rw [run_setMap hb]
    congr 2
    rw [List.modify_toArray, setAt_modify]
  · rename_i hk hv hf
    simp only [Option.some.injEq] at h
    refine ⟨_, _, ?_, h.symm⟩
    simp only [Instr.mapUpdate, Sem.run_bind, run_underlying hu, Result.andThen_ok, run_getMap hb, run_keyI hk, run_findI hk hf, plainV_ok hv r]
    rw [run_setMap hb]
    simp
theorem run_delM {P : Program} {t kt et ty : TypeId} {tys : Array TypeId} {id : Nat} {k : IntKind} {n : Int} {es : List MapEntry} {cl b : Nat} {w : World} {eff : Eff} (hu : P.underlying t = some (.map kt et)) (hb : bk w b = some (.map es.toArray cl)) (ht : tys[0]? = some t) (h : delM P kt id k n es cl = some eff) :
    ∃ es' cl', (Builtin.delete_ tys ty #[.map (some b), .int k n]).run P w = .ok (.tuple #[]) (w.putObj b (.map es'.toArray cl')) ∧ eff = ⟨true, true, .tup [], [(id, .mp es' cl')]⟩ := by
  unfold delM at h
  split at h <;> (try (cases h; done))
  · rename_i i x hk hf
    simp only [Option.some.injEq] at h
    obtain ⟨_, e, he, _⟩ := findI_at hf
    refine ⟨_, _, ?_, h.symm⟩
    simp only [Builtin.delete_, ht, Sem.run_bind, run_underlying hu, Result.andThen_ok, run_getMap hb, run_keyI hk, run_findI hk hf]
    simp only [List.getElem?_toArray, List.getElem?_cons_zero, List.getElem?_cons_succ, Sem.run_bind, run_underlying hu, Result.andThen_ok, run_getMap hb, run_keyI hk, run_findI hk hf]
    rw [run_setMap hb]
    simp only [Result.andThen_ok, Sem.run_pure]
    congr 3
    rw [← dropAt_erase]
    apply Array.ext'
    rw [Array.toList_eraseIdxIfInBounds]
  · rename_i hk hf
    simp only [Option.some.injEq] at h
    refine ⟨_, _, ?_, h.symm⟩
    simp only [Builtin.delete_, ht, Sem.run_bind, run_underlying hu, Result.andThen_ok, run_getMap hb, run_keyI hk, run_findI hk hf]
    simp only [List.getElem?_toArray, List.getElem?_cons_zero, List.getElem?_cons_succ, Sem.run_bind, run_underlying hu, Result.andThen_ok, run_getMap hb, run_keyI hk, run_findI hk hf]
    rw [run_setMap hb]
    simp only [Result.andThen_ok, Sem.run_pure]

theorem mp_post {lk : Nat → Option Blk} {r : Nat → Loc} {nid id cl : Nat} {es : List MapEntry} {w : World} {es0 : List MapEntry} {cl0 : Nat} (hid : inR nid id = false) (hlk : lk id = some (.mp es0 cl0)) (hb : bk w (r id).blk = some (.map es0.toArray cl0)) : Post lk r nid [(id, .mp es cl)] w r (w.putObj (r id).blk (.map es.toArray cl)) :=
  Post.same1 hid hlk rfl (fun _ h => h) (putObj_bk hb) (putObj_fr w _ _)
theorem mapOp_ok {P : Program} {o : Oper} {ev : Operand → AV} {nid : Nat} {r : Nat → Loc} {a : Act} {w : World} {look : Nat → Option Blk} {blks : List Blk} {eff : Eff}
    (hH : HOk r w nid look) {ids : List Nat} {g : List Blk → Option Eff} (hV : mapOp P o.op ev nid = some (ids, g)) (hv : ids.map look = blks.map some) (he : g blks = some eff)
    (hρ : ∀ x ∈ o.op.operands, a.eval x = (ev x).den r) {K : Act → World → Prop} {Q : Exit → Act → World → Prop}
    (k : ∀ r' w', Post look r nid eff.upd w r' w' → K (a.put o.dst (eff.val.den r')) w') : o.wp P a w K Q := by
  have KV : ∀ {s : Sem Value} {v : Value} {w' : World}, s.run P w = .ok v w' → (do pure (.value (← s)) : Sem Next).run P w = .ok (.value v) w' := by
    intro s v w' hs; rw [Sem.run_bind, hs]; rfl
  have KU : ∀ {s : Sem Unit} {w' : World}, s.run P w = .ok () w' → (do s; pure .skip : Sem Next).run P w = .ok .skip w' := by
    intro s w' hs; rw [Sem.run_bind, hs]; rfl
  have one : ∀ {id : Nat}, [id].map look = blks.map some → ∃ b, blks = [b] ∧ look id = some b := by
    intro id h
    obtain ⟨b, rfl⟩ := one_of h
    simp only [List.map_cons, List.map_nil, List.cons.injEq, and_true] at h
    exact ⟨b, rfl, h⟩
  unfold mapOp at hV
  split at hV <;> (try (cases hV; done)) <;> rename_i ho
  · rename_i t
    simp only [Option.some.injEq, Prod.mk.injEq] at hV; obtain ⟨rfl, rfl⟩ := hV
    simp only [Option.some.injEq] at he; subst he
    have hb : BRep (upd1 r nid (Loc.of w.heap.size 0 0 0)) nid (w.alloc (.map #[] 0)) (.mp [] 0) := by
      simp only [BRep, upd1, if_true]
      show bk _ w.heap.size = _
      rw [bk_alloc, if_pos rfl]
    refine upon_of_value (w' := w.alloc (.map #[] 0)) (v := .map (some w.heap.size)) ?_ ?_
    · unfold execOp; simp only [ho]; exact KV rfl
    · have := k _ _ (Post.new1 (r := r) rfl (fun _ h => h) hb)
      simpa [AV.den, upd1, Loc.of] using this
  · rename_i t x ix
    have hx := hρ x (by rw [ho]; simp [Op.operands])
    have hix := hρ ix (by rw [ho]; simp [Op.operands])
    split at hV <;> (try (cases hV; done))
    rename_i kt et id c kk n hu hex hei
    simp only [Option.some.injEq, Prod.mk.injEq] at hV; obtain ⟨rfl, rfl⟩ := hV
    obtain ⟨b, rfl, hb⟩ := one hv
    cases b <;> (try (cases he; done))
    obtain ⟨h1, h2⟩ := run_lookM hu (hH.rep id _ hb) he r
    refine upon_of_value (w' := w) (v := eff.val.den r) ?_ (k r w (by rw [h2]; exact Post.id look r nid w))
    unfold execOp; simp only [ho]
    rw [hx, hix, hex, hei]
    exact KV h1
  · rename_i t m x v
    have hm := hρ m (by rw [ho]; simp [Op.operands])
    have hx := hρ x (by rw [ho]; simp [Op.operands])
    have hvv := hρ v (by rw [ho]; simp [Op.operands])
    split at hV <;> (try (cases hV; done))
    rename_i kt et id c kk n hu hem hex
    simp only [Option.some.injEq, Prod.mk.injEq] at hV; obtain ⟨rfl, rfl⟩ := hV
    obtain ⟨b, rfl, hb⟩ := one hv
    cases b <;> (try (cases he; done))
    obtain ⟨es', cl', h1, rfl⟩ := run_updM hu (hH.rep id _ hb) he r
    refine upon_of_skip (w' := w.putObj (r id).blk (.map es'.toArray cl')) ?_ (k r _ (mp_post (hH.out id _ hb) hb (hH.rep id _ hb)))
    unfold execOp; simp only [ho]
    rw [hm, hx, hvv, hem, hex]
    exact KU h1
  · rename_i args ts
    split at hV <;> (try (cases hV; done))
    rename_i m x t t' hargs hts
    have hargs' : args = #[m, x] := by apply Array.ext'; simpa using hargs
    have hts' : ts = #[t, t'] := by apply Array.ext'; simpa using hts
    subst hargs' hts'
    have hm := hρ m (by rw [ho]; simp [Op.operands, Call.operands])
    have hx := hρ x (by rw [ho]; simp [Op.operands, Call.operands])
    split at hV <;> (try (cases hV; done))
    rename_i kt et id c kk n hu hem hex
    simp only [Option.some.injEq, Prod.mk.injEq] at hV; obtain ⟨rfl, rfl⟩ := hV
    obtain ⟨b, rfl, hb⟩ := one hv
    cases b <;> (try (cases he; done))
    obtain ⟨es', cl', h1, rfl⟩ := run_delM (ty := o.type) (tys := #[t, t']) hu (hH.rep id _ hb) rfl he
    refine upon_of_value (w' := w.putObj (r id).blk (.map es'.toArray cl')) (v := .tuple #[]) ?_ (k r _ (mp_post (hH.out id _ hb) hb (hH.rep id _ hb)))
    unfold execOp; simp only [ho]
    simp [resolve, invoke, builtin, hm, hx, hem, hex, AV.den, h1, Result.andThen]
end Go.SX
