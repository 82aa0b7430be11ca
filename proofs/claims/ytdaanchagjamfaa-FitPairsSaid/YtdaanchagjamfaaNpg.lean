/- Maps whose keys are whole numbers, their entries all known. -/
import Derived.Test.YtdaanchagjamfaaNpf
import Derived.RangeFuncRecord
namespace Go.SX
open Go Go.RowKit Go.Proofs.Ytdaanchagjamfaa

def plainV (v : AV) : Value := v.den fun _ => Loc.none 0
theorem plainV_ok {v : AV} (h : v.all (fun _ => false) = true) (r : Nat → Loc) : v.den r = plainV v := den_congr (p := fun _ => false) (fun _ hf => by cases hf) v h
def intKey (P : Program) (kt : TypeId) (k : IntKind) : Bool := match P.underlying kt with
  | some (.int k') => k == k'
  | _ => false
/-- Where a key stands. -/
def findI (k : IntKind) (n : Int) : List MapEntry → Nat → Option (Option (Nat × Value))
  | [], _ => some none
  | e :: es, i => match e.key with
    | .int k' m => match k == k' with
      | true => (match decide (n = m) with | true => some (some (i, e.val)) | false => findI k n es (i + 1))
      | false => none
    | _ => none
def setAt (key val : Value) : List MapEntry → Nat → List MapEntry
  | [], _ => []
  | e :: es, 0 => { e with key, val } :: es
  | e :: es, i + 1 => e :: setAt key val es i
def dropAt : List MapEntry → Nat → List MapEntry
  | [], _ => []
  | _ :: es, 0 => es
  | e :: es, i + 1 => e :: dropAt es i
def lookM (P : Program) (kt et : TypeId) (k : IntKind) (n : Int) (es : List MapEntry) : Option Eff := match intKey P kt k, findI k n es 0 with
  | true, some (some (_, v)) => some ⟨true, true, ofValue v, []⟩
  | true, some none => match (P.info? et).bind (·.zero) with
    | some z => some ⟨true, true, ofValue z, []⟩
    | none => none
  | _, _ => none
def updM (P : Program) (kt : TypeId) (id : Nat) (k : IntKind) (n : Int) (v : AV) (es : List MapEntry) (cl : Nat) : Option Eff := match intKey P kt k, v.all (fun _ => false), findI k n es 0 with
  | true, true, some (some (i, _)) => some ⟨true, true, .tup [], [(id, .mp (setAt (.int k n) (plainV v) es i) cl)]⟩
  | true, true, some none => some ⟨true, true, .tup [], [(id, .mp (es ++ [{ key := .int k n, val := plainV v, born := cl }]) (cl + 1))]⟩
  | _, _, _ => none
def delM (P : Program) (kt : TypeId) (id : Nat) (k : IntKind) (n : Int) (es : List MapEntry) (cl : Nat) : Option Eff := match intKey P kt k, findI k n es 0 with
  | true, some (some (i, _)) => some ⟨true, true, .tup [], [(id, .mp (dropAt es i) cl)]⟩
  | true, some none => some ⟨true, true, .tup [], [(id, .mp es cl)]⟩
  | _, _ => none
/-- A map that is known as a function. -/
def zeroB : AV → Value → Bool
  | .bool _ b, .bool b' => b == b'
  | .int _ k n, .int k' n' => k == k' && decide (n = n')
  | _, _ => false
def lookF (P : Program) (kt et : TypeId) (k : IntKind) (n : Int) (k' : IntKind) (z : AV) (get : Int → AV) : Option Eff := match intKey P kt k, k == k', (P.info? et).bind (·.zero) with
  | true, true, some zz => (match zeroB z zz with
    | true => some ⟨true, true, get n, []⟩
    | false => none)
  | _, _, _ => none
def putF (n : Int) (v : AV) (get : Int → AV) (m : Int) : AV := match decide (m = n) with
  | true => v
  | false => get m
def hasF (n : Int) (b : Bool) (has : Int → Bool) (m : Int) : Bool := match decide (m = n) with
  | true => b
  | false => has m
def forceVs {β : Type} (f : AV → (AV → β) → β) : List AV → (List AV → β) → β
  | [], k => k []
  | v :: l, k => f v fun v' => forceVs f l fun l' => k (v' :: l')
def forceV {β : Type} : Nat → AV → (AV → β) → β
  | 0, v, k => k v
  | n + 1, v, k => match v with
    | .int c i x => (match c with | true => k (.int true i x) | false => k (.int false i x))
    | .bool c x => (match c with | true => k (.bool true x) | false => k (.bool false x))
    | .fn f l => forceVs (forceV n) l fun l' => k (.fn f l')
    | .mth f l => forceVs (forceV n) l fun l' => k (.mth f l')
    | .alt b v w => forceV n v fun v' => forceV n w fun w' => k (.alt b v' w')
    | .ifc t v => forceV n v fun v' => k (.ifc t v')
    | .agg l => forceVs (forceV n) l fun l' => k (.agg l')
    | .tup l => forceVs (forceV n) l fun l' => k (.tup l')
    | .opt b v => forceV n v fun v' => k (.opt b v')
    | .ptr a b c => k (.ptr a b c)
    | .slice a b c d e => k (.slice a b c d e)
    | .slz a b c d => k (.slz a b c d)
    | .map a => k (.map a)
    | .yld a => k (.yld a)
    | .addr a => k (.addr a)
    | .nilp => k .nilp
    | .nils => k .nils
    | .nilm => k .nilm
    | .nilf => k .nilf
    | .nili => k .nili
    | .str s => k (.str s)
    | .raw v => k (.raw v)
/-- What is known, in full (for closed runs). -/
def hardN {β : Type} (m : Nat) (k : Nat → β) : β := match m with
  | 0 => k 0
  | j + 1 => k (Nat.succ j)
def hardI {β : Type} (n : Int) (k : Int → β) : β := match n with
  | .ofNat m => hardN m fun m => k (.ofNat m)
  | .negSucc m => hardN m fun m => k (.negSucc m)
def hardC {β : Type} (c : Cap) (k : Cap → β) : β := match c with
  | .lit n => hardN n fun n => k (.lit n)
  | .of n => hardN n fun n => k (.of n)
def hardV {β : Type} : Nat → AV → (AV → β) → β
  | 0, v, k => k v
  | n + 1, v, k => match v with
    | .int c i x => (match c with | true => hardI x fun x => k (.int true i x) | false => k (.int false i x))
    | .bool c x => (match c with | true => (match x with | true => k (.bool true true) | false => k (.bool true false)) | false => k (.bool false x))
    | .fn f l => forceVs (hardV n) l fun l' => k (.fn f l')
    | .mth f l => forceVs (hardV n) l fun l' => k (.mth f l')
    | .alt b v w => hardV n v fun v' => hardV n w fun w' => k (.alt b v' w')
    | .ifc t v => hardV n v fun v' => k (.ifc t v')
    | .agg l => forceVs (hardV n) l fun l' => k (.agg l')
    | .tup l => forceVs (hardV n) l fun l' => k (.tup l')
    | .opt b v => hardV n v fun v' => k (.opt b v')
    | .ptr a b c => hardN a fun a => hardN b fun b => hardN c fun c => k (.ptr a b c)
    | .slice a b c d e => hardN b fun b => hardN c fun c => hardN d fun d => hardC e fun e => (match a with | true => k (.slice true b c d e) | false => k (.slice false b c d e))
    | .slz a b c d => k (.slz a b c d)
    | .map a => hardN a fun a => k (.map a)
    | .yld a => hardN a fun a => k (.yld a)
    | .addr a => k (.addr a)
    | .nilp => k .nilp
    | .nils => k .nils
    | .nilm => k .nilm
    | .nilf => k .nilf
    | .nili => k .nili
    | .str s => k (.str s)
    | .raw v => k (.raw v)
def hardRows {β : Type} : List (List AV) → (List (List AV) → β) → β
  | [], k => k []
  | x :: l, k => forceVs (hardV 6) x fun x' => hardRows l fun l' => k (x' :: l')
def hardB {β : Type} : Blk → (Blk → β) → β
  | .cells z t l, k => forceVs (hardV 6) l fun l' => k (.cells z t l')
  | .cellsR z t l, k => forceVs (hardV 6) l fun l' => k (.cellsR z t l')
  | .lp s p l q r b, k => forceVs (hardV 6) l fun l' => k (.lp s p l' q r b)
  | .mpf a b c d, k => k (.mpf a b c d)
  | .rowl z t l, k => hardRows l fun l' => k (.rowl z t l')
  | .rowlR z t l, k => hardRows l fun l' => k (.rowlR z t l')
  | .arr a b c, k => k (.arr a b c)
  | .gone, k => k .gone
  | .dfr, k => k .dfr
  | .mp a b, k => k (.mp a b)
  | .rowz a b c d e, k => k (.rowz a b c d e)
  | .frz a b c, k => k (.frz a b c)
  | .frz2 a b c d e f, k => k (.frz2 a b c d e f)
def hardH {β : Type} : List (Nat × Blk) → (List (Nat × Blk) → β) → β
  | [], k => k []
  | (i, b) :: h, k => hardN i fun i' => hardH h fun h' => k ((i', b) :: h')
/-- Atoms alone. -/
def hardT {β : Type} (v : AV) (k : AV → β) : β := match v with
  | .agg l => k (.agg l)
  | .tup l => k (.tup l)
  | v => hardV 1 v k
def hardTs {β : Type} (l : List AV) (k : List AV → β) : β := forceVs hardT l k
def hardOn {α β : Type} (on : Bool) (f : α → (α → β) → β) (x : α) (k : α → β) : β := match on with
  | false => k x
  | true => f x k
theorem forceVs_eq {β : Type} {f : AV → (AV → β) → β} (hf : ∀ v k, f v k = k v) : ∀ (l : List AV) (k : List AV → β), forceVs f l k = k l
  | [], _ => rfl
  | v :: l, k => by rw [forceVs, hf, forceVs_eq hf l]
theorem forceV_eq {β : Type} : ∀ (n : Nat) (v : AV) (k : AV → β), forceV n v k = k v
  | 0, _, _ => rfl
  | n + 1, v, k => by
    cases v <;> simp only [forceV, forceV_eq n, forceVs_eq (forceV_eq n)]
    · rename_i c i x; cases c <;> rfl
    · rename_i c x; cases c <;> rfl
theorem hardN_eq {β : Type} (m : Nat) (k : Nat → β) : hardN m k = k m := by cases m <;> rfl
theorem hardI_eq {β : Type} (n : Int) (k : Int → β) : hardI n k = k n := by cases n <;> simp only [hardI, hardN_eq]
theorem hardC_eq {β : Type} (c : Cap) (k : Cap → β) : hardC c k = k c := by cases c <;> simp only [hardC, hardN_eq]
theorem hardV_eq {β : Type} : ∀ (n : Nat) (v : AV) (k : AV → β), hardV n v k = k v
  | 0, _, _ => rfl
  | n + 1, v, k => by
    cases v <;> simp only [hardV, hardV_eq n, forceVs_eq (hardV_eq n), hardN_eq, hardI_eq, hardC_eq]
    · rename_i c i x; cases c <;> rfl
    · rename_i c x; cases c <;> cases x <;> rfl
    · rename_i a b c d e; cases a <;> rfl
theorem hardVs_eq {β : Type} (l : List AV) (k : List AV → β) : forceVs (hardV 6) l k = k l := forceVs_eq (hardV_eq 6) l k
theorem hardRows_eq {β : Type} : ∀ (l : List (List AV)) (k : List (List AV) → β), hardRows l k = k l
  | [], _ => rfl
  | x :: l, k => by rw [hardRows, hardVs_eq, hardRows_eq l]
theorem hardB_eq {β : Type} (b : Blk) (k : Blk → β) : hardB b k = k b := by
  cases b <;> simp only [hardB, hardVs_eq, hardRows_eq]
theorem hardH_eq {β : Type} : ∀ (l : List (Nat × Blk)) (k : List (Nat × Blk) → β), hardH l k = k l
  | [], _ => rfl
  | (i, b) :: h, k => by rw [hardH, hardN_eq, hardH_eq h]
theorem hardT_eq {β : Type} (v : AV) (k : AV → β) : hardT v k = k v := by
  cases v <;> simp only [hardT, hardV_eq]
theorem hardTs_eq {β : Type} (l : List AV) (k : List AV → β) : hardTs l k = k l := forceVs_eq hardT_eq l k
theorem hardOn_eq {α β : Type} {f : α → (α → β) → β} (hf : ∀ x k, f x k = k x) (on : Bool) (x : α) (k : α → β) : hardOn on f x k = k x := by
  cases on with
  | false => rfl
  | true => exact hf x k
def updF (P : Program) (kt : TypeId) (id : Nat) (k : IntKind) (n : Int) (v : AV) (k' : IntKind) (z : AV) (has : Int → Bool) (get : Int → AV) : Option Eff := match intKey P kt k, k == k', v.all (fun _ => false) with
  | true, true, true => some ⟨true, true, .tup [], [(id, .mpf k' z (hasF n true has) (putF n v get))]⟩
  | _, _, _ => none
def delF (P : Program) (kt : TypeId) (id : Nat) (k : IntKind) (n : Int) (k' : IntKind) (z : AV) (has : Int → Bool) (get : Int → AV) : Option Eff := match intKey P kt k, k == k' with
  | true, true => some ⟨true, true, .tup [], [(id, .mpf k' z (hasF n false has) (putF n z get))]⟩
  | _, _ => none
def nilN : Blk → Option Nat
  | .rowz _ _ _ n _ => some n
  | .frz _ n _ => some n
  | _ => none
def mapOp (P : Program) (op : Op) (ev : Operand → AV) (nid : Nat) : Option View := match op with
  | .makeMap _ none => some ([], fun _ => some ⟨true, true, .map nid, [(nid, .mp [] 0)]⟩)
  | .lookup t x ix false => match P.underlying t, ev x, ev ix with
    | some (.map kt et), .map id, .int _ k n => some ([id], fun | [.mp es _] => lookM P kt et k n es | [.mpf k' z _ get] => lookF P kt et k n k' z get | _ => none)
    | _, _, _ => none
  | .mapUpdate t m x v => match P.underlying t, ev m, ev x with
    | some (.map kt _), .map id, .int _ k n => some ([id], fun | [.mp es cl] => updM P kt id k n (ev v) es cl | [.mpf k' z has get] => forceV 6 (ev v) fun u => updF P kt id k n u k' z has get | _ => none)
    | _, _, _ => none
  | .call ⟨.builtin .delete, args, ts⟩ => match args.toList, ts.toList with
    | [m, x], [t, _] => match P.underlying t, ev m, ev x with
      | some (.map kt _), .map id, .int _ k n => some ([id], fun | [.mp es cl] => delM P kt id k n es cl | [.mpf k' z has get] => delF P kt id k n k' z has get | _ => none)
      | _, _, _ => none
    | _, _ => none
  | .binOp .eql t x y _ => match P.underlying t, ev x, ev y with
    | some (.slice _), .slz id _ len _, .nils => some ([id], fun
      | [b] => (match nilN b with
        | some n => some ⟨false, decide (0 < len ∧ len ≤ n), .bool true false, []⟩
        | none => none)
      | _ => none)
    | _, _, _ => none
  | _ => none
theorem findI_now {k : IntKind} {n : Int} : ∀ {es : List MapEntry} {i : Nat} {x : Option (Nat × Value)}, findI k n es i = some x → Instr.findNow (.int k) (.int k n) es i = some x
  | [], i, x, h => h
  | e :: es, i, x, h => by
    simp only [findI] at h
    split at h <;> (try (cases h; done))
    rename_i k' m he
    split at h <;> (try (cases h; done))
    rename_i hk
    have hk : k = k' := by simpa using hk
    subst hk
    simp only [Instr.findNow, he, Instr.sameNow, if_true]
    by_cases hm : n = m
    · subst hm
      simp only [decide_true] at h
      simp only [beq_self_eq_true]; exact h
    · simp only [hm, decide_false] at h
      have : (n == m) = false := by simpa using hm
      simp only [this]; exact findI_now h
theorem intKey_spec {P : Program} {kt : TypeId} {k : IntKind} (h : intKey P kt k = true) : P.underlying kt = some (.int k) := by
  unfold intKey at h
  split at h <;> (try (cases h; done))
  rename_i k' hu
  have : k = k' := by simpa using h
  subst this; exact hu
theorem run_findI {P : Program} {kt : TypeId} {k : IntKind} {n : Int} {es : List MapEntry} {x : Option (Nat × Value)} (hk : intKey P kt k = true) (h : findI k n es 0 = some x) (w : World) :
    (Instr.findKey kt (.int k n) es).run P w = .ok x w := by
  simp only [Instr.findKey, Sem.run_bind, run_underlying (intKey_spec hk), Result.andThen_ok, findI_now h, Sem.run_pure]
theorem run_keyI' {P : Program} {kt : TypeId} {k : IntKind} {n : Int} (hk : intKey P kt k = true) (b : Bool) (m : Nat) (w : World) : (Instr.checkKey b (m + 1) kt (.int k n)).run P w = .ok () w := by
  rw [Instr.checkKey, Sem.run_bind, run_underlying (intKey_spec hk)]
  rfl
theorem run_keyI {P : Program} {kt : TypeId} {k : IntKind} {n : Int} (hk : intKey P kt k = true) (b : Bool) (w : World) : (Instr.checkKey b 10000 kt (.int k n)).run P w = .ok () w := run_keyI' hk b 9999 w
theorem run_getMap {P : Program} {w : World} {b : Nat} {es : Array MapEntry} {cl : Nat} (h : bk w b = some (.map es cl)) : (getObj b).run P w = .ok (.map es cl) w := by
  unfold bk at h; simp [getObj, Sem.run, h]
theorem run_setMap {P : Program} {w : World} {b : Nat} {es : Array MapEntry} {cl : Nat} {o' : Obj} (h : bk w b = some (.map es cl)) : (setObj b o').run P w = .ok () (w.putObj b o') := by
  unfold bk at h; simp [setObj, Sem.run, h, World.putObj]
theorem run_zero {P : Program} {t : TypeId} {z : Value} (h : (P.info? t).bind (·.zero) = some z) (w : World) : (zeroValue t).run P w = .ok z w := by
  cases hi : P.info? t with
  | none => simp [hi] at h
  | some i =>
    simp only [hi, Option.bind_some] at h
    simp [zeroValue, typeInfo, hi, h, Sem.run_bind]
theorem findI_at {k : IntKind} {n : Int} : ∀ {es : List MapEntry} {i j : Nat} {v : Value}, findI k n es i = some (some (j, v)) → i ≤ j ∧ ∃ e, es[j - i]? = some e ∧ e.key = .int k n ∧ e.val = v
  | [], i, j, v, h => by simp [findI] at h
  | e :: es, i, j, v, h => by
    simp only [findI] at h
    split at h <;> (try (cases h; done))
    rename_i k' m he
    split at h <;> (try (cases h; done))
    rename_i hk
    have hk : k = k' := by simpa using hk
    subst hk
    by_cases hm : n = m
    · subst hm
      simp only [decide_true, Option.some.injEq, Prod.mk.injEq] at h
      obtain ⟨rfl, rfl⟩ := h
      exact ⟨Nat.le_refl _, e, by simp, he, rfl⟩
    · simp only [hm, decide_false] at h
      obtain ⟨h1, e', h2, h3⟩ := findI_at h
      exact ⟨by omega, e', by rw [show j - i = (j - (i + 1)) + 1 by omega]; simpa using h2, h3⟩
theorem setAt_modify (key val : Value) : ∀ (es : List MapEntry) (i : Nat), es.modify i (fun e => { e with key, val }) = setAt key val es i
  | [], i => by cases i <;> rfl
  | e :: es, 0 => rfl
  | e :: es, i + 1 => by rw [List.modify_succ_cons, setAt_modify key val es i]; rfl
theorem dropAt_erase : ∀ (es : List MapEntry) (i : Nat), es.eraseIdx i = dropAt es i
  | [], i => by cases i <;> rfl
  | e :: es, 0 => rfl
  | e :: es, i + 1 => by rw [List.eraseIdx_cons_succ, dropAt_erase es i]; rfl
theorem putObj_fr (w : World) (b : Nat) (o : Obj) : Fr w (w.putObj b o) (fun k => k = b) := by
  refine ⟨rfl, rfl, rfl, by simp [World.putObj], fun k _ hk => ?_⟩
  unfold bk
  exact World.putObj_heap_other hk
theorem putObj_bk {w : World} {b : Nat} {o o' : Obj} (h : bk w b = some o) : bk (w.putObj b o') b = some o' := by
  unfold bk
  exact World.putObj_heap_same (bk_lt h)

theorem run_lookM {P : Program} {t kt et : TypeId} {k : IntKind} {n : Int} {es : List MapEntry} {cl b : Nat} {w : World} {eff : Eff} (hu : P.underlying t = some (.map kt et)) (hb : bk w b = some (.map es.toArray cl)) (h : lookM P kt et k n es = some eff) (r : Nat → Loc) :
    (Instr.lookup t (.map (some b)) (.int k n) false).run P w = .ok (eff.val.den r) w ∧ eff.upd = [] := by
  unfold lookM at h
  split at h <;> (try (cases h; done))
  · rename_i i v hk hf
    simp only [Option.some.injEq] at h; subst h
    refine ⟨?_, rfl⟩
    simp only [Instr.lookup, Sem.run_bind, run_underlying hu, Result.andThen_ok, run_getMap hb, Sem.run_pure, run_keyI hk, run_findI hk hf, den_ofValue]
    rfl
  · rename_i hk hf
    split at h <;> (try (cases h; done))
    rename_i z hz
    simp only [Option.some.injEq] at h; subst h
    refine ⟨?_, rfl⟩
    simp only [Instr.lookup, Sem.run_bind, run_underlying hu, Result.andThen_ok, run_getMap hb, Sem.run_pure, run_keyI hk, run_findI hk hf, den_ofValue, run_zero hz]
    rfl
theorem run_updM {P : Program} {t kt et : TypeId} {id : Nat} {k : IntKind} {n : Int} {v : AV} {es : List MapEntry} {cl b : Nat} {w : World} {eff : Eff} (hu : P.underlying t = some (.map kt et)) (hb : bk w b = some (.map es.toArray cl)) (h : updM P kt id k n v es cl = some eff) (r : Nat → Loc) :
    ∃ es' cl', (Instr.mapUpdate t (.map (some b)) (.int k n) (v.den r)).run P w = .ok () (w.putObj b (.map es'.toArray cl')) ∧ eff = ⟨true, true, .tup [], [(id, .mp es' cl')]⟩ := by
  unfold updM at h
  split at h <;> (try (cases h; done))
  · rename_i i x hk hv hf
    simp only [Option.some.injEq] at h
    obtain ⟨_, e, he, hek, _⟩ := findI_at hf
    refine ⟨_, _, ?_, h.symm⟩
    have hkey : ((es.toArray[i]?).map (·.key)).getD (.int k n) = .int k n := by
      rw [List.getElem?_toArray]; simp only [Nat.sub_zero] at he; rw [he]; simpa using hek
    have hst : (Instr.keyThatStays (.int k n) (.int k n)).run P w = .ok (.int k n) w := by
      simp [Instr.keyThatStays, Instr.sameBits]
    simp only [Instr.mapUpdate, Sem.run_bind, run_underlying hu, Result.andThen_ok, run_getMap hb, run_keyI hk, run_findI hk hf, hkey, hst, plainV_ok hv r]
    rw [run_setMap hb]
    congr 2
    rw [List.modify_toArray, setAt_modify]
  · rename_i hk hv hf
    simp only [Option.some.injEq] at h
    refine ⟨_, _, ?_, h.symm⟩
    simp only [Instr.mapUpdate, Sem.run_bind, run_underlying hu, Result.andThen_ok, run_getMap hb, run_keyI hk, run_findI hk hf, plainV_ok hv r]
    rw [run_setMap hb]
    simp
theorem run_delM {P : Program} {t kt et ty : TypeId} {tys : Array TypeId} {id : Nat} {k : IntKind} {n : Int} {es : List MapEntry} {cl b : Nat} {w : World} {eff : Eff} (hu : P.underlying t = some (.map kt et)) (hb : bk w b = some (.map es.toArray cl)) (ht : tys[0]? = some t) (h : delM P kt id k n es cl = some eff) :
    ∃ es' cl', (Builtin.delete_ tys ty #[.map (some b), .int k n]).run P w = .ok (.tuple #[]) (w.putObj b (.map es'.toArray cl')) ∧ eff = ⟨true, true, .tup [], [(id, .mp es' cl')]⟩ := by
  unfold delM at h
  split at h <;> (try (cases h; done))
  · rename_i i x hk hf
    simp only [Option.some.injEq] at h
    obtain ⟨_, e, he, _⟩ := findI_at hf
    refine ⟨_, _, ?_, h.symm⟩
    simp only [Builtin.delete_, ht, Sem.run_bind, run_underlying hu, Result.andThen_ok, run_getMap hb, run_keyI hk, run_findI hk hf]
    simp only [List.getElem?_toArray, List.getElem?_cons_zero, List.getElem?_cons_succ, Sem.run_bind, run_underlying hu, Result.andThen_ok, run_getMap hb, run_keyI hk, run_findI hk hf]
    rw [run_setMap hb]
    simp only [Result.andThen_ok, Sem.run_pure]
    congr 3
    rw [← dropAt_erase]
    apply Array.ext'
    rw [Array.toList_eraseIdxIfInBounds]
  · rename_i hk hf
    simp only [Option.some.injEq] at h
    refine ⟨_, _, ?_, h.symm⟩
    simp only [Builtin.delete_, ht, Sem.run_bind, run_underlying hu, Result.andThen_ok, run_getMap hb, run_keyI hk, run_findI hk hf]
    simp only [List.getElem?_toArray, List.getElem?_cons_zero, List.getElem?_cons_succ, Sem.run_bind, run_underlying hu, Result.andThen_ok, run_getMap hb, run_keyI hk, run_findI hk hf]
    rw [run_setMap hb]
    simp only [Result.andThen_ok, Sem.run_pure]

theorem mp_post {lk : Nat → Option Blk} {r : Nat → Loc} {nid id cl : Nat} {es : List MapEntry} {w : World} {es0 : List MapEntry} {cl0 : Nat} (hid : inR nid id = false) (hlk : lk id = some (.mp es0 cl0)) (hb : bk w (r id).blk = some (.map es0.toArray cl0)) : Post lk r nid [(id, .mp es cl)] w r (w.putObj (r id).blk (.map es.toArray cl)) :=
  Post.same1 hid hlk rfl (fun _ h => h) (putObj_bk hb) (putObj_fr w _ _)
/-- All keys are whole numbers of one kind, each once. -/
structure KeysI (k : IntKind) (es : List MapEntry) : Prop where
  keys : ∀ e ∈ es, ∃ m, e.key = .int k m
  once : (es.map (·.key)).Nodup
theorem KeysI.tail {k : IntKind} {e : MapEntry} {es : List MapEntry} (h : KeysI k (e :: es)) : KeysI k es := ⟨fun x hx => h.keys x (List.mem_cons_of_mem _ hx), (List.nodup_cons.1 h.once).2⟩
theorem findI_get {k : IntKind} (n : Int) : ∀ {es : List MapEntry} (i : Nat), KeysI k es → ∃ x, findI k n es i = some x ∧ x.map (·.2) = getI k n es
  | [], i, _ => ⟨none, rfl, rfl⟩
  | e :: es, i, h => by
    obtain ⟨m, hm⟩ := h.keys e (by simp)
    by_cases hn : n = m
    · exact ⟨some (i, e.val), by simp [findI, hm, hn], by simp [getI, hm, hn]⟩
    · obtain ⟨x, h1, h2⟩ := findI_get n (i + 1) h.tail
      exact ⟨x, by simp [findI, hm, hn, h1], by simp [getI, hm, hn, h2]⟩
theorem getI_none {k : IntKind} {n : Int} : ∀ {es : List MapEntry}, KeysI k es → getI k n es = none → ∀ e ∈ es, e.key ≠ .int k n
  | [], _, _, e, he => by cases he
  | e' :: es, h, hg, e, he => by
    obtain ⟨m, hm⟩ := h.keys e' (by simp)
    by_cases hn : n = m
    · simp [getI, hm, hn] at hg
    · simp only [getI, hm, hn, and_false, decide_false] at hg
      rcases List.mem_cons.1 he with rfl | he
      · rw [hm]; simp only [ne_eq, Value.int.injEq, true_and]; exact fun h => hn h.symm
      · exact getI_none h.tail hg e he
theorem setAt_keys {key val : Value} : ∀ {es : List MapEntry} {i : Nat} {e : MapEntry}, es[i]? = some e → e.key = key → (setAt key val es i).map (·.key) = es.map (·.key)
  | [], i, e, h, _ => by simp at h
  | x :: es, 0, e, h, hk => by
    simp only [List.getElem?_cons_zero, Option.some.injEq] at h; subst h
    simp [setAt, hk]
  | x :: es, i + 1, e, h, hk => by
    simp only [List.getElem?_cons_succ] at h
    simp [setAt, setAt_keys h hk]
theorem keysI_of {k : IntKind} {es es' : List MapEntry} (h : KeysI k es) (he : es'.map (·.key) = es.map (·.key)) : KeysI k es' := by
  refine ⟨fun e hm => ?_, by rw [he]; exact h.once⟩
  have : e.key ∈ es'.map (·.key) := List.mem_map_of_mem hm
  rw [he] at this
  obtain ⟨e2, h2, h3⟩ := List.mem_map.1 this
  obtain ⟨m, hm⟩ := h.keys e2 h2
  exact ⟨m, by rw [← h3, hm]⟩
theorem setAt_get {k : IntKind} {n : Int} {val : Value} (m : Int) : ∀ {es : List MapEntry} {i : Nat} {e : MapEntry}, KeysI k es → es[i]? = some e → e.key = .int k n → getI k m (setAt (.int k n) val es i) = if m = n then some val else getI k m es
  | [], i, e, _, h, _ => by simp at h
  | x :: es, 0, e, hK, h, hk => by
    simp only [List.getElem?_cons_zero, Option.some.injEq] at h; subst h
    simp only [setAt, getI, hk, true_and]
    by_cases hm : m = n <;> simp [hm]
  | x :: es, i + 1, e, hK, h, hk => by
    simp only [List.getElem?_cons_succ] at h
    obtain ⟨j, hj⟩ := hK.keys x (by simp)
    have hne : j ≠ n := by
      intro hjn
      have := (List.nodup_cons.1 hK.once).1
      refine this ?_
      show x.key ∈ _
      rw [hj, hjn, ← hk]; exact List.mem_map_of_mem (List.mem_of_getElem? h)
    simp only [setAt, getI, hj, true_and]
    by_cases hm : m = j
    · subst hm
      simp [hne]
    · simp only [hm, decide_false]
      exact setAt_get m hK.tail h hk
theorem snoc_get {k : IntKind} {n : Int} {val : Value} {cl : Nat} (m : Int) : ∀ {es : List MapEntry}, KeysI k es → getI k n es = none → getI k m (es ++ [{ key := .int k n, val, born := cl }]) = if m = n then some val else getI k m es
  | [], _, _ => by
    simp only [List.nil_append, getI, true_and]
    by_cases hm : m = n <;> simp [hm]
  | x :: es, hK, hg => by
    obtain ⟨j, hj⟩ := hK.keys x (by simp)
    have hne : n ≠ j := fun h => by simp [getI, hj, h] at hg
    have hg' : getI k n es = none := by simpa [getI, hj, hne] using hg
    simp only [List.cons_append, getI, hj, true_and]
    by_cases hm : m = j
    · subst hm
      simp [hne.symm]
    · simp only [hm, decide_false]
      exact snoc_get m hK.tail hg'
theorem dropAt_mem {x : MapEntry} : ∀ {es : List MapEntry} {i : Nat}, x ∈ dropAt es i → x ∈ es
  | [], _, h => h
  | _ :: _, 0, h => List.mem_cons_of_mem _ h
  | _ :: es, i + 1, h => by
    simp only [dropAt] at h
    rcases List.mem_cons.1 h with rfl | h
    · simp
    · exact List.mem_cons_of_mem _ (dropAt_mem h)
theorem dropAt_keysI {k : IntKind} : ∀ {es : List MapEntry} {i : Nat}, KeysI k es → KeysI k (dropAt es i)
  | [], _, h => h
  | _ :: _, 0, h => h.tail
  | x :: es, i + 1, h => by
    have ht := dropAt_keysI (i := i) h.tail
    refine ⟨fun e he => ?_, ?_⟩
    · simp only [dropAt] at he
      rcases List.mem_cons.1 he with rfl | he
      · exact h.keys _ (by simp)
      · exact ht.keys e he
    · simp only [dropAt, List.map_cons, List.nodup_cons]
      refine ⟨fun hm => ?_, ht.once⟩
      obtain ⟨y, hy, hyk⟩ := List.mem_map.1 hm
      exact (List.nodup_cons.1 h.once).1 (List.mem_map.2 ⟨y, dropAt_mem hy, hyk⟩)
theorem getI_miss {k : IntKind} {n : Int} : ∀ {es : List MapEntry}, KeysI k es → (∀ e ∈ es, e.key ≠ .int k n) → getI k n es = none
  | [], _, _ => rfl
  | x :: es, hK, h => by
    obtain ⟨j, hj⟩ := hK.keys x (by simp)
    have hne : n ≠ j := fun e => h x (by simp) (by rw [hj, e])
    simp only [getI, hj, true_and, hne, decide_false]
    exact getI_miss hK.tail (fun e he => h e (by simp [he]))
theorem dropAt_get {k : IntKind} {n : Int} (m : Int) : ∀ {es : List MapEntry} {i : Nat} {e : MapEntry}, KeysI k es → es[i]? = some e → e.key = .int k n → getI k m (dropAt es i) = if m = n then none else getI k m es
  | [], i, e, _, h, _ => by simp at h
  | x :: es, 0, e, hK, h, hk => by
    simp only [List.getElem?_cons_zero, Option.some.injEq] at h; subst h
    simp only [dropAt, getI, hk, true_and]
    by_cases hm : m = n
    · subst hm
      simp only [if_true]
      refine getI_miss hK.tail fun e he hek => ?_
      refine (List.nodup_cons.1 hK.once).1 ?_
      show x.key ∈ _
      rw [hk, ← hek]; exact List.mem_map_of_mem he
    · simp [hm]
  | x :: es, i + 1, e, hK, h, hk => by
    simp only [List.getElem?_cons_succ] at h
    obtain ⟨j, hj⟩ := hK.keys x (by simp)
    have hne : j ≠ n := by
      intro hjn
      have := (List.nodup_cons.1 hK.once).1
      refine this ?_
      show x.key ∈ _
      rw [hj, hjn, ← hk]; exact List.mem_map_of_mem (List.mem_of_getElem? h)
    simp only [dropAt, getI, hj, true_and]
    by_cases hm : m = j
    · subst hm
      simp [hne]
    · simp only [hm, decide_false]
      exact dropAt_get m hK.tail h hk
theorem MapIs.keysI {r : Nat → Loc} {k : IntKind} {z : AV} {has : Int → Bool} {get : Int → AV} {es : List MapEntry} (h : MapIs r k z has get es) : KeysI k es := ⟨h.keys, h.once⟩
theorem zeroB_ok {z : AV} {zz : Value} (h : zeroB z zz = true) (r : Nat → Loc) : zz = z.den r := by
  unfold zeroB at h
  split at h
  · simp only [AV.den]; rw [eq_of_beq h]
  · simp only [Bool.and_eq_true, decide_eq_true_eq, beq_iff_eq] at h
    simp only [AV.den, h.1, h.2]
  · cases h
/-- One more, or one anew. -/
theorem MapIs.put {r : Nat → Loc} {k : IntKind} {z : AV} {has : Int → Bool} {get : Int → AV} {es es' : List MapEntry} (h : MapIs r k z has get es) {n : Int} {v : AV} (hv : v.all (fun _ => false) = true) (hK : KeysI k es') (hg : ∀ m, getI k m es' = if m = n then some (plainV v) else getI k m es) : MapIs r k z (hasF n true has) (putF n v get) es' := by
  refine ⟨hK.keys, hK.once, fun m => ?_, h.zero, fun m hm => ?_, fun m hm => ?_⟩
  · unfold putF; split
    · exact hv
    · exact h.flat m
  · rw [hg m]
    unfold hasF at hm; unfold putF
    by_cases e : m = n
    · simp [e, plainV_ok hv r]
    · simp only [e, decide_false, if_false] at hm ⊢; exact h.yes m hm
  · rw [hg m]
    unfold hasF at hm; unfold putF
    by_cases e : m = n
    · simp [e] at hm
    · simp only [e, decide_false, if_false] at hm ⊢; exact h.no m hm
theorem MapIs.del {r : Nat → Loc} {k : IntKind} {z : AV} {has : Int → Bool} {get : Int → AV} {es es' : List MapEntry} (h : MapIs r k z has get es) {n : Int} (hK : KeysI k es') (hg : ∀ m, getI k m es' = if m = n then none else getI k m es) : MapIs r k z (hasF n false has) (putF n z get) es' := by
  refine ⟨hK.keys, hK.once, fun m => ?_, h.zero, fun m hm => ?_, fun m hm => ?_⟩
  · unfold putF; split
    · exact h.zero
    · exact h.flat m
  · rw [hg m]
    unfold hasF at hm; unfold putF
    by_cases e : m = n
    · simp [e] at hm
    · simp only [e, decide_false, if_false] at hm ⊢; exact h.yes m hm
  · rw [hg m]
    unfold hasF at hm; unfold putF
    by_cases e : m = n
    · simp [e]
    · simp only [e, decide_false, if_false] at hm ⊢; exact h.no m hm
theorem run_lookF {P : Program} {t kt et : TypeId} {k k' : IntKind} {n : Int} {z : AV} {has : Int → Bool} {get : Int → AV} {es : List MapEntry} {cl b : Nat} {w : World} {eff : Eff} {r : Nat → Loc} (hu : P.underlying t = some (.map kt et)) (hb : bk w b = some (.map es.toArray cl)) (hm : MapIs r k' z has get es) (h : lookF P kt et k n k' z get = some eff) :
    (Instr.lookup t (.map (some b)) (.int k n) false).run P w = .ok (eff.val.den r) w ∧ eff.upd = [] := by
  unfold lookF at h
  split at h <;> (try (cases h; done))
  rename_i zz hk hkk hz
  split at h <;> (try (cases h; done))
  rename_i hzz
  have hkk : k = k' := by simpa using hkk
  subst hkk
  simp only [Option.some.injEq] at h; subst h
  refine ⟨?_, rfl⟩
  obtain ⟨x, hf, hx⟩ := findI_get n 0 hm.keysI
  cases hh : has n with
  | true =>
    rw [hm.yes n hh] at hx
    cases x with
    | none => cases hx
    | some x =>
      simp only [Option.map_some, Option.some.injEq] at hx
      simp only [Instr.lookup, Sem.run_bind, run_underlying hu, Result.andThen_ok, run_getMap hb, Sem.run_pure, run_keyI hk, run_findI hk hf]
      rw [← hx]; rfl
  | false =>
    rw [(hm.no n hh).1] at hx
    cases x with
    | some x => cases hx
    | none =>
      simp only [Instr.lookup, Sem.run_bind, run_underlying hu, Result.andThen_ok, run_getMap hb, Sem.run_pure, run_keyI hk, run_findI hk hf, run_zero hz]
      rw [(hm.no n hh).2, zeroB_ok hzz r]; rfl
theorem run_updF {P : Program} {t kt et : TypeId} {id : Nat} {k k' : IntKind} {n : Int} {v z : AV} {has : Int → Bool} {get : Int → AV} {es : List MapEntry} {cl b : Nat} {w : World} {eff : Eff} {r : Nat → Loc} (hu : P.underlying t = some (.map kt et)) (hb : bk w b = some (.map es.toArray cl)) (hm : MapIs r k' z has get es) (h : updF P kt id k n v k' z has get = some eff) :
    ∃ es' cl', (Instr.mapUpdate t (.map (some b)) (.int k n) (v.den r)).run P w = .ok () (w.putObj b (.map es'.toArray cl')) ∧ MapIs r k' z (hasF n true has) (putF n v get) es' ∧ eff = ⟨true, true, .tup [], [(id, .mpf k' z (hasF n true has) (putF n v get))]⟩ := by
  unfold updF at h
  split at h <;> (try (cases h; done))
  rename_i hk hkk hv
  have hkk : k = k' := by simpa using hkk
  subst hkk
  simp only [Option.some.injEq] at h
  obtain ⟨x, hf, hx⟩ := findI_get n 0 hm.keysI
  cases x with
  | some x =>
    obtain ⟨i, x⟩ := x
    obtain ⟨es', cl', h1, h2⟩ := run_updM (id := id) (k := k) (n := n) (v := v) (P := P) (kt := kt) (cl := cl) (eff := ⟨true, true, .tup [], [(id, .mp (setAt (.int k n) (plainV v) es i) cl)]⟩) hu hb (by simp only [updM, hk, hv, hf]) r
    simp only [Eff.mk.injEq, List.cons.injEq, Prod.mk.injEq, Blk.mp.injEq, true_and, and_true] at h2
    obtain ⟨rfl, rfl⟩ := h2
    obtain ⟨_, e, he, hek, _⟩ := findI_at hf
    exact ⟨_, _, h1, hm.put hv (keysI_of hm.keysI (setAt_keys he hek)) (fun m => setAt_get m hm.keysI he hek), h.symm⟩
  | none =>
    obtain ⟨es', cl', h1, h2⟩ := run_updM (id := id) (k := k) (n := n) (v := v) (P := P) (kt := kt) (cl := cl) (eff := ⟨true, true, .tup [], [(id, .mp (es ++ [{ key := .int k n, val := plainV v, born := cl }]) (cl + 1))]⟩) hu hb (by simp only [updM, hk, hv, hf]) r
    simp only [Eff.mk.injEq, List.cons.injEq, Prod.mk.injEq, Blk.mp.injEq, true_and, and_true] at h2
    obtain ⟨rfl, rfl⟩ := h2
    have hg0 : getI k n es = none := by rw [← hx]; rfl
    have hK : KeysI k (es ++ [{ key := .int k n, val := plainV v, born := cl }]) := by
      refine ⟨fun e he => ?_, ?_⟩
      · rcases List.mem_append.1 he with he | he
        · exact hm.keys e he
        · simp only [List.mem_singleton] at he; subst he; exact ⟨n, rfl⟩
      · rw [List.map_append, List.map_cons, List.map_nil, List.nodup_append]
        refine ⟨hm.once, by simp, fun a ha b hb' => ?_⟩
        obtain ⟨e, he, rfl⟩ := List.mem_map.1 ha
        simp only [List.mem_singleton] at hb'; subst hb'
        exact getI_none hm.keysI hg0 e he
    exact ⟨_, _, h1, hm.put hv hK (fun m => snoc_get m hm.keysI hg0), h.symm⟩
theorem run_delF {P : Program} {t kt et ty : TypeId} {tys : Array TypeId} {id : Nat} {k k' : IntKind} {n : Int} {z : AV} {has : Int → Bool} {get : Int → AV} {es : List MapEntry} {cl b : Nat} {w : World} {eff : Eff} {r : Nat → Loc} (hu : P.underlying t = some (.map kt et)) (hb : bk w b = some (.map es.toArray cl)) (ht : tys[0]? = some t) (hm : MapIs r k' z has get es) (h : delF P kt id k n k' z has get = some eff) :
    ∃ es' cl', (Builtin.delete_ tys ty #[.map (some b), .int k n]).run P w = .ok (.tuple #[]) (w.putObj b (.map es'.toArray cl')) ∧ MapIs r k' z (hasF n false has) (putF n z get) es' ∧ eff = ⟨true, true, .tup [], [(id, .mpf k' z (hasF n false has) (putF n z get))]⟩ := by
  unfold delF at h
  split at h <;> (try (cases h; done))
  rename_i hk hkk
  have hkk : k = k' := by simpa using hkk
  subst hkk
  simp only [Option.some.injEq] at h
  obtain ⟨x, hf, hx⟩ := findI_get n 0 hm.keysI
  cases x with
  | some x =>
    obtain ⟨i, x⟩ := x
    obtain ⟨es', cl', h1, h2⟩ := run_delM (id := id) (k := k) (n := n) (P := P) (kt := kt) (ty := ty) (cl := cl) (eff := ⟨true, true, .tup [], [(id, .mp (dropAt es i) cl)]⟩) hu hb ht (by simp only [delM, hk, hf])
    simp only [Eff.mk.injEq, List.cons.injEq, Prod.mk.injEq, Blk.mp.injEq, true_and, and_true] at h2
    obtain ⟨rfl, rfl⟩ := h2
    obtain ⟨_, e, he, hek, _⟩ := findI_at hf
    exact ⟨_, _, h1, hm.del (dropAt_keysI hm.keysI) (fun m => dropAt_get m hm.keysI he hek), h.symm⟩
  | none =>
    obtain ⟨es', cl', h1, h2⟩ := run_delM (id := id) (k := k) (n := n) (P := P) (kt := kt) (ty := ty) (cl := cl) (eff := ⟨true, true, .tup [], [(id, .mp es cl)]⟩) hu hb ht (by simp only [delM, hk, hf])
    simp only [Eff.mk.injEq, List.cons.injEq, Prod.mk.injEq, Blk.mp.injEq, true_and, and_true] at h2
    obtain ⟨rfl, rfl⟩ := h2
    have hg0 : getI k n es = none := by rw [← hx]; rfl
    refine ⟨_, _, h1, hm.del hm.keysI (fun m => ?_), h.symm⟩
    by_cases e : m = n
    · rw [if_pos e, e]; exact hg0
    · rw [if_neg e]
theorem RowzR.zero {r : Nat → Loc} {id : Nat} {w : World} {ty : TypeId} {z n : Nat} {g : Nat → List AV} (h : RowzR r id w ty z n g) (hn : (r id).nil = true) : n = 0 := h.2.2.2.1 hn
theorem mpf_post {lk : Nat → Option Blk} {r : Nat → Loc} {nid id cl : Nat} {k : IntKind} {z : AV} {has has0 : Int → Bool} {get get0 : Int → AV} {es : List MapEntry} {w : World} {es0 : List MapEntry} {cl0 : Nat} (hid : inR nid id = false) (hlk : lk id = some (.mpf k z has0 get0)) (hb : bk w (r id).blk = some (.map es0.toArray cl0)) (hm : MapIs r k z has get es) : Post lk r nid [(id, .mpf k z has get)] w r (w.putObj (r id).blk (.map es.toArray cl)) :=
  Post.same1 hid hlk rfl (fun _ h => h) ⟨es, cl, putObj_bk hb, hm⟩ (putObj_fr w _ _)
theorem mapOp_ok {P : Program} {o : Oper} {ev : Operand → AV} {nid : Nat} {r : Nat → Loc} {a : Act} {w : World} {look : Nat → Option Blk} {blks : List Blk} {eff : Eff}
    (hH : HOk r w nid look) {ids : List Nat} {g : List Blk → Option Eff} (hV : mapOp P o.op ev nid = some (ids, g)) (hv : ids.map look = blks.map some) (he : g blks = some eff) (hp : eff.pre = true)
    (hρ : ∀ x ∈ o.op.operands, a.eval x = (ev x).den r) {K : Act → World → Prop} {Q : Exit → Act → World → Prop}
    (k : ∀ r' w', Post look r nid eff.upd w r' w' → K (a.put o.dst (eff.val.den r')) w') : o.wp P a w K Q := by
  have KV : ∀ {s : Sem Value} {v : Value} {w' : World}, s.run P w = .ok v w' → (do pure (.value (← s)) : Sem Next).run P w = .ok (.value v) w' := by
    intro s v w' hs; rw [Sem.run_bind, hs]; rfl
  have KU : ∀ {s : Sem Unit} {w' : World}, s.run P w = .ok () w' → (do s; pure .skip : Sem Next).run P w = .ok .skip w' := by
    intro s w' hs; rw [Sem.run_bind, hs]; rfl
  have one : ∀ {id : Nat}, [id].map look = blks.map some → ∃ b, blks = [b] ∧ look id = some b := by
    intro id h
    obtain ⟨b, rfl⟩ := one_of h
    simp only [List.map_cons, List.map_nil, List.cons.injEq, and_true] at h
    exact ⟨b, rfl, h⟩
  unfold mapOp at hV
  split at hV <;> (try (cases hV; done)) <;> rename_i ho
  · rename_i t
    simp only [Option.some.injEq, Prod.mk.injEq] at hV; obtain ⟨rfl, rfl⟩ := hV
    simp only [Option.some.injEq] at he; subst he
    have hb : BRep (upd1 r nid (Loc.of w.heap.size 0 0 0)) nid (w.alloc (.map #[] 0)) (.mp [] 0) := by
      simp only [BRep, upd1, if_true]
      show bk _ w.heap.size = _
      rw [bk_alloc, if_pos rfl]
    refine upon_of_value (w' := w.alloc (.map #[] 0)) (v := .map (some w.heap.size)) ?_ ?_
    · unfold execOp; simp only [ho]; exact KV rfl
    · have := k _ _ (Post.new1 (r := r) rfl (fun _ h => h) hb)
      simpa [AV.den, upd1, Loc.of] using this
  · rename_i t x ix
    have hx := hρ x (by rw [ho]; simp [Op.operands])
    have hix := hρ ix (by rw [ho]; simp [Op.operands])
    split at hV <;> (try (cases hV; done))
    rename_i kt et id c kk n hu hex hei
    simp only [Option.some.injEq, Prod.mk.injEq] at hV; obtain ⟨rfl, rfl⟩ := hV
    obtain ⟨b, rfl, hb⟩ := one hv
    have fin : (Instr.lookup t (.map (some (r id).blk)) (.int kk n) false).run P w = .ok (eff.val.den r) w ∧ eff.upd = [] → o.wp P a w K Q := by
      rintro ⟨h1, h2⟩
      refine upon_of_value (w' := w) (v := eff.val.den r) ?_ (k r w (by rw [h2]; exact Post.id look r nid w))
      unfold execOp; simp only [ho]
      rw [hx, hix, hex, hei]
      exact KV h1
    cases b <;> (try (cases he; done))
    · exact fin (run_lookM hu (hH.rep id _ hb) he r)
    · obtain ⟨es, cl, hbk, hm⟩ := hH.rep id _ hb
      exact fin (run_lookF hu hbk hm he)
  · rename_i t m x v
    have hm := hρ m (by rw [ho]; simp [Op.operands])
    have hx := hρ x (by rw [ho]; simp [Op.operands])
    have hvv := hρ v (by rw [ho]; simp [Op.operands])
    split at hV <;> (try (cases hV; done))
    rename_i kt et id c kk n hu hem hex
    simp only [Option.some.injEq, Prod.mk.injEq] at hV; obtain ⟨rfl, rfl⟩ := hV
    obtain ⟨b, rfl, hb⟩ := one hv
    cases b <;> (try (cases he; done))
    · obtain ⟨es', cl', h1, rfl⟩ := run_updM hu (hH.rep id _ hb) he r
      refine upon_of_skip (w' := w.putObj (r id).blk (.map es'.toArray cl')) ?_ (k r _ (mp_post (hH.out id _ hb) hb (hH.rep id _ hb)))
      unfold execOp; simp only [ho]
      rw [hm, hx, hvv, hem, hex]
      exact KU h1
    · obtain ⟨es, cl, hbk, hmi⟩ := hH.rep id _ hb
      simp only [forceV_eq] at he
      obtain ⟨es', cl', h1, h2, rfl⟩ := run_updF hu hbk hmi he
      refine upon_of_skip (w' := w.putObj (r id).blk (.map es'.toArray cl')) ?_ (k r _ (mpf_post (hH.out id _ hb) hb hbk h2))
      unfold execOp; simp only [ho]
      rw [hm, hx, hvv, hem, hex]
      exact KU h1
  · rename_i args ts
    split at hV <;> (try (cases hV; done))
    rename_i m x t t' hargs hts
    have hargs' : args = #[m, x] := by apply Array.ext'; simpa using hargs
    have hts' : ts = #[t, t'] := by apply Array.ext'; simpa using hts
    subst hargs' hts'
    have hm := hρ m (by rw [ho]; simp [Op.operands, Call.operands])
    have hx := hρ x (by rw [ho]; simp [Op.operands, Call.operands])
    split at hV <;> (try (cases hV; done))
    rename_i kt et id c kk n hu hem hex
    simp only [Option.some.injEq, Prod.mk.injEq] at hV; obtain ⟨rfl, rfl⟩ := hV
    obtain ⟨b, rfl, hb⟩ := one hv
    cases b <;> (try (cases he; done))
    · obtain ⟨es', cl', h1, rfl⟩ := run_delM (ty := o.type) (tys := #[t, t']) hu (hH.rep id _ hb) rfl he
      refine upon_of_value (w' := w.putObj (r id).blk (.map es'.toArray cl')) (v := .tuple #[]) ?_ (k r _ (mp_post (hH.out id _ hb) hb (hH.rep id _ hb)))
      unfold execOp; simp only [ho]
      simp [resolve, invoke, builtin, hm, hx, hem, hex, AV.den, h1, Result.andThen]
    · obtain ⟨es, cl, hbk, hmi⟩ := hH.rep id _ hb
      obtain ⟨es', cl', h1, h2, rfl⟩ := run_delF (ty := o.type) (tys := #[t, t']) hu hbk rfl hmi he
      refine upon_of_value (w' := w.putObj (r id).blk (.map es'.toArray cl')) (v := .tuple #[]) ?_ (k r _ (mpf_post (hH.out id _ hb) hb hbk h2))
      unfold execOp; simp only [ho]
      simp [resolve, invoke, builtin, hm, hx, hem, hex, AV.den, h1, Result.andThen]
  · rename_i t x y c
    have hx := hρ x (by rw [ho]; simp [Op.operands])
    have hy := hρ y (by rw [ho]; simp [Op.operands])
    split at hV <;> (try (cases hV; done))
    rename_i elem id e len cp hu hex hey
    simp only [Option.some.injEq, Prod.mk.injEq] at hV; obtain ⟨rfl, rfl⟩ := hV
    obtain ⟨b, rfl, hb⟩ := one hv
    simp only at he
    split at he <;> (try (cases he; done))
    rename_i n hn
    simp only [Option.some.injEq] at he; subst he
    obtain ⟨h1, h2⟩ := of_decide_eq_true hp
    have hrep := hH.rep id _ hb
    have hnil : (r id).nil = false := by
      cases hh : (r id).nil with
      | false => rfl
      | true =>
        exfalso
        cases b <;> simp only [nilN] at hn <;> (try (cases hn; done)) <;> simp only [Option.some.injEq] at hn <;> subst hn
        · have := RowzR.zero hrep hh; omega
        · have := hrep.2.2.1 hh; omega
    have hden : (AV.slz id e len cp).den r = (AV.slice true id e len cp).den r := by
      simp only [AV.den, Loc.base, Loc.room, hnil]
    refine upon_of_value (w' := w) (v := .bool false) ?_ (k r w (Post.id look r nid w))
    have := run_binA (P := P) (op := .eql) (t := t) (xo := x) (yo := y) (x := .slice true id e len cp) (y := .nils) (e := ⟨true, true, .bool true false⟩) (by simp [binA, guardA, eqA, hu, okE]) rfl r w
    unfold execOp; simp only [ho]
    rw [hx, hy, hex, hey, hden]
    exact KV this
end Go.SX
