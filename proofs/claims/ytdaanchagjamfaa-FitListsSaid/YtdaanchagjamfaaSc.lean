/- The operations that touch no memory, on abstract values. -/
import Derived.Test.YtdaanchagjamfaaSb
namespace Go.SX
open Go Go.RowKit Go.Proofs.Ytdaanchagjamfaa

def binI (op : BinOp) (c c' : Bool) (k k' : IntKind) (a b : Int) : Option VE :=
  match op with
  | .shl => if c' then (if b < 0 then none else okE (.int (c && c') k (k.wrap (a * 2 ^ (min b.toNat k.bits))))) else some ⟨false, decide (0 ≤ b), .int false k (k.wrap (a * 2 ^ (min b.toNat k.bits)))⟩
  | .shr => if c' then (if b < 0 then none else okE (.int (c && c') k (a.fdiv (2 ^ (min b.toNat k.bits))))) else some ⟨false, decide (0 ≤ b), .int false k (a.fdiv (2 ^ (min b.toNat k.bits)))⟩
  | .add => if k = k' then okE (.int (c && c') k (k.wrap (a + b))) else none
  | .sub => if k = k' then okE (.int (c && c') k (k.wrap (a - b))) else none
  | .mul => if k = k' then okE (.int (c && c') k (k.wrap (a * b))) else none
  | .quo => if k = k' then some ⟨c', !decide (b = 0), .int (c && c') k (k.wrap (a.tdiv b))⟩ else none
  | .rem => if k = k' then some ⟨c', !decide (b = 0), .int (c && c') k (a.tmod b)⟩ else none
  | .eql => if k = k' then okE (.bool (c && c') (a == b)) else none
  | .neq => if k = k' then okE (.bool (c && c') (a != b)) else none
  | .lss => if k = k' then okE (.bool (c && c') (decide (a < b))) else none
  | .leq => if k = k' then okE (.bool (c && c') (decide (a ≤ b))) else none
  | .gtr => if k = k' then okE (.bool (c && c') (decide (a > b))) else none
  | .geq => if k = k' then okE (.bool (c && c') (decide (a ≥ b))) else none
  | .and => if k = k' then okE (.int (c && c') k (k.wrap (BitVec.ofInt k.bits a &&& BitVec.ofInt k.bits b).toNat)) else none
  | .or => if k = k' then okE (.int (c && c') k (k.wrap (BitVec.ofInt k.bits a ||| BitVec.ofInt k.bits b).toNat)) else none
  | .xor => if k = k' then okE (.int (c && c') k (k.wrap (BitVec.ofInt k.bits a ^^^ BitVec.ofInt k.bits b).toNat)) else none
  | .andNot => if k = k' then okE (.int (c && c') k (k.wrap (BitVec.ofInt k.bits a &&& ~~~(BitVec.ofInt k.bits b)).toNat)) else none

def isConst : Operand → Bool
  | .const _ => true
  | _ => false
/-- The guard that the model lays before '==': does it let by? -/
def guardA (P : Program) (t : TypeId) (x y : Operand) (a b : AV) : Bool :=
  match a, b with
  | .nili, .nili => isConst x || isConst y
  | .agg _, .agg _ => !P.eqGuardType P.depth t
  | .bool .., .bool .. => true
  | .ifc .., _ => true
  | _, .ifc .. => true
  | .nils, _ => true
  | _, .nils => true
  | .nilp, _ => true
  | _, .nilp => true
  | _, _ => false
def binA (P : Program) (op : BinOp) (t : TypeId) (xo yo : Operand) (x y : AV) : Option VE :=
  match x, y with
  | .int c k a, .int c' k' b => binI op c c' k k' a b
  | x, y =>
    match op with
    | .eql => if guardA P t xo yo x y then (match eqA P 20 t x y with | some (c, b) => okE (.bool c b) | none => none) else none
    | .neq => if guardA P t xo yo x y then (match eqA P 20 t x y with | some (c, b) => okE (.bool c (!b)) | none => none) else none
    | _ => none

theorem run_eqGuard_int {P : Program} (op : BinOp) (t : TypeId) (x y : Operand) (k k' : IntKind) (a b : Int) (w : World) : (eqGuard op t x y (.int k a) (.int k' b)).run P w = .ok () w := by
  cases op <;> simp [eqGuard]
theorem run_binI {P : Program} {op : BinOp} {c c' : Bool} {k k' : IntKind} {a b : Int} {e : VE} (h : binI op c c' k k' a b = some e) (hp : e.pre = true) (t : TypeId) (r : Nat → Loc) (w : World) :
    (binOp op t (.int k a) (.int k' b)).run P w = .ok (e.val.den r) w := by
  unfold binI at h
  cases op <;> simp only [okE] at h <;> (try (cases h; done))
  case shl =>
    split at h
    · split at h
      · cases h
      · rename_i hb; simp only [Option.some.injEq] at h; subst h; simp [binOp, Op.shift, hb, AV.den]
    · simp only [Option.some.injEq] at h; subst h
      simp only [decide_eq_true_eq] at hp
      simp [binOp, Op.shift, show ¬ b < 0 by omega, AV.den]
  case shr =>
    split at h
    · split at h
      · cases h
      · rename_i hb; simp only [Option.some.injEq] at h; subst h; simp [binOp, Op.shift, hb, AV.den]
    · simp only [Option.some.injEq] at h; subst h
      simp only [decide_eq_true_eq] at hp
      simp [binOp, Op.shift, show ¬ b < 0 by omega, AV.den]
  case quo =>
    split at h <;> (try (cases h; done))
    rename_i hk; simp only [Option.some.injEq] at h; subst h
    simp only [Bool.not_eq_true', decide_eq_false_iff_not] at hp
    simp [binOp, Op.intDiv, hk, hp, AV.den]
  case rem =>
    split at h <;> (try (cases h; done))
    rename_i hk; simp only [Option.some.injEq] at h; subst h
    simp only [Bool.not_eq_true', decide_eq_false_iff_not] at hp
    simp [binOp, Op.intDiv, hk, hp, AV.den]
  all_goals
    split at h <;> (try (cases h; done))
    rename_i hk; simp only [Option.some.injEq] at h; subst h; subst hk
    simp [binOp, Op.intArith, Op.intCmp, Op.intBits, AV.den]

theorem run_guardA {P : Program} {t : TypeId} {xo yo : Operand} {x y : AV} (h : guardA P t xo yo x y = true) (op : BinOp) (r : Nat → Loc) (w : World) : (eqGuard op t xo yo (x.den r) (y.den r)).run P w = .ok () w := by
  unfold guardA at h
  split at h <;> (try (cases h; done))
  case h_1 =>
    cases xo <;> cases yo <;> simp only [isConst, Bool.or_self, Bool.false_eq_true, Bool.or_true, Bool.true_or] at h <;> (try (cases h; done)) <;> cases op <;> simp [eqGuard, AV.den]
  case h_2 =>
    simp only [Bool.not_eq_true'] at h
    simp only [AV.den]
    exact run_eqGuard_agg _ op t xo yo _ _ h
  all_goals
    first
    | (cases op <;> simp [eqGuard, AV.den]; done)
    | (rename_i v _ _; cases op <;> cases v <;> simp_all [eqGuard, AV.den]; done)
    | (rename_i v _; cases op <;> cases v <;> simp_all [eqGuard, AV.den]; done)
    | (rename_i v; cases op <;> cases v <;> simp_all [eqGuard, AV.den]; done)

theorem eql_shape {P : Program} {d : Nat} {t : TypeId} {x y : AV} {q : Bool × Bool} (h : eqA P (d + 1) t x y = some q) (hi : ∀ c k a c' k' b, x = .int c k a → y = .int c' k' b → False) (r : Nat → Loc) :
    binOp .eql t (x.den r) (y.den r) = (do pure (.bool (← Op.equal t (x.den r) (y.den r)))) ∧ binOp .neq t (x.den r) (y.den r) = (do pure (.bool (!(← Op.equal t (x.den r) (y.den r))))) := by
  unfold eqA at h
  split at h <;> (try (cases h; done)) <;> first | exact ⟨rfl, rfl⟩ | (exact (hi _ _ _ _ _ _ rfl rfl).elim)

theorem run_binA {P : Program} {op : BinOp} {t : TypeId} {xo yo : Operand} {x y : AV} {e : VE} (h : binA P op t xo yo x y = some e) (hp : e.pre = true) (r : Nat → Loc) (w : World) :
    (do eqGuard op t xo yo (x.den r) (y.den r); binOp op t (x.den r) (y.den r) : Sem Value).run P w = .ok (e.val.den r) w := by
  unfold binA at h
  split at h
  · simp only [AV.den, Sem.run_bind, run_eqGuard_int, Result.andThen_ok]
    exact run_binI h hp t r w
  · rename_i hno
    split at h
    · split at h <;> (try (cases h; done))
      rename_i hg
      split at h <;> (try (cases h; done))
      rename_i c b he
      simp only [okE, Option.some.injEq] at h; subst h
      rw [Sem.run_bind, run_guardA hg, Result.andThen_ok, (eql_shape he hno r).1]
      simp [Op.equal, Op.maxDepth, run_eqA 20 t x y c b he 10000 (by omega) w, AV.den]
    · split at h <;> (try (cases h; done))
      rename_i hg
      split at h <;> (try (cases h; done))
      rename_i c b he
      simp only [okE, Option.some.injEq] at h; subst h
      rw [Sem.run_bind, run_guardA hg, Result.andThen_ok, (eql_shape he hno r).2]
      simp [Op.equal, Op.maxDepth, run_eqA 20 t x y c b he 10000 (by omega) w, AV.den]
    · cases h

end Go.SX
