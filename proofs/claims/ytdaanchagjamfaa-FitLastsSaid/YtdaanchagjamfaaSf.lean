/- Abstract states; a region's operations, in the text's order and in any order. -/
import Derived.Test.YtdaanchagjamfaaSe
import Derived.Orders
import Derived.OrdersIn
import Derived.TacticsIn
import Derived.LoopNIn
namespace Go.SX
open Go Go.RowKit Go.Proofs.Ytdaanchagjamfaa

/-- No fence, in a round of a range over a function (or in none). -/
def FW (rd : Option Nat) : Fence := { Fence.wide with round := rd }
theorem opIn {P : Program} {o : Oper} {a : Act} {w : World} {K : Act → World → Prop} {Q : Exit → Act → World → Prop} {rd : Option Nat} (h : o.wp P a w K Q) (hd : ∀ c, o.op ≠ .defer c) : o.wpIn (FW rd) 0 P a w K Q := by
  refine ⟨fun _ _ => trivial, ?_⟩
  rw [Oper.semAt_eq _ _ _ hd]
  unfold Oper.wp at h
  generalize (execOp a.eval o).run P w = res at h ⊢
  cases res with
  | ok x w' =>
    cases x with
    | value v => exact h
    | skip => exact h
    | defer d => exact h
    | enter f args => exact ⟨fun h => (by cases h), callsIn_wide.2 h⟩
    | row row args => exact ⟨fun h => (by cases h), fun c cs _ => let ⟨v, w', r, s⟩ := h c cs; ⟨v, w', r, stepsIn_wide.2 s⟩⟩
    | _ => exact h.elim
  | halt x w' => cases x <;> exact h
structure Env where
  P : Program
  C : FuncId → Option FC
  M : TypeId → String → Option FuncId
structure Env.Sound (E : Env) : Prop where
  c : ∀ f fc, E.C f = some fc → FSound E.P f fc
  m : MSound E.P E.M
  mixed : E.P.follows .mixedOrders = true

structure St where
  tm : List AV
  hp : List (Nat × Blk)
  nid : Nat

def look : List (Nat × Blk) → Nat → Option Blk
  | [], _ => none
  | (i, b) :: t, id => if i == id then (if b.live then some b else none) else look t id
def lookAll (h : List (Nat × Blk)) : List Nat → Option (List Blk)
  | [] => some []
  | i :: l => match look h i with
    | none => none
    | some b => match lookAll h l with
      | none => none
      | some bs => some (b :: bs)
theorem lookAll_map {h : List (Nat × Blk)} : ∀ {l : List Nat} {bs : List Blk}, lookAll h l = some bs → l.map (look h) = bs.map some
  | [], bs, e => by simp only [lookAll, Option.some.injEq] at e; subst e; rfl
  | i :: l, bs, e => by
    simp only [lookAll] at e
    split at e <;> (try (cases e; done))
    rename_i b hb
    split at e <;> (try (cases e; done))
    rename_i bs' hbs
    simp only [Option.some.injEq] at e; subst e
    simp only [List.map_cons, hb, lookAll_map hbs]
theorem look_live {h : List (Nat × Blk)} : ∀ {id : Nat} {b : Blk}, look h id = some b → b.live = true := by
  induction h with
  | nil => intro id b e; simp [look] at e
  | cons p h ih =>
    intro id b e
    obtain ⟨i, b'⟩ := p
    simp only [look] at e
    split at e
    · split at e
      · rename_i hl; simp only [Option.some.injEq] at e; subst e; exact hl
      · cases e
    · exact ih e
def evA (tm : List AV) : Operand → AV
  | .tmp t => (tm[t]?).getD (.tup [])
  | .const v => ofValue v
  | .global g => .addr ⟨g, 0, none⟩
  | .func f => .fn (.func f) []
def getT (tm : List AV) (t : Nat) : AV := (tm[t]?).getD (.tup [])
def setO (tm : List AV) (d : Option Nat) (v : AV) : List AV := match d with
  | some d => tm.set d v
  | none => tm

structure Rec where
  val : AV
  upd : List (Nat × Blk)
  ids : List Nat

inductive Tree where
  | leaf (v : AV) (h : List (Nat × Blk))
  | br (b : Bool) (t e : Tree)
  | need (b : Bool) (t : Tree)
  | all (f : (Nat → Value) → Tree)
  | asm (p : Prop) (t : Tree)
  | both (a b : Tree)
  | fail (why : String)
def Tree.den (Q : AV → List (Nat × Blk) → Prop) : Tree → Prop
  | .leaf v h => Q v h
  | .br b t e => (b = true → t.den Q) ∧ (b = false → e.den Q)
  | .need b t => b = true ∧ t.den Q
  | .all f => ∀ g, (f g).den Q
  | .asm p t => p → t.den Q
  | .both a b => a.den Q ∧ b.den Q
  | .fail _ => False
def brK (c b : Bool) (t e : Tree) : Tree := match c with
  | true => (match b with | true => t | false => e)
  | false => .br b t e
def needK (c b : Bool) (t : Tree) : Tree := match c with
  | true => (match b with | true => t | false => .fail "a condition is false")
  | false => .need b t
theorem brK_den {Q : AV → List (Nat × Blk) → Prop} {c b : Bool} {t e : Tree} (h : (brK c b t e).den Q) : (b = true ∧ t.den Q) ∨ (b = false ∧ e.den Q) := by
  cases c <;> cases b
  · exact .inr ⟨rfl, h.2 rfl⟩
  · exact .inl ⟨rfl, h.1 rfl⟩
  · exact .inr ⟨rfl, h⟩
  · exact .inl ⟨rfl, h⟩
theorem needK_den {Q : AV → List (Nat × Blk) → Prop} {c b : Bool} {t : Tree} (h : (needK c b t).den Q) : b = true ∧ t.den Q := by
  cases c <;> cases b
  · exact h
  · exact h
  · exact h.elim
  · exact ⟨rfl, h⟩

def applyR (o : Oper) (r : Rec) (st : St) : St := { st with tm := setO st.tm o.dst r.val, hp := r.upd ++ st.hp }
def ownIn (h : List (Nat × Blk)) (id : Nat) : Bool := match look h id with
  | some b => b.own
  | none => false
def okEff (nid : Nat) (ids : List Nat) (h : List (Nat × Blk)) (eff : Eff) : Bool :=
  eff.val.all (· < nid + 8) && eff.upd.all (fun p => p.2.all (· < nid + 8) && (inR nid p.1 || (ids.contains p.1 && ownIn h p.1)))
/-- The blocks that stand, each once. -/
def idsOf : List (Nat × Blk) → List Nat
  | [] => []
  | (id, b) :: h => (match b.live with
    | true => id :: (idsOf h).filter (· != id)
    | false => (idsOf h).filter (· != id))
def runOp (E : Env) (o : Oper) (nid : Nat) (st : St) (K : Rec → Tree) : Tree :=
  match opView E.P E.C E.M o.op (evA st.tm) nid (idsOf st.hp) with
  | (ids, g) =>
    match lookAll st.hp ids with
    | none => .fail "a block that is not known"
    | some blks =>
      match g blks with
      | none => .fail o.pos
      | some eff => if okEff nid ids st.hp eff then needK eff.known eff.pre (K ⟨eff.val, eff.upd, ids⟩) else .fail "scope"

/-- What a run of one operation has shown. -/
structure Ran (E : Env) (o : Oper) (nid : Nat) (st : St) (rec : Rec) : Prop where
  ran : ∃ all g blks eff, opView E.P E.C E.M o.op (evA st.tm) nid all = (rec.ids, g) ∧ lookAll st.hp rec.ids = some blks ∧ g blks = some eff ∧ eff.pre = true ∧ okEff nid rec.ids st.hp eff = true ∧ rec.val = eff.val ∧ rec.upd = eff.upd
theorem runOp_den {E : Env} {o : Oper} {nid : Nat} {st : St} {K : Rec → Tree} {Q : AV → List (Nat × Blk) → Prop} (h : (runOp E o nid st K).den Q) : ∃ rec, Ran E o nid st rec ∧ (K rec).den Q := by
  unfold runOp at h
  split at h
  rename_i ids g hV
  split at h
  · exact h.elim
  · rename_i blks hb
    split at h
    · exact h.elim
    · rename_i eff he
      split at h
      · rename_i hok
        obtain ⟨hp, hK⟩ := needK_den h
        exact ⟨_, ⟨_, g, blks, eff, hV, hb, he, hp, hok, rfl, rfl⟩, hK⟩
      · exact h.elim

theorem Ran.noDefer {E : Env} {o : Oper} {nid : Nat} {st : St} {rec : Rec} (h : Ran E o nid st rec) : ∀ c, o.op ≠ .defer c := by
  intro c hc
  obtain ⟨all, g, blks, eff, hV, _, hg, _⟩ := h.ran
  rw [hc] at hV
  simp only [opView, mapOp, vopA, noV, Prod.mk.injEq] at hV
  rw [← hV.2] at hg; cases hg

/-- Is an operation with a guard to be done? (none: that hangs on what is not known) -/
def guardV (ops : Array Oper) (tm : List AV) (o : Oper) : Option Bool :=
  match o.guard with
  | none => some true
  | some (j, want) => match (ops[j]?).bind (·.dst) with
    | none => some false
    | some d => match getT tm d with
      | .bool true b => some (b == want)
      | .tup _ => some false
      | .agg _ => some false
      | .int .. => some false
      | _ => none
/-- Known now. -/
def fixT (tm : List AV) (d : Nat) (b : Bool) : List AV := tm.set d (.bool true b)
/-- The slot that is to be known ahead of an operation: its guard's, or what a choice hangs on. -/
def askT (ops : Array Oper) (tm : List AV) (o : Oper) : Option (Nat × Bool) :=
  match o.guard with
  | some (j, _) => match (ops[j]?).bind (·.dst) with
    | none => none
    | some d => match getT tm d with
      | .bool false b => some (d, b)
      | _ => none
  | none => match o.op with
    | .pick (.tmp d) _ _ => match getT tm d with
      | .bool false b => some (d, b)
      | _ => none
    | _ => none
def execOps (E : Env) (ops : Array Oper) (base : Nat) : Nat → List Oper → St → (List Rec → St → Tree) → Tree
  | _, [], st, K => K [] st
  | k, o :: l, st, K =>
    let go := fun (st : St) => match guardV ops st.tm o with
      | some true => runOp E o (base + 8 * k) st fun rec => execOps E ops base (k + 1) l (applyR o rec st) fun rs st' => K (rec :: rs) st'
      | some false => execOps E ops base (k + 1) l (applyR o ⟨.tup [], [], []⟩ st) fun rs st' => K (⟨.tup [], [], []⟩ :: rs) st'
      | none => .fail "a guard"
    match askT ops st.tm o with
    | none => go st
    | some (d, b) => .br b (go { st with tm := fixT st.tm d true }) (go { st with tm := fixT st.tm d false })

/-- Two states of temporaries that stand for the same. -/
def Eqv (tm tm' : List AV) : Prop := tm.length = tm'.length ∧ ∀ t, (∀ r, (getT tm t).den r = (getT tm' t).den r) ∧ ∀ p, (getT tm t).all p = (getT tm' t).all p
theorem getT_set (tm : List AV) (d t : Nat) (v : AV) : getT (tm.set d v) t = if d = t ∧ d < tm.length then v else getT tm t := by
  unfold getT
  rw [List.getElem?_set]
  by_cases h : d = t
  · subst h
    by_cases g : d < tm.length
    · simp [g]
    · simp [g]
  · simp [h]
theorem fix_eqv {tm : List AV} {d : Nat} {b : Bool} {c : Bool} (h : getT tm d = .bool c b) (b' : Bool) (hb : b = b') : Eqv tm (fixT tm d b') := by
  subst hb
  refine ⟨by simp [fixT], fun t => ?_⟩
  unfold fixT
  rw [getT_set]
  split
  · rename_i e; rw [← e.1, h]; exact ⟨fun _ => rfl, fun _ => rfl⟩
  · exact ⟨fun _ => rfl, fun _ => rfl⟩
theorem Eqv.refl (tm : List AV) : Eqv tm tm := ⟨rfl, fun _ => ⟨fun _ => rfl, fun _ => rfl⟩⟩
theorem Eqv.symm {a b : List AV} (h : Eqv a b) : Eqv b a := ⟨h.1.symm, fun t => ⟨fun r => ((h.2 t).1 r).symm, fun p => ((h.2 t).2 p).symm⟩⟩
theorem Eqv.trans {a b c : List AV} (h : Eqv a b) (k : Eqv b c) : Eqv a c := ⟨h.1.trans k.1, fun t => ⟨fun r => ((h.2 t).1 r).trans ((k.2 t).1 r), fun p => ((h.2 t).2 p).trans ((k.2 t).2 p)⟩⟩
theorem setO_length (tm : List AV) (d : Option Nat) (v : AV) : (setO tm d v).length = tm.length := by cases d <;> simp [setO]
theorem getT_setO (tm : List AV) (d : Option Nat) (v : AV) (t : Nat) : getT (setO tm d v) t = if d = some t ∧ t < tm.length then v else getT tm t := by
  cases d with
  | none => simp [setO]
  | some d =>
    simp only [setO, getT_set, Option.some.injEq]
    by_cases h : d = t
    · subst h; rfl
    · simp [h]
theorem Eqv.setO {a b : List AV} (h : Eqv a b) (d : Option Nat) (v : AV) : Eqv (setO a d v) (setO b d v) := by
  refine ⟨by rw [setO_length, setO_length, h.1], fun t => ?_⟩
  rw [getT_setO, getT_setO, h.1]
  split
  · exact ⟨fun _ => rfl, fun _ => rfl⟩
  · exact h.2 t

inductive RunsTo (E : Env) (ops : Array Oper) (base : Nat) : Nat → List Oper → St → List Rec → St → Prop
  | nil {k st} : RunsTo E ops base k [] st [] st
  | run {k o l st tm rec rs st'} (he : Eqv st.tm tm) (hg : guardV ops tm o = some true) (h : Ran E o (base + 8 * k) { st with tm := tm } rec)
      (hr : RunsTo E ops base (k + 1) l (applyR o rec { st with tm := tm }) rs st') : RunsTo E ops base k (o :: l) st (rec :: rs) st'
  | skip {k o l st tm rs st'} (he : Eqv st.tm tm) (hg : guardV ops tm o = some false)
      (hr : RunsTo E ops base (k + 1) l (applyR o ⟨.tup [], [], []⟩ { st with tm := tm }) rs st') : RunsTo E ops base k (o :: l) st (⟨.tup [], [], []⟩ :: rs) st'

theorem askT_spec {ops : Array Oper} {tm : List AV} {o : Oper} {d : Nat} {b : Bool} (h : askT ops tm o = some (d, b)) : getT tm d = .bool false b := by
  unfold askT at h
  split at h
  · split at h
    · cases h
    · split at h
      · rename_i hg; simp only [Option.some.injEq, Prod.mk.injEq] at h; obtain ⟨rfl, rfl⟩ := h; exact hg
      · cases h
  · split at h
    · split at h
      · rename_i hg; simp only [Option.some.injEq, Prod.mk.injEq] at h; obtain ⟨rfl, rfl⟩ := h; exact hg
      · cases h
    · cases h

theorem execOps_den {E : Env} {ops : Array Oper} {base : Nat} {Q : AV → List (Nat × Blk) → Prop} : ∀ (l : List Oper) (k : Nat) (st : St) (K : List Rec → St → Tree), (execOps E ops base k l st K).den Q →
    ∃ rs st', RunsTo E ops base k l st rs st' ∧ (K rs st').den Q
  | [], k, st, K, h => ⟨[], st, .nil, h⟩
  | o :: l, k, st, K, h => by
    have go : ∀ tm, Eqv st.tm tm → (match guardV ops tm o with
      | some true => runOp E o (base + 8 * k) { st with tm := tm } fun rec => execOps E ops base (k + 1) l (applyR o rec { st with tm := tm }) fun rs st' => K (rec :: rs) st'
      | some false => execOps E ops base (k + 1) l (applyR o ⟨.tup [], [], []⟩ { st with tm := tm }) fun rs st' => K (⟨.tup [], [], []⟩ :: rs) st'
      | none => .fail "a guard" : Tree).den Q → ∃ rs st', RunsTo E ops base k (o :: l) st rs st' ∧ (K rs st').den Q := by
      intro tm he h
      split at h
      · rename_i hg
        obtain ⟨rec, h1, h2⟩ := runOp_den h
        obtain ⟨rs, st', h3, h4⟩ := execOps_den l _ _ _ h2
        exact ⟨_, _, .run he hg h1 h3, h4⟩
      · rename_i hg
        obtain ⟨rs, st', h3, h4⟩ := execOps_den l _ _ _ h
        exact ⟨_, _, .skip he hg h3, h4⟩
      · exact h.elim
    simp only [execOps] at h
    split at h
    · exact go st.tm (Eqv.refl _) h
    · rename_i d b ha
      have hs := askT_spec ha
      cases hb : b with
      | true => exact go _ (fix_eqv hs true hb) (h.1 hb)
      | false => exact go _ (fix_eqv hs false hb) (h.2 hb)

end Go.SX
