/- Small laws that the walks of this seat share: what a call keeps of the blocks that its caller has made. -/
import Derived.WalkKit
import Derived.WalkSpells
import Derived.WalkLawsBesides
import Derived.Deep.MidRow
namespace Go.Proofs.Ytdaanchagjamfaa
open Go.RowKit

theorem ret_int {k : IntKind} {a b : Int} (h : a = b) : Ending.returned (.int k a) = .returned (.int k b) := by rw [h]
theorem ret_bool {a b : Bool} (h : a = b) : Ending.returned (.bool a) = .returned (.bool b) := by rw [h]

/-- A block, by a name that simp does not look behind. -/
def bk (w : World) (n : Nat) : Option Obj := w.heap[n]?
theorem bk_alloc (w : World) (o : Obj) (n : Nat) : bk (w.alloc o) n = if n = w.heap.size then some o else bk w n := by
  show (w.heap.push o)[n]? = _
  rw [Array.getElem?_push]; rfl
theorem bk_drew (w : World) (n : Nat) : bk w.drew n = bk w n := rfl
theorem bk_set_own (w : World) (b i : Nat) (v : Value) {c : Array Value} {t : TypeId} (h : bk w b = some (.cells c t (0, 0))) : bk (w.setCell ⟨b, i, none⟩ v) b = some (.cells (c.setIfInBounds i v) t (0, 0)) := by
  unfold bk at *
  simp [World.setCell, Array.getElem?_modify, h]
theorem bk_set_other (w : World) (a : Addr) (n : Nat) (v : Value) (h : n ≠ a.block) : bk (w.setCell a v) n = bk w n := Below.heap_setCell w a v n h

/-- Block b is one's own, and known whole. -/
@[reducible] def Has (w : World) (b : Nat) (c : Array Value) (t : TypeId) : Prop :=
  (∀ o, w.cell? ⟨b, o, none⟩ = c[o]?) ∧ (∀ o, w.frozen? ⟨b, o, none⟩ = false) ∧ bk w b = some (.cells c t (0, 0))
theorem has_of_bk {w : World} {b : Nat} {c : Array Value} {t : TypeId} (h : bk w b = some (.cells c t (0, 0))) : Has w b c t := by
  unfold bk at h
  exact ⟨fun o => by simp [World.cell?, h], fun o => by simp [World.frozen?, h], h⟩
theorem has_drew {w : World} {b : Nat} {c : Array Value} {t : TypeId} (h : Has w b c t) : Has w.drew b c t := h
theorem has_lt {w : World} {b : Nat} {c : Array Value} {t : TypeId} (h : Has w b c t) : b < w.heap.size := by
  have h' := h.2.2
  unfold bk at h'
  rcases Nat.lt_or_ge b w.heap.size with g | g
  · exact g
  · rw [Array.getElem?_eq_none g] at h'; cases h'
theorem has_alloc {w : World} {b : Nat} {c : Array Value} {t : TypeId} (o : Obj) (h : Has w b c t) : Has (w.alloc o) b c t :=
  has_of_bk (by rw [bk_alloc, if_neg (by have := has_lt h; omega)]; exact h.2.2)
theorem has_new (w : World) (c : Array Value) (t : TypeId) : Has (w.alloc (.cells c t)) w.heap.size c t :=
  has_of_bk (by rw [bk_alloc, if_pos rfl])
theorem has_set {w : World} {b : Nat} {c : Array Value} {t : TypeId} (r i : Nat) (v : Value) (h : Has w b c t) (hne : b ≠ r) : Has (w.setCell ⟨r, i, none⟩ v) b c t :=
  has_of_bk (by rw [bk_set_other _ _ _ _ hne]; exact h.2.2)
theorem has_set' {w : World} {b : Nat} {c : Array Value} {t : TypeId} {r i : Nat} {v : Value} (hne : b ≠ r) (h : Has w b c t) : Has (w.setCell ⟨r, i, none⟩ v) b c t := has_set r i v h hne
theorem has_put {w : World} {b : Nat} {c : Array Value} {t : TypeId} (i : Nat) (v : Value) (h : Has w b c t) : Has (w.setCell ⟨b, i, none⟩ v) b (c.setIfInBounds i v) t :=
  has_of_bk (bk_set_own _ _ _ _ h.2.2)
theorem has_put' {w : World} {b b' : Nat} {c c' : Array Value} {t : TypeId} (i : Nat) (v : Value) (hb : b' = b) (h : Has w b c t) (e : c.setIfInBounds i v = c') : Has (w.setCell ⟨b', i, none⟩ v) b c' t := by
  subst hb; rw [← e]; exact has_put i v h
theorem has_new' {w : World} {b : Nat} {c : Array Value} {t : TypeId} (h : b = w.heap.size) : Has (w.alloc (.cells c t)) b c t := by subst h; exact has_new w c t
theorem has_below {W w1 : World} {b : Nat} {c : Array Value} {t : TypeId} (hb : Below W.heap.size W w1) (h : Has W b c t) : Has w1 b c t :=
  has_of_bk (by have := hb.block b (has_lt h); unfold bk; rw [this]; exact h.2.2)

/-- A whole block is written. -/
def put (w : World) (r : Nat) (c : Array Value) (t : TypeId) : World := { w with heap := w.heap.setIfInBounds r (.cells c t (0, 0)) }
theorem put_size (w : World) (r : Nat) (c : Array Value) (t : TypeId) : (put w r c t).heap.size = w.heap.size := by simp [put]
theorem bk_put_ne (w : World) (r : Nat) (c : Array Value) (t : TypeId) (n : Nat) (h : n ≠ r) : bk (put w r c t) n = bk w n := by
  unfold bk put
  simp only [Array.getElem?_setIfInBounds]
  rw [if_neg (fun e => h e.symm)]
theorem bk_put_eq (w : World) (r : Nat) (c : Array Value) (t : TypeId) (h : r < w.heap.size) : bk (put w r c t) r = some (.cells c t (0, 0)) := by
  unfold bk put
  simp [h]
theorem has_put_ne {w : World} {b r : Nat} {c c' : Array Value} {t t' : TypeId} (hne : b ≠ r) (h : Has w b c t) : Has (put w r c' t') b c t := has_of_bk (by rw [bk_put_ne _ _ _ _ _ hne]; exact h.2.2)
theorem has_put_eq {w : World} {r : Nat} {c : Array Value} {t : TypeId} (h : r < w.heap.size) : Has (put w r c t) r c t := has_of_bk (bk_put_eq w r c t h)
theorem below_put {B : Nat} {a w : World} {r : Nat} {c : Array Value} {t : TypeId} (hr : B ≤ r) (h : Below B a w) : Below B a (put w r c t) :=
  h.trans ⟨rfl, rfl, rfl, by rw [put_size]; exact Nat.le_refl _, fun k hk => bk_put_ne w r c t k (by omega)⟩
theorem setCells_put : ∀ (vs : List Value) (pre : List Value) (post : List Value) (w : World) (r : Nat) (t : TypeId), bk w r = some (.cells (pre ++ post).toArray t (0, 0)) → post.length = vs.length →
    w.setCells r pre.length vs = put w r (pre ++ vs).toArray t
  | [], pre, post, w, r, t, h, hl => by
    have : post = [] := by cases post <;> simp_all
    subst this
    unfold bk at h
    show w = _
    unfold put
    have : w.heap.setIfInBounds r (.cells (pre ++ []).toArray t (0, 0)) = w.heap := by
      apply Array.ext_getElem?
      intro i
      rw [Array.getElem?_setIfInBounds]
      split
      · rename_i e; subst e
        split
        · exact h.symm
        · rename_i g; rw [Array.getElem?_eq_none (by omega)] at h; cases h
      · rfl
    rw [this]
  | v :: vs, pre, post, w, r, t, h, hl => by
    cases post with
    | nil => simp at hl
    | cons p post =>
      simp only [List.length_cons, Nat.add_right_cancel_iff] at hl
      have hb : bk (w.setCell ⟨r, pre.length, none⟩ v) r = some (.cells ((pre ++ [v]) ++ post).toArray t (0, 0)) := by
        rw [bk_set_own _ _ _ _ h]
        simp
      have ih := setCells_put vs (pre ++ [v]) post (w.setCell ⟨r, pre.length, none⟩ v) r t hb hl
      rw [World.setCells]
      simp only [List.length_append, List.length_cons, List.length_nil, Nat.zero_add] at ih
      rw [ih]
      have hlt : r < w.heap.size := by
        unfold bk at h
        rcases Nat.lt_or_ge r w.heap.size with g | g
        · exact g
        · rw [Array.getElem?_eq_none g] at h; cases h
      unfold put
      have e : (w.setCell ⟨r, pre.length, none⟩ v).heap.setIfInBounds r (.cells (pre ++ [v] ++ vs).toArray t (0, 0)) = w.heap.setIfInBounds r (.cells (pre ++ v :: vs).toArray t (0, 0)) := by
        apply Array.ext_getElem?
        intro i
        rw [Array.getElem?_setIfInBounds, Array.getElem?_setIfInBounds]
        split
        · rename_i e; subst e; simp [hlt, World.setCell]
        · rename_i e; exact Below.heap_setCell w ⟨r, pre.length, none⟩ v i (fun g => e g.symm)
      rw [e]
      rfl
theorem has_there {w : World} {r : Nat} {c : Array Value} {t : TypeId} (h : Has w r c t) (n : Nat) (hn : n = c.size) : w.there r 0 n := fun j hj => by
  subst hn
  refine ⟨?_, h.2.1 _⟩
  rw [h.1]; simp [hj]

theorem load_has_agg {P : Program} {w : World} {b : Nat} {c : Array Value} {t ty : TypeId} {d : TypeDesc} (hr : Has w b c t) (hu : P.underlying ty = some d) (hd : d.isRow = true) (hi : (P.info? ty).map (·.size) = some c.size) :
    (loadVar ty ⟨b, 0, none⟩).run P w = .ok (.agg c) w := by
  have := run_loadVar_mid (P := P) w b 0 ty c.toList d (fun j v hv => by rw [Nat.zero_add, hr.1]; simpa using hv) hu hd (by simpa using hi)
  simpa using this
theorem load_has_one {P : Program} {w : World} {b : Nat} {v : Value} {t ty : TypeId} {d : TypeDesc} (hr : Has w b #[v] t) (hu : P.underlying ty = some d) (hd : d.isRow = false) :
    (loadVar ty ⟨b, 0, none⟩).run P w = .ok v w := by
  have hc : w.cell? ⟨b, 0, none⟩ = some v := by rw [hr.1]; rfl
  have ha : (isAgg ty).run P w = .ok false w := by
    cases d <;> simp_all [isAgg, underlying, TypeDesc.isRow]
  unfold loadVar
  simp [Sem.run_bind, ha, hc]
/-- The load of a whole block that is one's own, in one step. -/
theorem wpList_load_has {P : Program} {ops : Array Oper} {rest : List Oper} {op : Oper} {a : Act} {w : World} {Q : Exit → Act → World → Prop} {ty t : TypeId} {x : Operand} {b : Nat} {c : Array Value} {d : TypeDesc}
    (hgd : op.guard = none) (ho : op.op = .load ty x) (hx : a.eval x = .pointer (some ⟨b, 0, none⟩)) (hr : Has w b c t)
    (hu : P.underlying ty = some d) (hd : d.isRow = true) (hi : (P.info? ty).map (·.size) = some c.size) (h : wpList P ops Q rest (a.put op.dst (.agg c)) w) : wpList P ops Q (op :: rest) a w := by
  refine wpList_load_mid hgd ty x ho b 0 hx c.toList d (fun j v hv => by rw [Nat.zero_add, hr.1]; simpa using hv) hu hd (by simpa using hi) (by simpa using h)
/-- A load whose run is known. -/
theorem wpList_load_run {P : Program} {ops : Array Oper} {rest : List Oper} {op : Oper} {a : Act} {w : World} {Q : Exit → Act → World → Prop} {ty : TypeId} {x : Operand} {A : Addr} {v : Value}
    (hgd : op.guard = none) (ho : op.op = .load ty x) (hx : a.eval x = .pointer (some A)) (hl : (loadVar ty A).run P w = .ok v w) (h : wpList P ops Q rest (a.put op.dst v) w) : wpList P ops Q (op :: rest) a w :=
  wpList_plain hgd fun _ hK => by
    unfold Oper.wp execOp
    simp only [ho, hx, Instr.loadAt, Instr.sureAddr, Sem.run_bind, Sem.run_pure, Result.andThen_ok, hl]
    exact hK _ _ h
theorem put_is {w : World} {r : Nat} {c cs : Array Value} {t : TypeId} (hr : Has w r c t) (hsz : c.size = cs.size) : w.setCells r 0 cs.toList = put w r cs t := by
  have := setCells_put cs.toList [] c.toList w r t (by simpa using hr.2.2) (by simpa using hsz)
  simpa using this
/-- The store of a whole block that is one's own, in one step. -/
theorem wpList_store_has {P : Program} {ops : Array Oper} {rest : List Oper} {op : Oper} {a : Act} {w : World} {Q : Exit → Act → World → Prop} {ty t : TypeId} {x y : Operand} {r : Nat} {cs : Array Value}
    (hgd : op.guard = none) (ho : op.op = .store ty x y) (hx : a.eval x = .pointer (some ⟨r, 0, none⟩)) (hy : a.eval y = .agg cs) (hr : ∃ c, Has w r c t ∧ c.size = cs.size)
    (hi : (P.info? ty).map (·.size) = some cs.size) (h1 : cs.toList.all (·.oneCell') = true) (h : wpList P ops Q rest (a.put op.dst undef) (put w r cs t)) : wpList P ops Q (op :: rest) a w := by
  obtain ⟨c, hr, hsz⟩ := hr
  refine wpList_store_mid hgd ty x y ho r 0 cs hx hy (has_there hr _ hsz.symm) hi (by rw [← Array.all_toList]; exact h1) ?_
  rw [put_is hr hsz]; exact h
theorem load_cell_one {P : Program} {w : World} {b i : Nat} {v : Value} {ty : TypeId} {d : TypeDesc} (hc : w.cell? ⟨b, i, none⟩ = some v) (hu : P.underlying ty = some d) (hd : d.isRow = false) :
    (loadVar ty ⟨b, i, none⟩).run P w = .ok v w := by
  have ha : (isAgg ty).run P w = .ok false w := by
    cases d <;> simp_all [isAgg, underlying, TypeDesc.isRow]
  unfold loadVar
  simp [Sem.run_bind, ha, hc]
/-- A result, as it is handed back. -/
def ResIs (P : Program) (w : World) (tmps : Array Value) : ResultVar → Value → Prop
  | .tmp t, v => tmps.getD t undef = v
  | .cell p ty, v => ∃ a, tmps.getD p undef = .pointer (some a) ∧ (loadVar ty a).run P w = .ok v w
theorem res1 {P : Program} {fn : Func} {w : World} {tmps : Array Value} {r : ResultVar} {v : Value} (h : fn.results = #[r]) (h1 : ResIs P w tmps r v) : (results fn tmps).run P w = .ok v w := by
  cases r with
  | tmp t => unfold ResIs at h1; subst h1; simp [results, h]
  | cell p ty => obtain ⟨a, e, hl⟩ := h1; simp [-Array.getD_eq_getD_getElem?, results, h, e, asAddr, hl]
theorem res2 {P : Program} {fn : Func} {w : World} {tmps : Array Value} {r s : ResultVar} {v u : Value} (h : fn.results = #[r, s]) (h1 : ResIs P w tmps r v) (h2 : ResIs P w tmps s u) : (results fn tmps).run P w = .ok (.tuple #[v, u]) w := by
  cases r with
  | tmp t =>
    unfold ResIs at h1; subst h1
    cases s with
    | tmp t => unfold ResIs at h2; subst h2; simp [results, h]
    | cell p ty => obtain ⟨a, e, hl⟩ := h2; simp [-Array.getD_eq_getD_getElem?, results, h, e, asAddr, hl]
  | cell p ty =>
    obtain ⟨a, e, hl⟩ := h1
    cases s with
    | tmp t => unfold ResIs at h2; subst h2; simp [-Array.getD_eq_getD_getElem?, results, h, e, asAddr, hl]
    | cell p ty => obtain ⟨a', e', hl'⟩ := h2; simp [-Array.getD_eq_getD_getElem?, results, h, e, asAddr, hl, e', hl']

theorem res3 {P : Program} {fn : Func} {w : World} {tmps : Array Value} {r s q : ResultVar} {v u x : Value} (h : fn.results = #[r, s, q]) (h1 : ResIs P w tmps r v) (h2 : ResIs P w tmps s u) (h3 : ResIs P w tmps q x) : (results fn tmps).run P w = .ok (.tuple #[v, u, x]) w := by
  have e1 : ∀ r v, ResIs P w tmps r v → (∃ t, r = .tmp t ∧ tmps.getD t undef = v) ∨ ∃ p ty a, r = .cell p ty ∧ tmps.getD p undef = .pointer (some a) ∧ (loadVar ty a).run P w = .ok v w := by
    intro r v hr
    cases r with
    | tmp t => exact .inl ⟨t, rfl, hr⟩
    | cell p ty => obtain ⟨a, e, hl⟩ := hr; exact .inr ⟨p, ty, a, rfl, e, hl⟩
  rcases e1 _ _ h1 with ⟨t1, rfl, k1⟩ | ⟨p1, y1, a1, rfl, k1, l1⟩ <;> rcases e1 _ _ h2 with ⟨t2, rfl, k2⟩ | ⟨p2, y2, a2, rfl, k2, l2⟩ <;> rcases e1 _ _ h3 with ⟨t3, rfl, k3⟩ | ⟨p3, y3, a3, rfl, k3, l3⟩ <;>
    simp [-Array.getD_eq_getD_getElem?, results, h, asAddr, *]

/-- The walk goes on in a world of which just I is known. -/
theorem wp_reset {P : Program} {c : Code} {Q : Exit → Act → World → Prop} {a : Act} {W : World} (I : World → Prop) (h : I W) (k : ∀ W', I W' → c.wp P Q a W') : c.wp P Q a W := k W h
theorem wpList_reset {P : Program} {ops : Array Oper} {Q : Exit → Act → World → Prop} {l : List Oper} {a : Act} {W : World} (I : World → Prop) (h : I W) (k : ∀ W', I W' → wpList P ops Q l a W') : wpList P ops Q l a W := k W h

theorem bcell {W w1 : World} (hb : Below W.heap.size W w1) : (∀ b o, b < W.heap.size → w1.cell? ⟨b, o, none⟩ = W.cell? ⟨b, o, none⟩) ∧ (∀ b o, b < W.heap.size → w1.frozen? ⟨b, o, none⟩ = W.frozen? ⟨b, o, none⟩) :=
  ⟨fun b o h => hb.cell (p := ⟨b, o, none⟩) h, fun b o h => hb.frozen (p := ⟨b, o, none⟩) h⟩
/-- A method called on an interface value whose type is known. -/
theorem upon_method {P : Program} {o : Oper} {a : Act} {K : Act → World → Prop} {Q : Exit → Act → World → Prop} {fuel : Nat} {t : TypeId} {v : Value} {s : String} {W : World} {g : FuncId × Value → World → Result Next} (f : FuncId)
    (h : Sem.run P (method fuel t v s) W = .ok (f, v) W) (k : Oper.upon P o a K Q (g (f, v) W)) : Oper.upon P o a K Q ((Sem.run P (method fuel t v s) W).andThen g) := by
  rw [h]; exact k
theorem below_set {B : Nat} {a w : World} {r i : Nat} {u : Value} (hp : B ≤ r) (h : Below B a w) : Below B a (w.setCell ⟨r, i, none⟩ u) := h.setCell hp u
theorem below_alloc {B : Nat} {a w : World} {o : Obj} (hB : B ≤ w.heap.size) (h : Below B a w) : Below B a (w.alloc o) := h.alloc hB o
theorem below_step {B : Nat} {a W w1 : World} (hb : Below W.heap.size W w1) (hs : B ≤ W.heap.size) (h : Below B a W) : Below B a w1 := h.trans (hb.mono hs)
theorem size_keep {w W w1 : World} {n : Nat} (hb : Below W.heap.size W w1) (h : w.heap.size + n ≤ W.heap.size) : w.heap.size + n ≤ w1.heap.size := by have := hb.size; omega

end Go.Proofs.Ytdaanchagjamfaa
/- Abstract values and blocks, and what they stand for. No program in sight. -/
namespace Go.SX
open Go Go.RowKit Go.Proofs.Ytdaanchagjamfaa

structure Loc where
  blk : Nat
  off : Nat
  esz : Nat
  cap : Nat
  /-- Is there no room, and no block of one's own: nil, or what is of length 0 and has no room? -/
  nil : Bool
  /-- What stands there then. -/
  nb : Option Addr
  /-- The blocks that what is known hangs on, where these are several (or none). -/
  foot : Nat → Prop
def Loc.of (blk off esz cap : Nat) : Loc := ⟨blk, off, esz, cap, false, .none, fun k => k = blk⟩
def Loc.none (esz : Nat) : Loc := ⟨0, 0, esz, 0, true, .none, fun _ => False⟩
/-- The address of an element; nil has none. -/
def Loc.base (l : Loc) (e : Nat) : Option Addr := match l.nil with
  | true => l.nb
  | false => some ⟨l.blk, l.off + e * l.esz, .none⟩
def Loc.room (l : Loc) (n : Nat) : Nat := match l.nil with
  | true => 0
  | false => n

inductive Cap where
  | lit (n : Nat)
  | of (k : Nat)

/-- An abstract value. 'c': is the number (the bool) known, with no variable in it? -/
inductive AV where
  | int (c : Bool) (k : IntKind) (n : Int)
  | bool (c : Bool) (b : Bool)
  | ptr (id e j : Nat)
  | addr (a : Addr)
  | nilp
  | slice (c : Bool) (id e len : Nat) (cap : Cap)
  | nils
  /-- A slice that is nil, perhaps, if it is empty. -/
  | slz (id e len : Nat) (cap : Cap)
  | map (id : Nat)
  /-- What a range over a function hands out: its record. -/
  | yld (id : Nat)
  | nilm
  | fn (f : Fn) (cap : List AV)
  /-- A method value: what is bound comes ahead of the arguments. -/
  | mth (f : Fn) (fst : List AV)
  /-- The one if b, else the other. -/
  | alt (b : Bool) (v w : AV)
  | nilf
  | ifc (t : TypeId) (v : AV)
  | nili
  | str (s : ByteArray)
  | agg (l : List AV)
  | tup (l : List AV)
  | raw (v : Value)
  /-- What an operation with a guard left: v if b, else nothing. -/
  | opt (b : Bool) (v : AV)

def Cap.den (n : Nat) : Cap → Nat
  | .lit m => m
  | .of k => n - k

mutual
def AV.den (r : Nat → Loc) : AV → Value
  | .int _ k n => .int k n
  | .bool _ b => .bool b
  | .ptr id e j => .pointer (some ⟨(r id).blk, (r id).off + e * (r id).esz + j, none⟩)
  | .addr a => .pointer (some a)
  | .nilp => .pointer none
  | .slice _ id e len c => .slice (some ⟨(r id).blk, (r id).off + e * (r id).esz, none⟩) len (c.den (r id).cap)
  | .nils => .slice none 0 0
  | .slz id e len c => .slice ((r id).base e) len ((r id).room (c.den (r id).cap))
  | .map id => .map (some (r id).blk)
  | .yld id => .func (.yield (r id).blk) #[] #[]
  | .nilm => .map none
  | .fn f cap => .func f #[] (AV.denL r cap).toArray
  | .mth f l => .func f (AV.denL r l).toArray #[]
  | .alt b v w => match b with
    | true => v.den r
    | false => w.den r
  | .nilf => .nilFunc
  | .ifc t v => .iface t (v.den r)
  | .nili => .nilIface
  | .str s => .string s
  | .agg l => .agg (AV.denL r l).toArray
  | .tup l => .tuple (AV.denL r l).toArray
  | .raw v => v
  | .opt b v => match b with
    | true => v.den r
    | false => .tuple #[]
def AV.denL (r : Nat → Loc) : List AV → List Value
  | [] => []
  | v :: l => v.den r :: AV.denL r l
end

theorem denL_map (r : Nat → Loc) : ∀ l, AV.denL r l = l.map (AV.den r)
  | [] => rfl
  | v :: l => by rw [AV.denL, denL_map r l]; rfl

mutual
def AV.all (p : Nat → Bool) : AV → Bool
  | .ptr id _ _ => p id
  | .slice _ id _ _ _ => p id
  | .slz id _ _ _ => p id
  | .map id => p id
  | .yld id => p id
  | .fn _ cap => AV.allL p cap
  | .mth _ l => AV.allL p l
  | .alt _ v w => v.all p && w.all p
  | .ifc _ v => v.all p
  | .opt _ v => v.all p
  | .agg l => AV.allL p l
  | .tup l => AV.allL p l
  | _ => true
def AV.allL (p : Nat → Bool) : List AV → Bool
  | [] => true
  | v :: l => v.all p && AV.allL p l
end

mutual
theorem den_congr {p : Nat → Bool} {r r' : Nat → Loc} (h : ∀ id, p id = true → r id = r' id) : ∀ v : AV, v.all p = true → v.den r = v.den r'
  | .int .., _ | .bool .., _ | .addr .., _ | .nilp, _ | .nils, _ | .nilm, _ | .nilf, _ | .nili, _ | .str .., _ | .raw .., _ => rfl
  | .ptr id _ _, hv => by simp only [AV.den]; rw [h id hv]
  | .slice _ id _ _ _, hv => by simp only [AV.den]; rw [h id hv]
  | .slz id _ _ _, hv => by simp only [AV.den]; rw [h id hv]
  | .map id, hv => by simp only [AV.den]; rw [h id hv]
  | .yld id, hv => by simp only [AV.den]; rw [h id hv]
  | .fn _ cap, hv => by simp only [AV.den]; rw [denL_congr h cap hv]
  | .mth _ l, hv => by simp only [AV.den]; rw [denL_congr h l hv]
  | .alt _ v w, hv => by
    simp only [AV.all, Bool.and_eq_true] at hv
    simp only [AV.den]; rw [den_congr h v hv.1, den_congr h w hv.2]
  | .ifc _ v, hv => by simp only [AV.den]; rw [den_congr h v hv]
  | .opt _ v, hv => by simp only [AV.den]; rw [den_congr h v hv]
  | .agg l, hv => by simp only [AV.den]; rw [denL_congr h l hv]
  | .tup l, hv => by simp only [AV.den]; rw [denL_congr h l hv]
theorem denL_congr {p : Nat → Bool} {r r' : Nat → Loc} (h : ∀ id, p id = true → r id = r' id) : ∀ l : List AV, AV.allL p l = true → AV.denL r l = AV.denL r' l
  | [], _ => rfl
  | v :: l, hv => by
    simp only [AV.allL, Bool.and_eq_true] at hv
    simp only [AV.denL]; rw [den_congr h v hv.1, denL_congr h l hv.2]
end

mutual
theorem all_mono {p q : Nat → Bool} (h : ∀ id, p id = true → q id = true) : ∀ v : AV, v.all p = true → v.all q = true
  | .int .., _ | .bool .., _ | .addr .., _ | .nilp, _ | .nils, _ | .nilm, _ | .nilf, _ | .nili, _ | .str .., _ | .raw .., _ => rfl
  | .ptr id _ _, hv => h id hv
  | .slice _ id _ _ _, hv => h id hv
  | .slz id _ _ _, hv => h id hv
  | .map id, hv => h id hv
  | .yld id, hv => h id hv
  | .fn _ cap, hv => allL_mono h cap hv
  | .mth _ l, hv => allL_mono h l hv
  | .alt _ v w, hv => by
    simp only [AV.all, Bool.and_eq_true] at hv ⊢
    exact ⟨all_mono h v hv.1, all_mono h w hv.2⟩
  | .ifc _ v, hv => all_mono h v hv
  | .opt _ v, hv => all_mono h v hv
  | .agg l, hv => allL_mono h l hv
  | .tup l, hv => allL_mono h l hv
theorem allL_mono {p q : Nat → Bool} (h : ∀ id, p id = true → q id = true) : ∀ l : List AV, AV.allL p l = true → AV.allL q l = true
  | [], _ => rfl
  | v :: l, hv => by
    simp only [AV.allL, Bool.and_eq_true] at hv ⊢
    exact ⟨all_mono h v hv.1, allL_mono h l hv.2⟩
end

/-- A value of the model, as an abstract one. -/
def ofAtom : Value → AV
  | .int k n => .int true k n
  | .bool b => .bool true b
  | .pointer none => .nilp
  | .pointer (some a) => .addr a
  | .slice none 0 0 => .nils
  | .map none => .nilm
  | .nilFunc => .nilf
  | .nilIface => .nili
  | .string s => .str s
  | v => .raw v
def ofValue : Value → AV
  | .agg cs => .agg (cs.toList.map ofAtom)
  | .tuple cs => .tup (cs.toList.map ofAtom)
  | v => ofAtom v
theorem den_ofAtom (r : Nat → Loc) (v : Value) : (ofAtom v).den r = v := by
  unfold ofAtom
  split <;> rfl
theorem den_ofAtoms (r : Nat → Loc) (l : List Value) : AV.denL r (l.map ofAtom) = l := by
  rw [denL_map, List.map_map]
  induction l with
  | nil => rfl
  | cons v l ih => simp only [List.map_cons, Function.comp, den_ofAtom]; rw [ih]
theorem den_ofValue (r : Nat → Loc) (v : Value) : (ofValue v).den r = v := by
  unfold ofValue
  split
  · simp only [AV.den]; rw [den_ofAtoms]
  · simp only [AV.den]; rw [den_ofAtoms]
  · exact den_ofAtom r v
theorem ofAtom_all (p : Nat → Bool) (v : Value) : (ofAtom v).all p = true := by
  unfold ofAtom
  split <;> rfl
theorem ofAtoms_all (p : Nat → Bool) : ∀ l : List Value, AV.allL p (l.map ofAtom) = true
  | [] => rfl
  | v :: l => by simp only [List.map_cons, AV.allL, ofAtom_all, ofAtoms_all p l]; rfl
theorem ofValue_all (p : Nat → Bool) (v : Value) : (ofValue v).all p = true := by
  unfold ofValue
  split
  · exact ofAtoms_all p _
  · exact ofAtoms_all p _
  · exact ofAtom_all p _

/-- Is it one cell, surely? -/
def AV.atom : AV → Bool
  | .agg _ | .tup _ | .raw _ | .opt .. | .alt .. => false
  | _ => true
def AV.cells : AV → List AV
  | .agg l => l
  | v => [v]
theorem atom_one (r : Nat → Loc) {v : AV} (h : v.atom = true) : (v.den r).oneCell' = true := by
  cases v <;> first | rfl | (simp [AV.atom] at h)
theorem cells_den (r : Nat → Loc) (v : AV) (h : v.atom = true ∨ ∃ l, v = .agg l) : (v.den r).cells = (AV.denL r v.cells).toArray := by
  rcases h with h | ⟨l, rfl⟩
  · cases v <;> first | rfl | (simp [AV.atom] at h)
  · rfl

/-- What a cell of a row is. -/
inductive CK where
  | int (k : IntKind)
  | bool
def mkC : CK → Int → AV
  | .int k, x => .int false k x
  | .bool, x => .bool false (decide (x = 1))
/-- A row's cells, out of numbers. -/
def cellsOf : List CK → Nat → (Nat → Int) → List AV
  | [], _, _ => []
  | k :: ks, j, f => mkC k (f j) :: cellsOf ks (j + 1) f
def rowG (ks : List CK) (g : Nat → Nat → Int) (i : Nat) : List AV := cellsOf ks 0 (g i)
inductive Blk where
  | cells (z : Nat) (ty : TypeId) (l : List AV)
  | rowl (ty : TypeId) (esz : Nat) (l : List (List AV))
  | arr (esz n : Nat) (get : Nat → List AV)
  | gone
  /-- Another's, to be read alone. -/
  | cellsR (z : Nat) (ty : TypeId) (l : List AV)
  | rowlR (ty : TypeId) (esz : Nat) (l : List (List AV))
  /-- A loop's record; the block for its deferred calls (open, none there); a map. -/
  | lp (s : LoopState) (pend : Option Code) (tms : List AV) (ps : Array Tmp) (assign body : Code)
  | dfr
  | mp (es : List MapEntry) (clock : Nat)
  /-- Rows, so many: what each is. Nil, perhaps, if there are none. 'o': one's own, to be written. -/
  | rowz (o : Bool) (ty : TypeId) (ks : List CK) (n : Nat) (get : Nat → Nat → Int)
  /-- Rows to be read alone, wherever they lie. -/
  | frz (ks : List CK) (n : Nat) (get : Nat → Nat → Int)
  /-- A row of slices, each with its own rows. -/
  | frz2 (o : Bool) (ty : TypeId) (ks : List CK) (n : Nat) (len : Nat → Nat) (get : Nat → Nat → Nat → Int)
  /-- A map whose keys are whole numbers: which keys there are, and what is looked up (zero, where there is none). -/
  | mpf (k : IntKind) (z : AV) (has : Int → Bool) (get : Int → AV)

def Blk.all (p : Nat → Bool) : Blk → Bool
  | .cells _ _ l => AV.allL p l
  | .rowl _ _ l => l.all (AV.allL p)
  | .arr .. => true
  | .gone => true
  | .cellsR _ _ l => AV.allL p l
  | .rowlR _ _ l => l.all (AV.allL p)
  | .lp _ _ l _ _ _ => AV.allL p l
  | .dfr => true
  | .mp .. => true
  | .rowz .. => true
  | .frz .. => true
  | .frz2 .. => true
  | .mpf .. => true
/-- Is it one's own, to be written? -/
def Blk.own : Blk → Bool
  | .cells .. | .rowl .. | .lp .. | .mp .. | .mpf .. => true
  | .rowz o .. => o
  | .frz2 o .. => o
  | _ => false
def Blk.live : Blk → Bool
  | .gone => false
  | _ => true
def Blk.peel : Blk → Blk
  | .cellsR z ty l => .cells z ty l
  | .rowlR ty z l => .rowl ty z l
  | .rowz _ ty z n g => .rowz true ty z n g
  | .frz2 _ ty z n l g => .frz2 true ty z n l g
  | b => b
/-- Not to be written any more. -/
def Blk.ro : Blk → Blk
  | .cells z ty l => .cellsR z ty l
  | .rowl ty z l => .rowlR ty z l
  | .rowz _ ty z n g => .rowz false ty z n g
  | .frz2 _ ty z n l g => .frz2 false ty z n l g
  | b => b

/-- One cell that names no block. -/
def flatC (v : AV) : Bool := v.atom && v.all (fun _ => false)
def flatR (l : List AV) : Bool := l.all flatC
theorem flatC_all {v : AV} (h : flatC v = true) : v.all (fun _ => false) = true := by
  simp only [flatC, Bool.and_eq_true] at h; exact h.2
theorem flatR_all : ∀ {l : List AV}, flatR l = true → AV.allL (fun _ => false) l = true
  | [], _ => rfl
  | v :: l, h => by
    simp only [flatR, List.all_cons, Bool.and_eq_true] at h
    simp only [AV.allL, Bool.and_eq_true]
    exact ⟨flatC_all h.1, flatR_all h.2⟩
def rowsTo (n : Nat) (get : Nat → List AV) : List (List AV) := (List.range n).map get
/-- The rows at a place, to be read. -/
def RowsAt (w : World) (r : Nat → Loc) (l : Loc) (esz n : Nat) (get : Nat → List AV) : Prop :=
  (l.nil = true → n = 0) ∧ ∀ i, i < n → l.foot l.blk ∧ (get i).length = esz ∧ ∀ j v, (get i)[j]? = some v → flatC v = true ∧ w.cell? ⟨l.blk, l.off + i * esz + j, none⟩ = some (v.den r)
theorem cellsOf_len : ∀ (ks : List CK) (j : Nat) (f : Nat → Int), (cellsOf ks j f).length = ks.length
  | [], _, _ => rfl
  | _ :: ks, j, f => by rw [cellsOf, List.length_cons, cellsOf_len ks, List.length_cons]
theorem cellsOf_flat : ∀ (ks : List CK) (j : Nat) (f : Nat → Int), flatR (cellsOf ks j f) = true
  | [], _, _ => rfl
  | k :: ks, j, f => by
    rw [cellsOf, flatR, List.all_cons, Bool.and_eq_true]
    exact ⟨by cases k <;> rfl, cellsOf_flat ks (j + 1) f⟩
/-- Rows of one's own, or nil. -/
def RowzR (r : Nat → Loc) (id : Nat) (w : World) (ty : TypeId) (esz n : Nat) (get : Nat → List AV) : Prop :=
  (r id).off = 0 ∧ (r id).esz = esz ∧ (∀ k, (r id).foot k ↔ ((r id).nil = false ∧ k = (r id).blk)) ∧ ((r id).nil = true → n = 0) ∧ (∀ i, i < n → (get i).length = esz ∧ flatR (get i) = true) ∧
      ((r id).nil = false → n ≤ (r id).cap ∧ ∃ rest : List Value, ((r id).cap - n) * esz ≤ rest.length ∧ bk w (r id).blk = some (.cells (AV.denL r (rowsTo n get).flatten ++ rest).toArray ty (0, 0)))
def getI (k : IntKind) (n : Int) : List MapEntry → Option Value
  | [] => none
  | e :: es => match e.key with
    | .int k' m => match decide (k = k' ∧ n = m) with
      | true => some e.val
      | false => getI k n es
    | _ => getI k n es
/-- What a map holds. -/
structure MapIs (r : Nat → Loc) (k : IntKind) (z : AV) (has : Int → Bool) (get : Int → AV) (es : List MapEntry) : Prop where
  keys : ∀ e ∈ es, ∃ m, e.key = .int k m
  once : (es.map (·.key)).Nodup
  flat : ∀ n, (get n).all (fun _ => false) = true
  zero : z.all (fun _ => false) = true
  yes : ∀ n, has n = true → getI k n es = some ((get n).den r)
  no : ∀ n, has n = false → getI k n es = none ∧ (get n).den r = z.den r

def BRep (r : Nat → Loc) (id : Nat) (w : World) : Blk → Prop
  | .cells z ty l => (r id).off = 0 ∧ (r id).esz = z ∧ bk w (r id).blk = some (.cells (AV.denL r l).toArray ty (0, 0))
  | .rowl ty esz l => (r id).off = 0 ∧ (r id).esz = esz ∧ (∀ x ∈ l, x.length = esz) ∧ l.length ≤ (r id).cap ∧
      ∃ rest : List Value, ((r id).cap - l.length) * esz ≤ rest.length ∧ bk w (r id).blk = some (.cells (AV.denL r l.flatten ++ rest).toArray ty (0, 0))
  | .arr esz n get => (r id).esz = esz ∧ (r id).blk < w.heap.size ∧ ∀ i, i < n → (get i).length = esz ∧ ∀ j v, (get i)[j]? = some v → v.all (fun _ => false) = true ∧ w.cell? ⟨(r id).blk, (r id).off + i * esz + j, none⟩ = some (v.den r)
  | .gone => True
  | .cellsR z ty l => (r id).off = 0 ∧ (r id).esz = z ∧ bk w (r id).blk = some (.cells (AV.denL r l).toArray ty (0, 0))
  | .rowlR ty esz l => (r id).off = 0 ∧ (r id).esz = esz ∧ (∀ x ∈ l, x.length = esz) ∧ l.length ≤ (r id).cap ∧
      ∃ rest : List Value, ((r id).cap - l.length) * esz ≤ rest.length ∧ bk w (r id).blk = some (.cells (AV.denL r l.flatten ++ rest).toArray ty (0, 0))
  | .lp s pend l ps as body => ∃ fn D, bk w (r id).blk = some (.loop { state := s, pending := pend, fn, tmps := (AV.denL r l).toArray, params := ps, assign := as, body, defers := D })
  | .dfr => bk w (r id).blk = some (.deferred (some []))
  | .mp es cl => bk w (r id).blk = some (.map es.toArray cl)
  | .rowz _ ty ks n g => RowzR r id w ty ks.length n (rowG ks g)
  | .frz ks n g => (r id).esz = ks.length ∧ (∀ k, (r id).foot k → k < w.heap.size) ∧ RowsAt w r (r id) ks.length n (rowG ks g)
  | .frz2 _ ty ks n len get => (r id).off = 0 ∧ (r id).esz = 1 ∧ ((r id).nil = true → n = 0) ∧ ∃ inner : Nat → Loc, (∀ k, (r id).foot k ↔ (((r id).nil = false ∧ k = (r id).blk) ∨ ∃ i, i < n ∧ (inner i).foot k)) ∧ (∀ k, (r id).foot k → k < w.heap.size) ∧
      (∀ i, i < n → ¬ (inner i).foot (r id).blk ∧ (inner i).esz = ks.length ∧ RowsAt w r (inner i) ks.length (len i) (rowG ks (get i))) ∧
      ((r id).nil = false → n ≤ (r id).cap ∧ ∃ rest : List Value, (r id).cap - n ≤ rest.length ∧ bk w (r id).blk = some (.cells ((List.range n).map (fun i => Value.slice ((inner i).base 0) (len i) ((inner i).room (inner i).cap)) ++ rest).toArray ty (0, 0)))
  | .mpf k z has get => ∃ es cl, bk w (r id).blk = some (.map es.toArray cl) ∧ MapIs r k z has get es
/-- The blocks that it hangs on. -/
def Foot (r : Nat → Loc) (id : Nat) (b : Blk) (k : Nat) : Prop := match b with
  | .rowz .. => (r id).foot k
  | .frz .. => (r id).foot k
  | .frz2 .. => (r id).foot k
  | _ => k = (r id).blk
theorem BRep.peel {r : Nat → Loc} {id : Nat} {w : World} {b : Blk} (h : BRep r id w b) : BRep r id w b.peel := by cases b <;> exact h
theorem BRep.ro {r : Nat → Loc} {id : Nat} {w : World} {b : Blk} (h : BRep r id w b) : BRep r id w b.ro := by cases b <;> exact h
theorem BRep.of_ro {r : Nat → Loc} {id : Nat} {w : World} {b : Blk} (h : BRep r id w b.ro) : BRep r id w b := by cases b <;> exact h
theorem Blk.all_peel {p : Nat → Bool} {b : Blk} (h : b.all p = true) : b.peel.all p = true := by cases b <;> exact h
theorem Blk.all_ro {p : Nat → Bool} {b : Blk} (h : b.all p = true) : b.ro.all p = true := by cases b <;> exact h
theorem Blk.own_ro (b : Blk) : b.ro.own = true → b.ro = b := by cases b <;> first | (intro h; cases h; done) | exact fun _ => rfl
theorem Blk.live_ro (b : Blk) : b.ro.live = b.live := by cases b <;> rfl

theorem allL_append (p : Nat → Bool) : ∀ a b : List AV, AV.allL p (a ++ b) = (AV.allL p a && AV.allL p b)
  | [], b => rfl
  | v :: a, b => by simp only [List.cons_append, AV.allL, allL_append p a b, Bool.and_assoc]
theorem allL_flatten {p : Nat → Bool} : ∀ {l : List (List AV)}, l.all (AV.allL p) = true → AV.allL p l.flatten = true
  | [], _ => rfl
  | x :: l, h => by
    simp only [List.all_cons, Bool.and_eq_true] at h
    rw [List.flatten_cons, allL_append, h.1, allL_flatten h.2]; rfl

theorem cell_of_bk {w w' : World} {b o : Nat} (h : bk w' b = bk w b) : w'.cell? ⟨b, o, none⟩ = w.cell? ⟨b, o, none⟩ := World.cell?_of_block (w := w) (w' := w') (a := ⟨b, o, none⟩) h
theorem bk_lt {w : World} {b : Nat} {o : Obj} (h : bk w b = some o) : b < w.heap.size := by
  unfold bk at h
  rcases Nat.lt_or_ge b w.heap.size with g | g
  · exact g
  · rw [Array.getElem?_eq_none g] at h; cases h
theorem BRep.lt {r : Nat → Loc} {id : Nat} {w : World} : ∀ {b : Blk}, BRep r id w b → b.live = true → ∀ k, Foot r id b k → k < w.heap.size
  | .cells _ _ _, h, _, _, e => e ▸ bk_lt h.2.2
  | .rowl _ _ _, ⟨_, _, _, _, _, _, h⟩, _, _, e => e ▸ bk_lt h
  | .arr _ _ _, h, _, _, e => e ▸ h.2.1
  | .gone, _, h, _, _ => by cases h
  | .cellsR _ _ _, h, _, _, e => e ▸ bk_lt h.2.2
  | .rowlR _ _ _, ⟨_, _, _, _, _, _, h⟩, _, _, e => e ▸ bk_lt h
  | .lp .., ⟨_, _, h⟩, _, _, e => e ▸ bk_lt h
  | .dfr, h, _, _, e => e ▸ bk_lt h
  | .mp .., h, _, _, e => e ▸ bk_lt h
  | .rowz .., ⟨_, _, hf, _, _, h⟩, _, k, e => by
    obtain ⟨hn, rfl⟩ := (hf k).1 e
    obtain ⟨_, _, _, h⟩ := h hn
    exact bk_lt h
  | .frz .., ⟨_, h, _⟩, _, k, e => h k e
  | .frz2 .., ⟨_, _, _, _, _, h, _⟩, _, k, e => h k e
  | .mpf .., ⟨_, _, h, _⟩, _, _, e => e ▸ bk_lt h
theorem RowsAt.keep {r r' : Nat → Loc} {l : Loc} {w w' : World} {esz n : Nat} {get : Nat → List AV} (h : RowsAt w r l esz n get) (hb : ∀ k, l.foot k → bk w' k = bk w k) : RowsAt w' r' l esz n get := by
  refine ⟨h.1, fun i hi => ?_⟩
  obtain ⟨h0, h1, h2⟩ := h.2 i hi
  refine ⟨h0, h1, fun j v hv => ?_⟩
  obtain ⟨h3, h4⟩ := h2 j v hv
  refine ⟨h3, ?_⟩
  rw [cell_of_bk (hb _ h0), h4, den_congr (p := fun _ => false) (r := r) (r' := r') (fun _ hf => by cases hf) v (flatC_all h3)]
theorem MapIs.to {r r' : Nat → Loc} {k : IntKind} {z : AV} {has : Int → Bool} {get : Int → AV} {es : List MapEntry} (h : MapIs r k z has get es) : MapIs r' k z has get es := by
  have e : ∀ v : AV, v.all (fun _ => false) = true → v.den r = v.den r' := den_congr (fun _ hf => by cases hf)
  refine ⟨h.keys, h.once, h.flat, h.zero, fun n hn => ?_, fun n hn => ?_⟩
  · rw [← e _ (h.flat n)]; exact h.yes n hn
  · rw [← e _ (h.flat n), ← e _ h.zero]; exact h.no n hn
theorem rowsTo_flat {n : Nat} {get : Nat → List AV} (h : ∀ i, i < n → AV.allL (fun _ => false) (get i) = true) : AV.allL (fun _ => false) (rowsTo n get).flatten = true := by
  apply allL_flatten
  rw [List.all_eq_true]
  intro x hx
  obtain ⟨i, hi, rfl⟩ := List.mem_map.1 hx
  exact h i (List.mem_range.1 hi)

/-- What is known of a block stands where the block stands, and what it names lies where it lay. -/
theorem BRep.keep {r r' : Nat → Loc} {id : Nat} {w w' : World} {p : Nat → Bool} (hr : ∀ i, p i = true → r i = r' i) (hid : r id = r' id) (hsz : w.heap.size ≤ w'.heap.size) : ∀ {b : Blk}, b.all p = true → (b.live = true → ∀ k, Foot r id b k → bk w' k = bk w k) → BRep r id w b → BRep r' id w' b
  | .cells z ty l, ha, hb, h => by
    have hb := hb rfl _ rfl
    simp only [BRep] at h ⊢
    rw [← hid, hb, ← denL_congr hr l ha]; exact h
  | .rowl ty esz l, ha, hb, h => by
    have hb := hb rfl _ rfl
    simp only [BRep] at h ⊢
    rw [← hid, hb, ← denL_congr hr _ (allL_flatten ha)]; exact h
  | .arr esz n get, ha, hb, h => by
    have hb := hb rfl _ rfl
    simp only [BRep] at h ⊢
    rw [← hid]
    refine ⟨h.1, Nat.lt_of_lt_of_le h.2.1 hsz, fun i hi => ⟨(h.2.2 i hi).1, fun j v hv => ?_⟩⟩
    obtain ⟨h1, h2⟩ := (h.2.2 i hi).2 j v hv
    refine ⟨h1, ?_⟩
    rw [cell_of_bk hb, h2, den_congr (p := fun _ => false) (r := r) (r' := r') (fun _ hf => by cases hf) v h1]
  | .gone, _, _, _ => trivial
  | .cellsR z ty l, ha, hb, h => by
    have hb := hb rfl _ rfl
    simp only [BRep] at h ⊢
    rw [← hid, hb, ← denL_congr hr l ha]; exact h
  | .rowlR ty esz l, ha, hb, h => by
    have hb := hb rfl _ rfl
    simp only [BRep] at h ⊢
    rw [← hid, hb, ← denL_congr hr _ (allL_flatten ha)]; exact h
  | .lp s pend l ps as body, ha, hb, h => by
    have hb := hb rfl _ rfl
    simp only [BRep] at h ⊢
    rw [← hid, hb, ← denL_congr hr l ha]; exact h
  | .dfr, ha, hb, h => by
    have hb := hb rfl _ rfl
    simp only [BRep] at h ⊢
    rw [← hid, hb]; exact h
  | .mp es cl, ha, hb, h => by
    have hb := hb rfl _ rfl
    simp only [BRep] at h ⊢
    rw [← hid, hb]; exact h
  | .rowz o ty ks n get, ha, hb, h => by
    have hb : ∀ k, (r id).foot k → bk w' k = bk w k := hb rfl
    simp only [BRep, RowzR] at h ⊢
    rw [← hid]
    obtain ⟨h1, h2, h3, h4, h5, h6⟩ := h
    refine ⟨h1, h2, h3, h4, h5, fun hn => ?_⟩
    obtain ⟨h7, rest, h8, h9⟩ := h6 hn
    refine ⟨h7, rest, h8, ?_⟩
    rw [hb _ ((h3 _).2 ⟨hn, rfl⟩), h9, denL_congr (p := fun _ => false) (r := r) (r' := r') (fun _ hf => by cases hf) _ (rowsTo_flat fun i hi => flatR_all (h5 i hi).2)]
  | .frz esz n get, ha, hb, h => by
    have hb : ∀ k, (r id).foot k → bk w' k = bk w k := hb rfl
    simp only [BRep] at h ⊢
    rw [← hid]
    exact ⟨h.1, fun k hk => Nat.lt_of_lt_of_le (h.2.1 k hk) hsz, h.2.2.keep hb⟩
  | .frz2 o ty esz n len get, ha, hb, h => by
    have hb : ∀ k, (r id).foot k → bk w' k = bk w k := hb rfl
    simp only [BRep] at h ⊢
    rw [← hid]
    obtain ⟨h1, h2, h3, inner, h4, h5, h6, h7⟩ := h
    refine ⟨h1, h2, h3, inner, h4, fun k hk => Nat.lt_of_lt_of_le (h5 k hk) hsz, fun i hi => ?_, fun hn => ?_⟩
    · obtain ⟨g0, g1, g2⟩ := h6 i hi
      exact ⟨g0, g1, g2.keep fun k hk => hb k ((h4 k).2 (.inr ⟨i, hi, hk⟩))⟩
    · obtain ⟨g1, rest, g2, g3⟩ := h7 hn
      exact ⟨g1, rest, g2, by rw [hb _ ((h4 _).2 (.inl ⟨hn, rfl⟩)), g3]⟩
  | .mpf k z has get, ha, hb, h => by
    have hb := hb rfl _ rfl
    simp only [BRep] at h ⊢
    rw [← hid, hb]
    obtain ⟨es, cl, h1, h2⟩ := h
    exact ⟨es, cl, h1, h2.to⟩

end Go.SX
