/- Small laws that the walks of this seat share: what a call keeps of the blocks that its caller has made. -/
import Derived.WalkKit
import Derived.WalkSpells
import Derived.WalkLawsBesides
import Derived.Deep.MidRow
namespace Go.Proofs.Ytdaanchagjamfaa
open Go.RowKit

theorem ret_int {k : IntKind} {a b : Int} (h : a = b) : Ending.returned (.int k a) = .returned (.int k b) := by rw [h]
theorem ret_bool {a b : Bool} (h : a = b) : Ending.returned (.bool a) = .returned (.bool b) := by rw [h]

/-- A block, by a name that simp does not look behind. -/
def bk (w : World) (n : Nat) : Option Obj := w.heap[n]?
theorem bk_alloc (w : World) (o : Obj) (n : Nat) : bk (w.alloc o) n = if n = w.heap.size then some o else bk w n := by
  show (w.heap.push o)[n]? = _
  rw [Array.getElem?_push]; rfl
theorem bk_drew (w : World) (n : Nat) : bk w.drew n = bk w n := rfl
theorem bk_set_own (w : World) (b i : Nat) (v : Value) {c : Array Value} {t : TypeId} (h : bk w b = some (.cells c t (0, 0))) : bk (w.setCell ⟨b, i, none⟩ v) b = some (.cells (c.setIfInBounds i v) t (0, 0)) := by
  unfold bk at *
  simp [World.setCell, Array.getElem?_modify, h]
theorem bk_set_other (w : World) (a : Addr) (n : Nat) (v : Value) (h : n ≠ a.block) : bk (w.setCell a v) n = bk w n := Below.heap_setCell w a v n h

/-- Block b is one's own, and known whole. -/
@[reducible] def Has (w : World) (b : Nat) (c : Array Value) (t : TypeId) : Prop :=
  (∀ o, w.cell? ⟨b, o, none⟩ = c[o]?) ∧ (∀ o, w.frozen? ⟨b, o, none⟩ = false) ∧ bk w b = some (.cells c t (0, 0))
theorem has_of_bk {w : World} {b : Nat} {c : Array Value} {t : TypeId} (h : bk w b = some (.cells c t (0, 0))) : Has w b c t := by
  unfold bk at h
  exact ⟨fun o => by simp [World.cell?, h], fun o => by simp [World.frozen?, h], h⟩
theorem has_drew {w : World} {b : Nat} {c : Array Value} {t : TypeId} (h : Has w b c t) : Has w.drew b c t := h
theorem has_lt {w : World} {b : Nat} {c : Array Value} {t : TypeId} (h : Has w b c t) : b < w.heap.size := by
  have h' := h.2.2
  unfold bk at h'
  rcases Nat.lt_or_ge b w.heap.size with g | g
  · exact g
  · rw [Array.getElem?_eq_none g] at h'; cases h'
theorem has_alloc {w : World} {b : Nat} {c : Array Value} {t : TypeId} (o : Obj) (h : Has w b c t) : Has (w.alloc o) b c t :=
  has_of_bk (by rw [bk_alloc, if_neg (by have := has_lt h; omega)]; exact h.2.2)
theorem has_new (w : World) (c : Array Value) (t : TypeId) : Has (w.alloc (.cells c t)) w.heap.size c t :=
  has_of_bk (by rw [bk_alloc, if_pos rfl])
theorem has_set {w : World} {b : Nat} {c : Array Value} {t : TypeId} (r i : Nat) (v : Value) (h : Has w b c t) (hne : b ≠ r) : Has (w.setCell ⟨r, i, none⟩ v) b c t :=
  has_of_bk (by rw [bk_set_other _ _ _ _ hne]; exact h.2.2)
theorem has_set' {w : World} {b : Nat} {c : Array Value} {t : TypeId} {r i : Nat} {v : Value} (hne : b ≠ r) (h : Has w b c t) : Has (w.setCell ⟨r, i, none⟩ v) b c t := has_set r i v h hne
theorem has_put {w : World} {b : Nat} {c : Array Value} {t : TypeId} (i : Nat) (v : Value) (h : Has w b c t) : Has (w.setCell ⟨b, i, none⟩ v) b (c.setIfInBounds i v) t :=
  has_of_bk (bk_set_own _ _ _ _ h.2.2)
theorem has_put' {w : World} {b b' : Nat} {c c' : Array Value} {t : TypeId} (i : Nat) (v : Value) (hb : b' = b) (h : Has w b c t) (e : c.setIfInBounds i v = c') : Has (w.setCell ⟨b', i, none⟩ v) b c' t := by
  subst hb; rw [← e]; exact has_put i v h
theorem has_new' {w : World} {b : Nat} {c : Array Value} {t : TypeId} (h : b = w.heap.size) : Has (w.alloc (.cells c t)) b c t := by subst h; exact has_new w c t
theorem has_below {W w1 : World} {b : Nat} {c : Array Value} {t : TypeId} (hb : Below W.heap.size W w1) (h : Has W b c t) : Has w1 b c t :=
  has_of_bk (by have := hb.block b (has_lt h); unfold bk; rw [this]; exact h.2.2)

/-- A whole block is written. -/
def put (w : World) (r : Nat) (c : Array Value) (t : TypeId) : World := { w with heap := w.heap.setIfInBounds r (.cells c t (0, 0)) }
theorem put_size (w : World) (r : Nat) (c : Array Value) (t : TypeId) : (put w r c t).heap.size = w.heap.size := by simp [put]
theorem bk_put_ne (w : World) (r : Nat) (c : Array Value) (t : TypeId) (n : Nat) (h : n ≠ r) : bk (put w r c t) n = bk w n := by
  unfold bk put
  simp only [Array.getElem?_setIfInBounds]
  rw [if_neg (fun e => h e.symm)]
theorem bk_put_eq (w : World) (r : Nat) (c : Array Value) (t : TypeId) (h : r < w.heap.size) : bk (put w r c t) r = some (.cells c t (0, 0)) := by
  unfold bk put
  simp [h]
theorem has_put_ne {w : World} {b r : Nat} {c c' : Array Value} {t t' : TypeId} (hne : b ≠ r) (h : Has w b c t) : Has (put w r c' t') b c t := has_of_bk (by rw [bk_put_ne _ _ _ _ _ hne]; exact h.2.2)
theorem has_put_eq {w : World} {r : Nat} {c : Array Value} {t : TypeId} (h : r < w.heap.size) : Has (put w r c t) r c t := has_of_bk (bk_put_eq w r c t h)
theorem below_put {B : Nat} {a w : World} {r : Nat} {c : Array Value} {t : TypeId} (hr : B ≤ r) (h : Below B a w) : Below B a (put w r c t) :=
  h.trans ⟨rfl, rfl, rfl, by rw [put_size]; exact Nat.le_refl _, fun k hk => bk_put_ne w r c t k (by omega)⟩
theorem setCells_put : ∀ (vs : List Value) (pre : List Value) (post : List Value) (w : World) (r : Nat) (t : TypeId), bk w r = some (.cells (pre ++ post).toArray t (0, 0)) → post.length = vs.length →
    w.setCells r pre.length vs = put w r (pre ++ vs).toArray t
  | [], pre, post, w, r, t, h, hl => by
    have : post = [] := by cases post <;> simp_all
    subst this
    unfold bk at h
    show w = _
    unfold put
    have : w.heap.setIfInBounds r (.cells (pre ++ []).toArray t (0, 0)) = w.heap := by
      apply Array.ext_getElem?
      intro i
      rw [Array.getElem?_setIfInBounds]
      split
      · rename_i e; subst e
        split
        · exact h.symm
        · rename_i g; rw [Array.getElem?_eq_none (by omega)] at h; cases h
      · rfl
    rw [this]
  | v :: vs, pre, post, w, r, t, h, hl => by
    cases post with
    | nil => simp at hl
    | cons p post =>
      simp only [List.length_cons, Nat.add_right_cancel_iff] at hl
      have hb : bk (w.setCell ⟨r, pre.length, none⟩ v) r = some (.cells ((pre ++ [v]) ++ post).toArray t (0, 0)) := by
        rw [bk_set_own _ _ _ _ h]
        simp
      have ih := setCells_put vs (pre ++ [v]) post (w.setCell ⟨r, pre.length, none⟩ v) r t hb hl
      rw [World.setCells]
      simp only [List.length_append, List.length_cons, List.length_nil, Nat.zero_add] at ih
      rw [ih]
      have hlt : r < w.heap.size := by
        unfold bk at h
        rcases Nat.lt_or_ge r w.heap.size with g | g
        · exact g
        · rw [Array.getElem?_eq_none g] at h; cases h
      unfold put
      have e : (w.setCell ⟨r, pre.length, none⟩ v).heap.setIfInBounds r (.cells (pre ++ [v] ++ vs).toArray t (0, 0)) = w.heap.setIfInBounds r (.cells (pre ++ v :: vs).toArray t (0, 0)) := by
        apply Array.ext_getElem?
        intro i
        rw [Array.getElem?_setIfInBounds, Array.getElem?_setIfInBounds]
        split
        · rename_i e; subst e; simp [hlt, World.setCell]
        · rename_i e; exact Below.heap_setCell w ⟨r, pre.length, none⟩ v i (fun g => e g.symm)
      rw [e]
      rfl
theorem has_there {w : World} {r : Nat} {c : Array Value} {t : TypeId} (h : Has w r c t) (n : Nat) (hn : n = c.size) : w.there r 0 n := fun j hj => by
  subst hn
  refine ⟨?_, h.2.1 _⟩
  rw [h.1]; simp [hj]

theorem load_has_agg {P : Program} {w : World} {b : Nat} {c : Array Value} {t ty : TypeId} {d : TypeDesc} (hr : Has w b c t) (hu : P.underlying ty = some d) (hd : d.isRow = true) (hi : (P.info? ty).map (·.size) = some c.size) :
    (loadVar ty ⟨b, 0, none⟩).run P w = .ok (.agg c) w := by
  have := run_loadVar_mid (P := P) w b 0 ty c.toList d (fun j v hv => by rw [Nat.zero_add, hr.1]; simpa using hv) hu hd (by simpa using hi)
  simpa using this
theorem load_has_one {P : Program} {w : World} {b : Nat} {v : Value} {t ty : TypeId} {d : TypeDesc} (hr : Has w b #[v] t) (hu : P.underlying ty = some d) (hd : d.isRow = false) :
    (loadVar ty ⟨b, 0, none⟩).run P w = .ok v w := by
  have hc : w.cell? ⟨b, 0, none⟩ = some v := by rw [hr.1]; rfl
  have ha : (isAgg ty).run P w = .ok false w := by
    cases d <;> simp_all [isAgg, underlying, TypeDesc.isRow]
  unfold loadVar
  simp [Sem.run_bind, ha, hc]
/-- The load of a whole block that is one's own, in one step. -/
theorem wpList_load_has {P : Program} {ops : Array Oper} {rest : List Oper} {op : Oper} {a : Act} {w : World} {Q : Exit → Act → World → Prop} {ty t : TypeId} {x : Operand} {b : Nat} {c : Array Value} {d : TypeDesc}
    (hgd : op.guard = none) (ho : op.op = .load ty x) (hx : a.eval x = .pointer (some ⟨b, 0, none⟩)) (hr : Has w b c t)
    (hu : P.underlying ty = some d) (hd : d.isRow = true) (hi : (P.info? ty).map (·.size) = some c.size) (h : wpList P ops Q rest (a.put op.dst (.agg c)) w) : wpList P ops Q (op :: rest) a w := by
  refine wpList_load_mid hgd ty x ho b 0 hx c.toList d (fun j v hv => by rw [Nat.zero_add, hr.1]; simpa using hv) hu hd (by simpa using hi) (by simpa using h)
/-- A load whose run is known. -/
theorem wpList_load_run {P : Program} {ops : Array Oper} {rest : List Oper} {op : Oper} {a : Act} {w : World} {Q : Exit → Act → World → Prop} {ty : TypeId} {x : Operand} {A : Addr} {v : Value}
    (hgd : op.guard = none) (ho : op.op = .load ty x) (hx : a.eval x = .pointer (some A)) (hl : (loadVar ty A).run P w = .ok v w) (h : wpList P ops Q rest (a.put op.dst v) w) : wpList P ops Q (op :: rest) a w :=
  wpList_plain hgd fun _ hK => by
    unfold Oper.wp execOp
    simp only [ho, hx, Instr.loadAt, Instr.sureAddr, Sem.run_bind, Sem.run_pure, Result.andThen_ok, hl]
    exact hK _ _ h
theorem put_is {w : World} {r : Nat} {c cs : Array Value} {t : TypeId} (hr : Has w r c t) (hsz : c.size = cs.size) : w.setCells r 0 cs.toList = put w r cs t := by
  have := setCells_put cs.toList [] c.toList w r t (by simpa using hr.2.2) (by simpa using hsz)
  simpa using this
/-- The store of a whole block that is one's own, in one step. -/
theorem wpList_store_has {P : Program} {ops : Array Oper} {rest : List Oper} {op : Oper} {a : Act} {w : World} {Q : Exit → Act → World → Prop} {ty t : TypeId} {x y : Operand} {r : Nat} {cs : Array Value}
    (hgd : op.guard = none) (ho : op.op = .store ty x y) (hx : a.eval x = .pointer (some ⟨r, 0, none⟩)) (hy : a.eval y = .agg cs) (hr : ∃ c, Has w r c t ∧ c.size = cs.size)
    (hi : (P.info? ty).map (·.size) = some cs.size) (h1 : cs.toList.all (·.oneCell') = true) (h : wpList P ops Q rest (a.put op.dst undef) (put w r cs t)) : wpList P ops Q (op :: rest) a w := by
  obtain ⟨c, hr, hsz⟩ := hr
  refine wpList_store_mid hgd ty x y ho r 0 cs hx hy (has_there hr _ hsz.symm) hi (by rw [← Array.all_toList]; exact h1) ?_
  rw [put_is hr hsz]; exact h
theorem load_cell_one {P : Program} {w : World} {b i : Nat} {v : Value} {ty : TypeId} {d : TypeDesc} (hc : w.cell? ⟨b, i, none⟩ = some v) (hu : P.underlying ty = some d) (hd : d.isRow = false) :
    (loadVar ty ⟨b, i, none⟩).run P w = .ok v w := by
  have ha : (isAgg ty).run P w = .ok false w := by
    cases d <;> simp_all [isAgg, underlying, TypeDesc.isRow]
  unfold loadVar
  simp [Sem.run_bind, ha, hc]
/-- A result, as it is handed back. -/
def ResIs (P : Program) (w : World) (tmps : Array Value) : ResultVar → Value → Prop
  | .tmp t, v => tmps.getD t undef = v
  | .cell p ty, v => ∃ a, tmps.getD p undef = .pointer (some a) ∧ (loadVar ty a).run P w = .ok v w
theorem res1 {P : Program} {fn : Func} {w : World} {tmps : Array Value} {r : ResultVar} {v : Value} (h : fn.results = #[r]) (h1 : ResIs P w tmps r v) : (results fn tmps).run P w = .ok v w := by
  cases r with
  | tmp t => unfold ResIs at h1; subst h1; simp [results, h]
  | cell p ty => obtain ⟨a, e, hl⟩ := h1; simp [-Array.getD_eq_getD_getElem?, results, h, e, asAddr, hl]
theorem res2 {P : Program} {fn : Func} {w : World} {tmps : Array Value} {r s : ResultVar} {v u : Value} (h : fn.results = #[r, s]) (h1 : ResIs P w tmps r v) (h2 : ResIs P w tmps s u) : (results fn tmps).run P w = .ok (.tuple #[v, u]) w := by
  cases r with
  | tmp t =>
    unfold ResIs at h1; subst h1
    cases s with
    | tmp t => unfold ResIs at h2; subst h2; simp [results, h]
    | cell p ty => obtain ⟨a, e, hl⟩ := h2; simp [-Array.getD_eq_getD_getElem?, results, h, e, asAddr, hl]
  | cell p ty =>
    obtain ⟨a, e, hl⟩ := h1
    cases s with
    | tmp t => unfold ResIs at h2; subst h2; simp [-Array.getD_eq_getD_getElem?, results, h, e, asAddr, hl]
    | cell p ty => obtain ⟨a', e', hl'⟩ := h2; simp [-Array.getD_eq_getD_getElem?, results, h, e, asAddr, hl, e', hl']

theorem res3 {P : Program} {fn : Func} {w : World} {tmps : Array Value} {r s q : ResultVar} {v u x : Value} (h : fn.results = #[r, s, q]) (h1 : ResIs P w tmps r v) (h2 : ResIs P w tmps s u) (h3 : ResIs P w tmps q x) : (results fn tmps).run P w = .ok (.tuple #[v, u, x]) w := by
  have e1 : ∀ r v, ResIs P w tmps r v → (∃ t, r = .tmp t ∧ tmps.getD t undef = v) ∨ ∃ p ty a, r = .cell p ty ∧ tmps.getD p undef = .pointer (some a) ∧ (loadVar ty a).run P w = .ok v w := by
    intro r v hr
    cases r with
    | tmp t => exact .inl ⟨t, rfl, hr⟩
    | cell p ty => obtain ⟨a, e, hl⟩ := hr; exact .inr ⟨p, ty, a, rfl, e, hl⟩
  rcases e1 _ _ h1 with ⟨t1, rfl, k1⟩ | ⟨p1, y1, a1, rfl, k1, l1⟩ <;> rcases e1 _ _ h2 with ⟨t2, rfl, k2⟩ | ⟨p2, y2, a2, rfl, k2, l2⟩ <;> rcases e1 _ _ h3 with ⟨t3, rfl, k3⟩ | ⟨p3, y3, a3, rfl, k3, l3⟩ <;>
    simp [-Array.getD_eq_getD_getElem?, results, h, asAddr, *]

/-- The walk goes on in a world of which just I is known. -/
theorem wp_reset {P : Program} {c : Code} {Q : Exit → Act → World → Prop} {a : Act} {W : World} (I : World → Prop) (h : I W) (k : ∀ W', I W' → c.wp P Q a W') : c.wp P Q a W := k W h
theorem wpList_reset {P : Program} {ops : Array Oper} {Q : Exit → Act → World → Prop} {l : List Oper} {a : Act} {W : World} (I : World → Prop) (h : I W) (k : ∀ W', I W' → wpList P ops Q l a W') : wpList P ops Q l a W := k W h

theorem bcell {W w1 : World} (hb : Below W.heap.size W w1) : (∀ b o, b < W.heap.size → w1.cell? ⟨b, o, none⟩ = W.cell? ⟨b, o, none⟩) ∧ (∀ b o, b < W.heap.size → w1.frozen? ⟨b, o, none⟩ = W.frozen? ⟨b, o, none⟩) :=
  ⟨fun b o h => hb.cell (p := ⟨b, o, none⟩) h, fun b o h => hb.frozen (p := ⟨b, o, none⟩) h⟩
/-- A method called on an interface value whose type is known. -/
theorem upon_method {P : Program} {o : Oper} {a : Act} {K : Act → World → Prop} {Q : Exit → Act → World → Prop} {fuel : Nat} {t : TypeId} {v : Value} {s : String} {W : World} {g : FuncId × Value → World → Result Next} (f : FuncId)
    (h : Sem.run P (method fuel t v s) W = .ok (f, v) W) (k : Oper.upon P o a K Q (g (f, v) W)) : Oper.upon P o a K Q ((Sem.run P (method fuel t v s) W).andThen g) := by
  rw [h]; exact k
theorem below_set {B : Nat} {a w : World} {r i : Nat} {u : Value} (hp : B ≤ r) (h : Below B a w) : Below B a (w.setCell ⟨r, i, none⟩ u) := h.setCell hp u
theorem below_alloc {B : Nat} {a w : World} {o : Obj} (hB : B ≤ w.heap.size) (h : Below B a w) : Below B a (w.alloc o) := h.alloc hB o
theorem below_step {B : Nat} {a W w1 : World} (hb : Below W.heap.size W w1) (hs : B ≤ W.heap.size) (h : Below B a W) : Below B a w1 := h.trans (hb.mono hs)
theorem size_keep {w W w1 : World} {n : Nat} (hb : Below W.heap.size W w1) (h : w.heap.size + n ≤ W.heap.size) : w.heap.size + n ≤ w1.heap.size := by have := hb.size; omega

end Go.Proofs.Ytdaanchagjamfaa
