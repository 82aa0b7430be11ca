/- Slices that come in: how they are opened, and that they read as before. -/
import Derived.Test.YtdaanchagjamfaaUp
import Derived.Test.YtdaanchagjamfaaSv
import Derived.Test.YtdaanchagjamfaaSw
import Derived.ChangeStays
import Derived.ChangeBook
import Derived.ChangeOld
import Derived.Deep.Slices
namespace Go.Proofs.Ytdaanchagjamfaa
open Go.SX Go.RowKit Go.ChangeShapes Go.WideShapes Go.ChangeAt Go.Deep

theorem fr_same {w w' : World} (h : Fr w w' (fun _ => False)) {p : MemPlace} (hp : p.block < w.heap.size) : w.sameAt w' p := by
  cases p with
  | cell b off => exact cell_of_bk (h.block b hp (fun h => h))
  | map b => exact h.block b hp (fun h => h)
/-- What came in reads as before. -/
theorem args_stay {H : Type} {enc : TypeId × Value → H} {P : Program} {W W' : World} {sp : Nat → Bool} (hl : laidOutB P = true) (hg : Fr W W' (fun _ => False)) : ∀ (ts : List TypeId) (vs : List Value) (ds : List (DataW H)) (ps : List MemPlace),
    (ts.all fun t => P.readableRec t && decide (t < P.types.size)) = true → DataW.TrodAll enc P W 0 (fun _ => true) true ts vs ds ps → (∀ p ∈ ps, sp p.block = true) → DataW.TrodAll enc P W' 0 sp true ts vs ds ps
  | [], [], [], _, _, h, _ => h
  | t :: ts, v :: vs, d :: ds, ps, hr, h, hs => by
    simp only [List.all_cons, Bool.and_eq_true, decide_eq_true_eq] at hr
    obtain ⟨p, q, ⟨fuel, h1⟩, h2, h3⟩ := h
    subst h3
    refine ⟨p, q, ⟨fuel, DataW.trod_stays (kids_book hl hr.1.1) (book_sized hr.1.1) (fun h => by cases h) ⟨hr.1.2, book_self t⟩ h1 (fun x hx => fr_same hg (DataW.trod_lt _ _ _ _ h1 x hx)) (fun x hx => hs x (by simp [hx]))⟩, ?_, rfl⟩
    exact args_stay hl hg ts vs ds q hr.2 h2 (fun x hx => hs x (by simp [hx]))
  | [], [], _ :: _, _, _, h, _ => h.elim
  | [], _ :: _, _, _, _, h, _ => h.elim
  | _ :: _, [], _, _, _, h, _ => h.elim
  | _ :: _, _ :: _, [], _, _, h, _ => h.elim
theorem trodH {H : Type} {enc : TypeId × Value → H} {P : Program} {w : World} {b : Nat} {sp : Nat → Bool} {hd : Bool} {t : TypeId} {ts : List TypeId} {v : Value} {vs : List Value} {d : DataW H} {ds : List (DataW H)} {ps : List MemPlace} (h : DataW.TrodAll enc P w b sp hd (t :: ts) (v :: vs) (d :: ds) ps) :
    ∃ p, DataW.Trod enc P w b sp hd t v d p := by
  obtain ⟨p, q, h1, _, _⟩ := h
  exact ⟨p, h1⟩
/-- A slice of whole numbers. -/
theorem open_ints {H : Type} {enc : TypeId × Value → H} {P : Program} {w : World} {base : Nat} {t e : TypeId} {k : IntKind} {v : Value} {d : DataW H} {ps : List MemPlace} (ht : P.underlying t = some (.slice e)) (he : P.underlying e = some (.int k)) (hc : P.cellsOf e = 1)
    (h : Value.okWide P w .any base t v) (hd : DataW.Trod enc P w 0 (fun _ => true) true t v d ps) :
    v = .slice none 0 0 ∨ ∃ (a : Addr) (len cap : Nat) (g : Nat → Int), v = .slice (some a) len cap ∧ a.spot = none ∧ a.block < w.heap.size ∧ ∀ i, i < len → w.cell? ⟨a.block, a.off + i, none⟩ = some (.int k (g i)) := by
  obtain ⟨oa, len, cap, rfl⟩ := okWide_slice ht h
  obtain ⟨fuel, hd⟩ := hd
  have hcs : (Value.slice oa len cap).cells.toList = [Value.slice oa len cap] := rfl
  rw [hcs] at hd
  rcases open_slice1 ht hc hd with ⟨e1, _⟩ | ⟨a, len', cap', m, n, V, D, Pl, e1, _, hlc, _, hm, _, hx⟩
  · left; simpa using e1
  · right
    simp only [List.cons.injEq, Value.slice.injEq, and_true] at e1
    obtain ⟨rfl, rfl, rfl⟩ := e1
    have hok : w.has P .any base a e cap := by
      simp only [Value.okWide, ht, Cell.okWide, Cell.ok] at h
      exact h.2.2
    obtain ⟨_, hspot, row, cells, hsh, _⟩ := hok
    have hlt : a.block < w.heap.size := by
      rcases Nat.lt_or_ge a.block w.heap.size with g | g
      · exact g
      · exfalso
        simp [World.shape?, Array.getElem?_eq_none g] at hsh
    have hV : ∀ i, i < len → ∃ z, w.cell? ⟨a.block, a.off + i, none⟩ = some (.int k z) := by
      intro i hi
      obtain ⟨h1, h2⟩ := hx i (by rw [hm]; simp; omega)
      obtain ⟨z, hz, _, _⟩ := DataW.trod_int he h2
      simp only [List.cons.injEq, and_true] at hz
      rw [hz] at h1
      have ea : a = ⟨a.block, a.off, none⟩ := by cases a; simp only at hspot; subst hspot; rfl
      rw [ea, add_off] at h1
      exact ⟨z, h1⟩
    refine ⟨a, len, cap, fun i => if hi : i < len then Classical.choose (hV i hi) else 0, rfl, hspot, hlt, fun i hi => ?_⟩
    simp only [hi, dif_pos]
    exact Classical.choose_spec (hV i hi)
theorem law_run' {E : Env} (hE : E.Sound) {H : Hnd} {f : FuncId} {fn : Func} {c : Code} (hf : E.P.funcs[f]? = some fn) (hb : fn.body = some c) (hl : ∀ G, G.rd = none → HndOk E G H c) {n : Nat} {args : List AV} {hp : List (Nat × Blk)} {r : Nat → Go.SX.Loc} {w : World} {u : Value}
    (hs : viewOk n args hp = true) (h : ∀ p ∈ hp, BRep r p.1 w p.2) (ht : DenOk (fun v _ => ∀ r', v.den r' = u) (execFn E H false fn args hp n)) : Calls E.P f (AV.denL r args).toArray w fun e w' => e = .returned u ∧ Fr w w' (fun _ => False) :=
  law_run hE hf hb hl hs h ht.den
theorem laid : laidOutB Try.prog = true := by kernel_rfl
end Go.Proofs.Ytdaanchagjamfaa
