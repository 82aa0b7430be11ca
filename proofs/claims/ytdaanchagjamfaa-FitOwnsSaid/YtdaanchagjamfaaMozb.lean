/- Pairs: its runs. -/
import Derived.Test.YtdaanchagjamfaaMoza
import Derived.Test.YtdaanchagjamfaaMov
namespace Go.SX
open Go Go.RowKit Go.Proofs.Ytdaanchagjamfaa
/-- The function's contract at one argument. -/
noncomputable def onlyAt {α : Type} (F : WF α) (x : α) : WF α := fun y => (propB [y = x] && (F y).1, (F y).2)
theorem fsound_each {P : Program} {f : FuncId} {α : Type} [ArgsE α] {F : WF α} (hgo : goFn P f = true) (h : ∀ x, (F x).1 = true → FSound P f (wFC (onlyAt F x))) : FSound P f (wFC F) := by
  refine ⟨hgo, fun args nid all r w lk blks eff hH ha hv he hp => ?_⟩
  simp only [wFC] at hv he
  split at he <;> (try (cases he; done))
  rename_i p x hd
  simp only [Option.some.injEq] at he; subst he
  simp only [Bool.and_eq_true] at hp
  refine (h x hp.2).2 args nid all r w lk blks ⟨false, p && (onlyAt F x x).1, (F x).2.1.mapId (· + nid), (F x).2.2.map fun q => (q.1 + nid, q.2.mapId (· + nid))⟩ hH ha hv ?_ ?_
  · simp only [wFC, hd]; rfl
  · show (p && (propB [x = x] && (F x).1)) = true
    rw [hp.1, hp.2, propB_ok.2 (show allE [x = x] from ⟨rfl, trivial⟩)]; rfl
theorem onlyAt_eq {α : Type} {F : WF α} {x y : α} (h : (onlyAt F x y).1 = true) : y = x ∧ (F y).1 = true := by
  simp only [onlyAt, Bool.and_eq_true] at h
  exact ⟨(propB_ok.1 h.1).1, h.2⟩
/-- The law of contracts, where the table hangs on the argument. -/
theorem fn_Wx {E : Env} (hE : E.Sound) {f : FuncId} {fn : Func} {c : Code} (hf : E.P.funcs[f]? = some fn) (hb : fn.body = some c) (hgo : goFn E.P f = true) {α : Type} [ArgsE α] {N : Nat} (hN : ArgsE.len α ≤ N) {H : Hnd} {F : WF α} (x : α)
    (hl : ∀ G : Ctx, G.rd = none → G.n = N → HndOk E G H c) (hw : WOk (F x).2.1 (F x).2.2) (hF : DenOk (EndOk N (F x).2.1 (F x).2.2) (execW E H fn (ArgsE.vals 0 x) (ArgsE.blks 0 x) N)) : FSound E.P f (wFC (onlyAt F x)) := by
  refine fn_W hE hf hb hgo hN (H := fun _ => H) ⟨fun y _ G h1 h2 => hl G h1 h2⟩ ⟨fun y hy => ?_⟩
  obtain ⟨rfl, _⟩ := onlyAt_eq hy
  exact ⟨hw, hF⟩
end Go.SX
namespace Go.Proofs.Ytdaanchagjamfaa
open Go.SX
/-- An argument that is nil. -/
structure NilV where
  u : Unit
instance : Enc NilV where
  enc _ := .nils
  dec v := match v with
    | .nils => some ⟨()⟩
    | _ => none
  ok v x h := by
    split at h <;> (try (cases h; done))
    exact ⟨fun _ => rfl, rfl⟩
def nilW : Rw Int := ⟨0, fun _ => 0⟩
def noM : Int → Bool := fun _ => false
def resV (f g : Rw Int) (e : Int) : JSt := resJ 8 (.tup [.slz 0 0 f.n (.of 0), .slz 1 0 g.n (.of 0), .int false .i64 e]) [rwN 3 0 f, rwN 3 1 g]
set_option maxRecDepth 100000 in
theorem pa_g (pb : List Prop → Bool) (p : Play) (tabs holes : Rw Edge) (m : Int) (f : Rw Int) : (execW (mkE Try.prog (tab_on pb (onU p tabs holes (rangeK Try.f26 0).1 (rangeK Try.f26 0).2 nilW noM 0 nilW m f))) (hnd (mkE Try.prog (tab_on pb (onU p tabs holes (rangeK Try.f26 0).1 (rangeK Try.f26 0).2 nilW noM 0 nilW m f))) 2) Try.f26 (ArgsE.vals 0 (p, tabs, holes, ())) (ArgsE.blks 0 (p, tabs, holes, ())) 8) =
    Tree.need (true) (Tree.br (!p.ok) (Tree.leaf (AV.tup [AV.nils, AV.nils, AV.int true IntKind.i64 (1 : Int)]) ([])) (Tree.need (decide (tabs.n ≤ tabs.n) && true && decide (tabs.n ≤
    (1000 : Nat))) (Tree.br (!allN (fun i => (tabs.get i).ok) tabs.n) (Tree.leaf (AV.tup [AV.nils, AV.nils, AV.int true IntKind.i64 (1 : Int)]) ([])) (Tree.need (decide (holes.n ≤
    holes.n) && true && decide (holes.n ≤ (1000 : Nat))) (Tree.br (!allN (fun i => (holes.get i).ok) holes.n) (Tree.leaf (AV.tup [AV.nils, AV.nils, AV.int true IntKind.i64 (1 : Int)])
    ([])) (Tree.br (decide ((↑tabs.n : Int) > (8 : Int))) (Tree.leaf (AV.tup [AV.nils, AV.nils, AV.int true IntKind.i64 (3 : Int)]) ([])) (Tree.br (decide ((↑holes.n : Int) > (8 :
    Int))) (Tree.leaf (AV.tup [AV.nils, AV.nils, AV.int true IntKind.i64 (3 : Int)]) ([])) (Tree.need (decide (tabs.n ≤ tabs.n) && (true && true) && decide (tabs.n ≤ (1000 : Nat)))
    (Tree.br (decide (idxOf (firstN (kindE (FnB.mk (1 : Int)) tabs) tabs.n (0 : Nat)) ≥ (0 : Int))) (Tree.leaf (AV.tup [AV.nils, AV.nils, AV.int true IntKind.i64 (6 : Int)]) ([]))
    (Tree.need (decide (holes.n ≤ holes.n) && (true && true) && decide (holes.n ≤ (1000 : Nat))) (Tree.br (decide (idxOf (firstN (kindE (FnB.mk (2 : Int)) holes) holes.n (0 : Nat)) ≥ (0
    : Int))) (Tree.leaf (AV.tup [AV.nils, AV.nils, AV.int true IntKind.i64 (6 : Int)]) ([])) (Tree.br ((↑tabs.n : Int) != (↑holes.n : Int)) (Tree.leaf (AV.tup [AV.nils, AV.nils, AV.int
    true IntKind.i64 (2 : Int)]) ([])) (Tree.need (pb ([(0 : Nat) = (0 : Nat), (0 : Nat) = (0 : Nat), (0 : Nat) = (0 : Nat), (0 : Nat) = (0 : Nat), (0 : Nat) = (0 : Nat), (0 : Nat) = (0
    : Nat), (0 : Nat) = (0 : Nat), (0 : Nat) = (0 : Nat), (0 : Nat) = (0 : Nat), (0 : Nat) = (0 : Nat), (0 : Nat) = (0 : Nat), (0 : Nat) = (0 : Nat), (0 : Nat) = (0 : Nat), (0 : Nat) =
    (0 : Nat), (0 : Nat) = (0 : Nat), (0 : Nat) = (0 : Nat), ([] : List MapEntry) = [], MapNil (AV.bool true false) noM fun i => AV.bool false (noM i), LoopState.ready =
    LoopState.ready, (none : Option Code) = none, Array.mk [(56 : Nat)] = Array.mk [(56 : Nat)], (rangeK Try.f26 0).1 = (rangeK Try.f26 0).1, (rangeK Try.f26 0).2 = (rangeK Try.f26
    0).2, p.length = p.length, p.slack = p.slack, p.loose = p.loose, p.damp.lo = p.damp.lo, p.damp.hi = p.damp.hi, (0 : Nat) = (0 : Nat), tabs.n = tabs.n, Cap.of (0 : Nat) = Cap.of (0 :
    Nat), (0 : Nat) = (0 : Nat), holes.n = holes.n, Cap.of (0 : Nat) = Cap.of (0 : Nat), (0 : Nat) = (0 : Nat), (0 : Nat) = (0 : Nat), (0 : Nat) = (0 : Nat), (0 : Nat) = (0 : Nat), (0 :
    Nat) = (0 : Nat), (0 : Nat) = (0 : Nat), (0 : Nat) = (0 : Nat), (0 : Nat) = (0 : Nat), Fn.func (68 : Nat) = Fn.func (68 : Nat), (0 : Nat) = (0 : Nat), (0 : Nat) = (0 : Nat), false =
    false, p.length = p.length, p.slack = p.slack, p.loose = p.loose, p.damp.lo = p.damp.lo, p.damp.hi = p.damp.hi, p.ok = p.ok, (!p.ok) = !p.ok, false = false, (0 : Nat) = (0 : Nat),
    tabs.n = tabs.n, Cap.of (0 : Nat) = Cap.of (0 : Nat), allN (fun i => (tabs.get i).ok) tabs.n = allN (fun i => (tabs.get i).ok) tabs.n, (!allN (fun i => (tabs.get i).ok) tabs.n) =
    !allN (fun i => (tabs.get i).ok) tabs.n, (!allN (fun i => (tabs.get i).ok) tabs.n) = !allN (fun i => (tabs.get i).ok) tabs.n, false = false, (0 : Nat) = (0 : Nat), holes.n =
    holes.n, Cap.of (0 : Nat) = Cap.of (0 : Nat), allN (fun i => (holes.get i).ok) holes.n = allN (fun i => (holes.get i).ok) holes.n, (!allN (fun i => (holes.get i).ok) holes.n) =
    !allN (fun i => (holes.get i).ok) holes.n, (!allN (fun i => (holes.get i).ok) holes.n) = !allN (fun i => (holes.get i).ok) holes.n, false = false, (0 : Nat) = (0 : Nat), tabs.n =
    tabs.n, Cap.of (0 : Nat) = Cap.of (0 : Nat), (↑tabs.n : Int) = (↑tabs.n : Int), decide ((↑tabs.n : Int) > (8 : Int)) = decide ((↑tabs.n : Int) > (8 : Int)), false = false, (0 : Nat)
    = (0 : Nat), holes.n = holes.n, Cap.of (0 : Nat) = Cap.of (0 : Nat), (↑holes.n : Int) = (↑holes.n : Int), decide ((↑holes.n : Int) > (8 : Int)) = decide ((↑holes.n : Int) > (8 :
    Int)), decide ((↑holes.n : Int) > (8 : Int)) = decide ((↑holes.n : Int) > (8 : Int)), false = false, (0 : Nat) = (0 : Nat), tabs.n = tabs.n, Cap.of (0 : Nat) = Cap.of (0 : Nat),
    Fn.func (68 : Nat) = Fn.func (68 : Nat), Fn.func (69 : Nat) = Fn.func (69 : Nat), (0 : Nat) = (0 : Nat), (0 : Nat) = (0 : Nat), decide (idxOf (firstN (kindE (FnB.mk (1 : Int)) tabs)
    tabs.n (0 : Nat)) ≥ (0 : Int)) = decide (idxOf (firstN (kindE (FnB.mk (1 : Int)) tabs) tabs.n (0 : Nat)) ≥ (0 : Int)), false = false, (0 : Nat) = (0 : Nat), holes.n = holes.n,
    Cap.of (0 : Nat) = Cap.of (0 : Nat), Fn.func (68 : Nat) = Fn.func (68 : Nat), Fn.func (69 : Nat) = Fn.func (69 : Nat), (0 : Nat) = (0 : Nat), (0 : Nat) = (0 : Nat), decide (idxOf
    (firstN (kindE (FnB.mk (2 : Int)) holes) holes.n (0 : Nat)) ≥ (0 : Int)) = decide (idxOf (firstN (kindE (FnB.mk (2 : Int)) holes) holes.n (0 : Nat)) ≥ (0 : Int)), decide (idxOf
    (firstN (kindE (FnB.mk (2 : Int)) holes) holes.n (0 : Nat)) ≥ (0 : Int)) = decide (idxOf (firstN (kindE (FnB.mk (2 : Int)) holes) holes.n (0 : Nat)) ≥ (0 : Int)), false = false, (0
    : Nat) = (0 : Nat), tabs.n = tabs.n, Cap.of (0 : Nat) = Cap.of (0 : Nat), (↑tabs.n : Int) = (↑tabs.n : Int), (0 : Nat) = (0 : Nat), holes.n = holes.n, Cap.of (0 : Nat) = Cap.of (0 :
    Nat), (↑holes.n : Int) = (↑holes.n : Int), ((↑tabs.n : Int) != (↑holes.n : Int)) = ((↑tabs.n : Int) != (↑holes.n : Int)), p.length = p.length, p.slack = p.slack, p.loose = p.loose,
    p.damp.lo = p.damp.lo, p.damp.hi = p.damp.hi, (0 : Nat) = (0 : Nat), tabs.n = tabs.n, Cap.of (0 : Nat) = Cap.of (0 : Nat), (0 : Nat) = (0 : Nat), holes.n = holes.n, Cap.of (0 : Nat)
    = Cap.of (0 : Nat), Fn.func (84 : Nat) = Fn.func (84 : Nat), (0 : Nat) = (0 : Nat), (0 : Nat) = (0 : Nat), (0 : Nat) = (0 : Nat), (0 : Nat) = (0 : Nat), (0 : Nat) = (0 : Nat), (0 :
    Nat) = (0 : Nat), (0 : Int) = (0 : Int), (0 : Int) = (0 : Int), (0 : Nat) = (0 : Nat), (0 : Nat) = (0 : Nat), Fn.func (85 : Nat) = Fn.func (85 : Nat), (0 : Nat) = (0 : Nat), (0 :
    Nat) = (0 : Nat), (0 : Nat) = (0 : Nat), (0 : Nat) = (0 : Nat), (0 : Nat) = (0 : Nat), (0 : Nat) = (0 : Nat), (0 : Nat) = (0 : Nat), (0 : Nat) = (0 : Nat), (0 : Nat) = (0 : Nat), (0
    : Nat) = (0 : Nat), (0 : Nat) = (0 : Nat), (0 : Nat) = (0 : Nat), (0 : Nat) = (0 : Nat), (0 : Nat) = (0 : Nat), (0 : Nat) = (0 : Nat), holes.n = holes.n, Cap.of (0 : Nat) = Cap.of
    (0 : Nat), (0 : Nat) = (0 : Nat), tabs.n = tabs.n, Cap.of (0 : Nat) = Cap.of (0 : Nat), p.length = p.length, p.slack = p.slack, p.loose = p.loose, p.damp.lo = p.damp.lo, p.damp.hi =
    p.damp.hi, tabs.n ≤ tabs.n, RowsEq (7 : Nat) tabs.n (fun i => RowT.enc (tabs.get i)) fun i => RowT.enc (tabs.get i), holes.n ≤ holes.n, RowsEq (7 : Nat) holes.n (fun i => RowT.enc
    (holes.get i)) fun i => RowT.enc (holes.get i)])) (Tree.br (m == (0 : Int)) (Tree.leaf (AV.tup [AV.nils, AV.nils, AV.int true IntKind.i64 (4 : Int)]) ([])) (Tree.leaf (AV.tup
    [AV.slz (585 : Nat) (0 : Nat) f.n (Cap.of (0 : Nat)), AV.nils, AV.int true IntKind.i64 (0 : Int)]) ([((585 : Nat), Blk.rowz true (3 : Nat) [CK.int IntKind.i64] f.n fun i => RowT.enc
    (f.get i))])))))))))))))))) := by kernel_rfl
set_option maxRecDepth 100000 in
theorem pa_s (pb : List Prop → Bool) (p : Play) (tabs holes : Rw Edge) (f g : Rw Int) : (execW (mkE Try.prog (tab_on pb (onS p tabs holes (rangeK Try.f26 0).1 (rangeK Try.f26 0).2 nilW noM 0 nilW f g))) (hnd (mkE Try.prog (tab_on pb (onS p tabs holes (rangeK Try.f26 0).1 (rangeK Try.f26 0).2 nilW noM 0 nilW f g))) 2) Try.f26 (ArgsE.vals 0 (p, tabs, holes, ())) (ArgsE.blks 0 (p, tabs, holes, ())) 8) =
    Tree.need (true) (Tree.br (!p.ok) (Tree.leaf (AV.tup [AV.nils, AV.nils, AV.int true IntKind.i64 (1 : Int)]) ([])) (Tree.need (decide (tabs.n ≤ tabs.n) && true && decide (tabs.n ≤
    (1000 : Nat))) (Tree.br (!allN (fun i => (tabs.get i).ok) tabs.n) (Tree.leaf (AV.tup [AV.nils, AV.nils, AV.int true IntKind.i64 (1 : Int)]) ([])) (Tree.need (decide (holes.n ≤
    holes.n) && true && decide (holes.n ≤ (1000 : Nat))) (Tree.br (!allN (fun i => (holes.get i).ok) holes.n) (Tree.leaf (AV.tup [AV.nils, AV.nils, AV.int true IntKind.i64 (1 : Int)])
    ([])) (Tree.br (decide ((↑tabs.n : Int) > (8 : Int))) (Tree.leaf (AV.tup [AV.nils, AV.nils, AV.int true IntKind.i64 (3 : Int)]) ([])) (Tree.br (decide ((↑holes.n : Int) > (8 :
    Int))) (Tree.leaf (AV.tup [AV.nils, AV.nils, AV.int true IntKind.i64 (3 : Int)]) ([])) (Tree.need (decide (tabs.n ≤ tabs.n) && (true && true) && decide (tabs.n ≤ (1000 : Nat)))
    (Tree.br (decide (idxOf (firstN (kindE (FnB.mk (1 : Int)) tabs) tabs.n (0 : Nat)) ≥ (0 : Int))) (Tree.leaf (AV.tup [AV.nils, AV.nils, AV.int true IntKind.i64 (6 : Int)]) ([]))
    (Tree.need (decide (holes.n ≤ holes.n) && (true && true) && decide (holes.n ≤ (1000 : Nat))) (Tree.br (decide (idxOf (firstN (kindE (FnB.mk (2 : Int)) holes) holes.n (0 : Nat)) ≥ (0
    : Int))) (Tree.leaf (AV.tup [AV.nils, AV.nils, AV.int true IntKind.i64 (6 : Int)]) ([])) (Tree.br ((↑tabs.n : Int) != (↑holes.n : Int)) (Tree.leaf (AV.tup [AV.nils, AV.nils, AV.int
    true IntKind.i64 (2 : Int)]) ([])) (Tree.need (pb ([(0 : Nat) = (0 : Nat), (0 : Nat) = (0 : Nat), (0 : Nat) = (0 : Nat), (0 : Nat) = (0 : Nat), (0 : Nat) = (0 : Nat), (0 : Nat) = (0
    : Nat), (0 : Nat) = (0 : Nat), (0 : Nat) = (0 : Nat), (0 : Nat) = (0 : Nat), (0 : Nat) = (0 : Nat), (0 : Nat) = (0 : Nat), (0 : Nat) = (0 : Nat), (0 : Nat) = (0 : Nat), (0 : Nat) =
    (0 : Nat), (0 : Nat) = (0 : Nat), (0 : Nat) = (0 : Nat), ([] : List MapEntry) = [], MapNil (AV.bool true false) noM fun i => AV.bool false (noM i), LoopState.ready =
    LoopState.ready, (none : Option Code) = none, Array.mk [(56 : Nat)] = Array.mk [(56 : Nat)], (rangeK Try.f26 0).1 = (rangeK Try.f26 0).1, (rangeK Try.f26 0).2 = (rangeK Try.f26
    0).2, p.length = p.length, p.slack = p.slack, p.loose = p.loose, p.damp.lo = p.damp.lo, p.damp.hi = p.damp.hi, (0 : Nat) = (0 : Nat), tabs.n = tabs.n, Cap.of (0 : Nat) = Cap.of (0 :
    Nat), (0 : Nat) = (0 : Nat), holes.n = holes.n, Cap.of (0 : Nat) = Cap.of (0 : Nat), (0 : Nat) = (0 : Nat), (0 : Nat) = (0 : Nat), (0 : Nat) = (0 : Nat), (0 : Nat) = (0 : Nat), (0 :
    Nat) = (0 : Nat), (0 : Nat) = (0 : Nat), (0 : Nat) = (0 : Nat), (0 : Nat) = (0 : Nat), Fn.func (68 : Nat) = Fn.func (68 : Nat), (0 : Nat) = (0 : Nat), (0 : Nat) = (0 : Nat), false =
    false, p.length = p.length, p.slack = p.slack, p.loose = p.loose, p.damp.lo = p.damp.lo, p.damp.hi = p.damp.hi, p.ok = p.ok, (!p.ok) = !p.ok, false = false, (0 : Nat) = (0 : Nat),
    tabs.n = tabs.n, Cap.of (0 : Nat) = Cap.of (0 : Nat), allN (fun i => (tabs.get i).ok) tabs.n = allN (fun i => (tabs.get i).ok) tabs.n, (!allN (fun i => (tabs.get i).ok) tabs.n) =
    !allN (fun i => (tabs.get i).ok) tabs.n, (!allN (fun i => (tabs.get i).ok) tabs.n) = !allN (fun i => (tabs.get i).ok) tabs.n, false = false, (0 : Nat) = (0 : Nat), holes.n =
    holes.n, Cap.of (0 : Nat) = Cap.of (0 : Nat), allN (fun i => (holes.get i).ok) holes.n = allN (fun i => (holes.get i).ok) holes.n, (!allN (fun i => (holes.get i).ok) holes.n) =
    !allN (fun i => (holes.get i).ok) holes.n, (!allN (fun i => (holes.get i).ok) holes.n) = !allN (fun i => (holes.get i).ok) holes.n, false = false, (0 : Nat) = (0 : Nat), tabs.n =
    tabs.n, Cap.of (0 : Nat) = Cap.of (0 : Nat), (↑tabs.n : Int) = (↑tabs.n : Int), decide ((↑tabs.n : Int) > (8 : Int)) = decide ((↑tabs.n : Int) > (8 : Int)), false = false, (0 : Nat)
    = (0 : Nat), holes.n = holes.n, Cap.of (0 : Nat) = Cap.of (0 : Nat), (↑holes.n : Int) = (↑holes.n : Int), decide ((↑holes.n : Int) > (8 : Int)) = decide ((↑holes.n : Int) > (8 :
    Int)), decide ((↑holes.n : Int) > (8 : Int)) = decide ((↑holes.n : Int) > (8 : Int)), false = false, (0 : Nat) = (0 : Nat), tabs.n = tabs.n, Cap.of (0 : Nat) = Cap.of (0 : Nat),
    Fn.func (68 : Nat) = Fn.func (68 : Nat), Fn.func (69 : Nat) = Fn.func (69 : Nat), (0 : Nat) = (0 : Nat), (0 : Nat) = (0 : Nat), decide (idxOf (firstN (kindE (FnB.mk (1 : Int)) tabs)
    tabs.n (0 : Nat)) ≥ (0 : Int)) = decide (idxOf (firstN (kindE (FnB.mk (1 : Int)) tabs) tabs.n (0 : Nat)) ≥ (0 : Int)), false = false, (0 : Nat) = (0 : Nat), holes.n = holes.n,
    Cap.of (0 : Nat) = Cap.of (0 : Nat), Fn.func (68 : Nat) = Fn.func (68 : Nat), Fn.func (69 : Nat) = Fn.func (69 : Nat), (0 : Nat) = (0 : Nat), (0 : Nat) = (0 : Nat), decide (idxOf
    (firstN (kindE (FnB.mk (2 : Int)) holes) holes.n (0 : Nat)) ≥ (0 : Int)) = decide (idxOf (firstN (kindE (FnB.mk (2 : Int)) holes) holes.n (0 : Nat)) ≥ (0 : Int)), decide (idxOf
    (firstN (kindE (FnB.mk (2 : Int)) holes) holes.n (0 : Nat)) ≥ (0 : Int)) = decide (idxOf (firstN (kindE (FnB.mk (2 : Int)) holes) holes.n (0 : Nat)) ≥ (0 : Int)), false = false, (0
    : Nat) = (0 : Nat), tabs.n = tabs.n, Cap.of (0 : Nat) = Cap.of (0 : Nat), (↑tabs.n : Int) = (↑tabs.n : Int), (0 : Nat) = (0 : Nat), holes.n = holes.n, Cap.of (0 : Nat) = Cap.of (0 :
    Nat), (↑holes.n : Int) = (↑holes.n : Int), ((↑tabs.n : Int) != (↑holes.n : Int)) = ((↑tabs.n : Int) != (↑holes.n : Int)), p.length = p.length, p.slack = p.slack, p.loose = p.loose,
    p.damp.lo = p.damp.lo, p.damp.hi = p.damp.hi, (0 : Nat) = (0 : Nat), tabs.n = tabs.n, Cap.of (0 : Nat) = Cap.of (0 : Nat), (0 : Nat) = (0 : Nat), holes.n = holes.n, Cap.of (0 : Nat)
    = Cap.of (0 : Nat), Fn.func (84 : Nat) = Fn.func (84 : Nat), (0 : Nat) = (0 : Nat), (0 : Nat) = (0 : Nat), (0 : Nat) = (0 : Nat), (0 : Nat) = (0 : Nat), (0 : Nat) = (0 : Nat), (0 :
    Nat) = (0 : Nat), (0 : Int) = (0 : Int), (0 : Int) = (0 : Int), (0 : Nat) = (0 : Nat), (0 : Nat) = (0 : Nat), Fn.func (85 : Nat) = Fn.func (85 : Nat), (0 : Nat) = (0 : Nat), (0 :
    Nat) = (0 : Nat), (0 : Nat) = (0 : Nat), (0 : Nat) = (0 : Nat), (0 : Nat) = (0 : Nat), (0 : Nat) = (0 : Nat), (0 : Nat) = (0 : Nat), (0 : Nat) = (0 : Nat), (0 : Nat) = (0 : Nat), (0
    : Nat) = (0 : Nat), (0 : Nat) = (0 : Nat), (0 : Nat) = (0 : Nat), (0 : Nat) = (0 : Nat), (0 : Nat) = (0 : Nat), (0 : Nat) = (0 : Nat), holes.n = holes.n, Cap.of (0 : Nat) = Cap.of
    (0 : Nat), (0 : Nat) = (0 : Nat), tabs.n = tabs.n, Cap.of (0 : Nat) = Cap.of (0 : Nat), p.length = p.length, p.slack = p.slack, p.loose = p.loose, p.damp.lo = p.damp.lo, p.damp.hi =
    p.damp.hi, tabs.n ≤ tabs.n, RowsEq (7 : Nat) tabs.n (fun i => RowT.enc (tabs.get i)) fun i => RowT.enc (tabs.get i), holes.n ≤ holes.n, RowsEq (7 : Nat) holes.n (fun i => RowT.enc
    (holes.get i)) fun i => RowT.enc (holes.get i)])) (Tree.leaf (AV.tup [AV.slz (585 : Nat) (0 : Nat) f.n (Cap.of (0 : Nat)), AV.slz (586 : Nat) (0 : Nat) g.n (Cap.of (0 : Nat)),
    AV.int false IntKind.i64 (0 : Int)]) ([((585 : Nat), Blk.rowz true (3 : Nat) [CK.int IntKind.i64] f.n fun i => RowT.enc (f.get i)), ((586 : Nat), Blk.rowz true (3 : Nat) [CK.int
    IntKind.i64] g.n fun i => RowT.enc (g.get i))]))))))))))))))) := by kernel_rfl
def clNF : NilV × Unit → Bool × AV := fun | (x, _) => (true, .nils)
def clNC : FC := pureFC (pfOf clNF)
set_option maxRecDepth 100000 in
theorem clN_t (x : NilV) : execFn (mkE Try.prog tab_conk) (hnd (mkE Try.prog tab_conk) 0) false Try.f86 (EncL.enc ((x, ()) : NilV × Unit)) [] 0 =
    Tree.leaf (AV.nils) ([]) := by kernel_rfl
theorem clN_s : FSound Try.prog 86 clNC := by
  refine plain_fn tab_conk_ok 0 Try.func86 (by kernel_rfl) (by kernel_rfl) ?_
  rintro ⟨x, ⟨⟩⟩ hp
  rw [clN_t x]
  simp only [clNF, Tree.den, AV.same, AV.sameL, and_true, true_and] at hp ⊢
def tab_clN : Tab := addF tab_conk 86 clNC
theorem tab_clN_ok : TabOk tab_clN := tab_conk_ok.add clN_s
set_option maxRecDepth 100000 in
theorem pa_0 (p : Play) (tabs holes : Rw Edge) : (execW (mkE Try.prog tab_clN) (hnd (mkE Try.prog tab_clN) 5) Try.f26 (ArgsE.vals 0 (p, tabs, holes, ())) (ArgsE.blks 0 (p, tabs, holes, ())) 8) =
    Tree.need (true) (Tree.br (!p.ok) (Tree.leaf (AV.tup [AV.nils, AV.nils, AV.int true IntKind.i64 (1 : Int)]) ([])) (Tree.need (decide (tabs.n ≤ tabs.n) && true && decide (tabs.n ≤ (1000 : Nat))) (Tree.br (!allN (fun i => (tabs.get i).ok) tabs.n) (Tree.leaf (AV.tup [AV.nils, AV.nils, AV.int true IntKind.i64 (1 : Int)]) ([])) (Tree.need (decide (holes.n ≤ holes.n) && true && decide (holes.n ≤ (1000 : Nat))) (Tree.br (!allN (fun i => (holes.get i).ok) holes.n) (Tree.leaf (AV.tup [AV.nils, AV.nils, AV.int true IntKind.i64 (1 : Int)]) ([])) (Tree.br (decide ((↑tabs.n : Int) > (8 : Int))) (Tree.leaf (AV.tup [AV.nils, AV.nils, AV.int true IntKind.i64 (3 : Int)]) ([])) (Tree.br (decide ((↑holes.n : Int) > (8 : Int))) (Tree.leaf (AV.tup [AV.nils, AV.nils, AV.int true IntKind.i64 (3 : Int)]) ([])) (Tree.need (decide (tabs.n ≤ tabs.n) && (true && true) && decide (tabs.n ≤ (1000 : Nat))) (Tree.br (decide (idxOf (firstN (kindE (FnB.mk (1 : Int)) tabs) tabs.n (0 : Nat)) ≥ (0 : Int))) (Tree.leaf (AV.tup [AV.nils, AV.nils, AV.int true IntKind.i64 (6 : Int)]) ([])) (Tree.need (decide (holes.n ≤ holes.n) && (true && true) && decide (holes.n ≤ (1000 : Nat))) (Tree.br (decide (idxOf (firstN (kindE (FnB.mk (2 : Int)) holes) holes.n (0 : Nat)) ≥ (0 : Int))) (Tree.leaf (AV.tup [AV.nils, AV.nils, AV.int true IntKind.i64 (6 : Int)]) ([])) (Tree.br ((↑tabs.n : Int) != (↑holes.n : Int)) (Tree.leaf (AV.tup [AV.nils, AV.nils, AV.int true IntKind.i64 (2 : Int)]) ([])) (Tree.br ((0 : Int) == (↑tabs.n : Int)) (Tree.leaf (AV.tup [AV.nils, AV.nils, AV.int true IntKind.i64 (0 : Int)]) ([])) (Tree.br (decide ((0 : Int) < (↑holes.n : Int))) (Tree.need (decide ((0 : Int) ≤ (0 : Int) ∧ (0 : Int) < (↑holes.n : Int)) && decide (holes.n ≤ holes.n)) (Tree.need (decide (Int.toNat (0 : Int) < holes.n)) (Tree.need (decide ((0 : Int) ≤ (0 : Int) ∧ (0 : Int) < (↑tabs.n : Int)) && decide (tabs.n ≤ tabs.n)) (Tree.need (decide (Int.toNat (0 : Int) < tabs.n)) (Tree.need (okP p (tabs.get (Int.toNat (0 : Int))) (holes.get (Int.toNat (0 : Int)))) (Tree.br (fitsF p (tabs.get (Int.toNat (0 : Int))) (holes.get (Int.toNat (0 : Int))) == (0 : Int)) (Tree.br (decide ((1 : Int) < (↑holes.n : Int))) (Tree.need (decide ((0 : Int) ≤ (1 : Int) ∧ (1 : Int) < (↑holes.n : Int)) && decide (holes.n ≤ holes.n)) (Tree.need (decide (Int.toNat (1 : Int) < holes.n)) (Tree.need (decide ((0 : Int) ≤ (0 : Int) ∧ (0 : Int) < (↑tabs.n : Int)) && decide (tabs.n ≤ tabs.n)) (Tree.need (decide (Int.toNat (0 : Int) < tabs.n)) (Tree.need (okP p (tabs.get (Int.toNat (0 : Int))) (holes.get (Int.toNat (1 : Int)))) (Tree.br (fitsF p (tabs.get (Int.toNat (0 : Int))) (holes.get (Int.toNat (1 : Int))) == (0 : Int)) (Tree.fail ("a loop")) (Tree.fail ("a call without a contract")))))))) (Tree.leaf (AV.tup [AV.nils, AV.nils, AV.int true IntKind.i64 (4 : Int)]) ([]))) (Tree.br ((↑(1 : Nat) : Int) == (↑tabs.n : Int)) (Tree.fail ("fit.go:258")) (Tree.fail ("a loop"))))))))) (Tree.leaf (AV.tup [AV.nils, AV.nils, AV.int true IntKind.i64 (4 : Int)]) ([])))))))))))))))) := by kernel_rfl
set_option maxRecDepth 100000 in
theorem pr_e (e e' : Int) (f g : Rw Int) : subE 8 [.tup [.nils, .nils, .int true .i64 e]] [] (resV f g e') = (
    some [f.n = (0 : Nat), g.n = (0 : Nat), e = e', f.n = (0 : Nat), g.n = (0 : Nat)]) := by kernel_rfl
set_option maxRecDepth 100000 in
theorem pr_g (f f' g' : Rw Int) (e : Int) : subE 8 [(AV.tup [AV.slz (585 : Nat) (0 : Nat) f.n (Cap.of (0 : Nat)), AV.nils, AV.int true IntKind.i64 (0 : Int)])] ([((585 : Nat), Blk.rowz true (3 : Nat) [CK.int IntKind.i64] f.n fun i => RowT.enc (f.get i))]) (resV f' g' e) = (
    some [(0 : Nat) = (0 : Nat), f.n = f'.n, Cap.of (0 : Nat) = Cap.of (0 : Nat), g'.n = (0 : Nat), (0 : Int) = e, f'.n ≤ f.n, RowsEq (1 : Nat) f'.n (fun i => RowT.enc (f.get i)) fun i
    => RowT.enc (f'.get i), g'.n = (0 : Nat)]) := by kernel_rfl
set_option maxRecDepth 100000 in
theorem pr_s (f g f' g' : Rw Int) (e : Int) : subE 8 [(AV.tup [AV.slz (585 : Nat) (0 : Nat) f.n (Cap.of (0 : Nat)), AV.slz (586 : Nat) (0 : Nat) g.n (Cap.of (0 : Nat)), AV.int false IntKind.i64 (0 : Int)])] ([((585 : Nat), Blk.rowz true (3 : Nat) [CK.int IntKind.i64] f.n fun i => RowT.enc (f.get i)), ((586 : Nat), Blk.rowz true (3 : Nat) [CK.int IntKind.i64] g.n fun i => RowT.enc (g.get i))]) (resV f' g' e) = (
    some [(0 : Nat) = (0 : Nat), f.n = f'.n, Cap.of (0 : Nat) = Cap.of (0 : Nat), (0 : Nat) = (0 : Nat), g.n = g'.n, Cap.of (0 : Nat) = Cap.of (0 : Nat), (0 : Int) = e, f'.n ≤ f.n,
    RowsEq (1 : Nat) f'.n (fun i => RowT.enc (f.get i)) fun i => RowT.enc (f'.get i), g'.n ≤ g.n, RowsEq (1 : Nat) g'.n (fun i => RowT.enc (g.get i)) fun i => RowT.enc (g'.get i)]) := by kernel_rfl
def badK (j : Int) (l : Rw Edge) : Bool := decide (idxOf (firstN (kindE (FnB.mk j) l) l.n 0) ≥ 0)
def pairsR (p : Play) (tabs holes : Rw Edge) : PRes := onP p tabs holes tabs.n nilW noM 0 nilW
def pairsO : PRes → Rw Int × Rw Int × Int
  | .go m f => cond (m == 0) (nilW, nilW, 4) (f, nilW, 0)
  | .stop f g => (f, g, 0)
def pairsV (p : Play) (tabs holes : Rw Edge) : Rw Int × Rw Int × Int :=
  cond (!p.ok) (nilW, nilW, 1) (cond (!allN (fun i => (tabs.get i).ok) tabs.n) (nilW, nilW, 1) (cond (!allN (fun i => (holes.get i).ok) holes.n) (nilW, nilW, 1)
    (cond (decide ((tabs.n : Int) > 8)) (nilW, nilW, 3) (cond (decide ((holes.n : Int) > 8)) (nilW, nilW, 3) (cond (badK 1 tabs) (nilW, nilW, 6) (cond (badK 2 holes) (nilW, nilW, 6) (cond ((tabs.n : Int) != holes.n) (nilW, nilW, 2) (pairsO (pairsR p tabs holes)))))))))
def pairsF : WF (Play × Rw Edge × Rw Edge × Unit) := fun | (p, tabs, holes, _) => (decide (tabs.n ≤ 1000 ∧ holes.n ≤ 1000), .tup [.slz 0 0 (pairsV p tabs holes).1.n (.of 0), .slz 1 0 (pairsV p tabs holes).2.1.n (.of 0), .int false .i64 (pairsV p tabs holes).2.2], [rwN 3 0 (pairsV p tabs holes).1, rwN 3 1 (pairsV p tabs holes).2.1])
def pairsC : FC := wFC pairsF
theorem pairs_new (p : Play) (tabs holes : Rw Edge) : WOk (pairsF (p, tabs, holes, ())).2.1 (pairsF (p, tabs, holes, ())).2.2 := ⟨rfl, by simp [pairsF, rwN, Blk.own, Blk.all], rfl⟩
theorem pairs_no {p : Play} {tabs holes : Rw Edge} {e : Int} (h : pairsV p tabs holes = (nilW, nilW, e)) : (Tree.leaf (AV.tup [AV.nils, AV.nils, AV.int true IntKind.i64 e]) []).den (EndOk 8 (pairsF (p, tabs, holes, ())).2.1 (pairsF (p, tabs, holes, ())).2.2) := by
  simp only [pairsF, h]
  refine ⟨rfl, rfl, _, pr_e e e nilW nilW, ?_⟩
  repeat' first | exact trivial | with_reducible rfl | exact (rfl : nilW.n = 0) | refine And.intro ?_ ?_
structure GoodP (p : Play) (tabs holes : Rw Edge) : Prop where
  ok : p.ok = true
  okT : allN (fun i => (tabs.get i).ok) tabs.n = true
  okH : allN (fun i => (holes.get i).ok) holes.n = true
  t8 : tabs.n ≤ 8
  h8 : holes.n ≤ 8
  kT : badK 1 tabs = false
  kH : badK 2 holes = false
  eq : tabs.n = holes.n
theorem pairs_good {p : Play} {tabs holes : Rw Edge} (h : GoodP p tabs holes) : pairsV p tabs holes = pairsO (pairsR p tabs holes) := by
  obtain ⟨h1, h2, h3, h4, h5, h6, h7, h8⟩ := h
  have e1 : decide ((tabs.n : Int) > 8) = false := by simp; omega
  have e2 : decide ((holes.n : Int) > 8) = false := by simp; omega
  have e3 : ((tabs.n : Int) != holes.n) = false := by rw [h8]; simp
  simp only [pairsV, h1, h2, h3, h6, h7, e1, e2, e3, Bool.not_true, cond_false]
end Go.Proofs.Ytdaanchagjamfaa
/- Pairs: its contract. -/
namespace Go.Proofs.Ytdaanchagjamfaa
open Go.SX
abbrev noL (e : Int) : Tree := .leaf (.tup [.nils, .nils, .int true .i64 e]) []
theorem pairs_pre {p : Play} {tabs holes : Rw Edge} {T : Tree} {Q : AV → List (Nat × Blk) → Prop} (hc : tabs.n ≤ 1000 ∧ holes.n ≤ 1000) (no : ∀ e, pairsV p tabs holes = (nilW, nilW, e) → (noL e).den Q) (fin : GoodP p tabs holes → T.den Q) :
    (Tree.need true (.br (!p.ok) (noL 1) (.need (decide (tabs.n ≤ tabs.n) && true && decide (tabs.n ≤ 1000)) (.br (!allN (fun i => (tabs.get i).ok) tabs.n) (noL 1) (.need (decide (holes.n ≤ holes.n) && true && decide (holes.n ≤ 1000)) (.br (!allN (fun i => (holes.get i).ok) holes.n) (noL 1)
      (.br (decide ((tabs.n : Int) > 8)) (noL 3) (.br (decide ((holes.n : Int) > 8)) (noL 3) (.need (decide (tabs.n ≤ tabs.n) && (true && true) && decide (tabs.n ≤ 1000)) (.br (badK 1 tabs) (noL 6) (.need (decide (holes.n ≤ holes.n) && (true && true) && decide (holes.n ≤ 1000)) (.br (badK 2 holes) (noL 6)
      (.br ((tabs.n : Int) != holes.n) (noL 2) T))))))))))))).den Q := by
  have b1 : decide (tabs.n ≤ tabs.n) = true := by simp
  have b2 : decide (holes.n ≤ holes.n) = true := by simp
  have b3 : decide (tabs.n ≤ 1000) = true := by simp; omega
  have b4 : decide (holes.n ≤ 1000) = true := by simp; omega
  refine den_need rfl (den_br (fun h => no 1 (by simp only [pairsV, h, cond_true])) (fun a1 => den_need (by rw [b1, b3]; rfl) (den_br (fun h => no 1 (by simp only [pairsV, a1, h, cond_true, cond_false])) (fun a2 => den_need (by rw [b2, b4]; rfl) (den_br (fun h => no 1 (by simp only [pairsV, a1, a2, h, cond_true, cond_false])) (fun a3 => ?_))))))
  refine den_br (fun h => no 3 (by simp only [pairsV, a1, a2, a3, h, cond_true, cond_false])) (fun a4 => den_br (fun h => no 3 (by simp only [pairsV, a1, a2, a3, a4, h, cond_true, cond_false])) (fun a5 => ?_))
  refine den_need (by rw [b1, b3]; rfl) (den_br (fun h => no 6 (by simp only [pairsV, a1, a2, a3, a4, a5, h, cond_true, cond_false])) (fun a6 => den_need (by rw [b2, b4]; rfl) (den_br (fun h => no 6 (by simp only [pairsV, a1, a2, a3, a4, a5, a6, h, cond_true, cond_false])) (fun a7 => ?_))))
  refine den_br (fun h => no 2 (by simp only [pairsV, a1, a2, a3, a4, a5, a6, a7, h, cond_true, cond_false])) (fun a8 => fin ⟨by simpa using a1, by simpa using a2, by simpa using a3, ?_, ?_, a6, a7, ?_⟩)
  · have := of_decide_eq_false a4; omega
  · have := of_decide_eq_false a5; omega
  · simp only [bne_eq_false_iff_eq] at a8; omega
theorem mapNil_no : MapNil (AV.bool true false) noM fun i => AV.bool false (noM i) := ⟨rfl, fun _ => rfl, fun _ => ⟨fun _ => rfl, rfl⟩⟩
set_option maxRecDepth 100000 in
theorem pairs_0 {p : Play} {tabs holes : Rw Edge} (hc : tabs.n ≤ 1000 ∧ holes.n ≤ 1000) (h : GoodP p tabs holes → tabs.n = 0) : FSound Try.prog 26 (wFC (onlyAt pairsF (p, tabs, holes, ()))) := by
  refine fn_Wx (c := bodyOf Try.f26) (E := mkE Try.prog tab_clN) (H := hnd (mkE Try.prog tab_clN) 5) (mkE_ok tab_clN_ok) Try.func26 (by kernel_rfl) (by kernel_rfl) (N := 8) (by decide) (p, tabs, holes, ()) (fun G h1 _ => hnd_hndOk (mkE_ok tab_clN_ok) 5 G _ h1) (pairs_new p tabs holes) ⟨?_⟩
  refine den_of (pa_0 p tabs holes) ?_
  refine pairs_pre hc (fun e he => pairs_no he) (fun hg => ?_)
  have h0 := h hg
  have hv : pairsV p tabs holes = (nilW, nilW, 0) := by
    rw [pairs_good hg]
    simp only [pairsR, h0]
    rfl
  exact den_br (fun _ => pairs_no hv) (fun hn => by rw [h0] at hn; simp at hn)
set_option maxRecDepth 100000 in
theorem pairs_s {p : Play} {tabs holes : Rw Edge} (hc : tabs.n ≤ 1000 ∧ holes.n ≤ 1000) : FSound Try.prog 26 (wFC (onlyAt pairsF (p, tabs, holes, ()))) := by
  by_cases hg : GoodP p tabs holes ∧ 0 < tabs.n
  · obtain ⟨hg, hpos⟩ := hg
    have hP : PreP p tabs holes := ⟨hg.ok, hg.okT, hg.okH, hpos, hg.t8, hg.h8⟩
    have hS := on_s hP tabs.n nilW noM 0 nilW (Nat.zero_add _) (.inl rfl)
    have hv := pairs_good hg
    unfold pairsR at hv
    generalize onP p tabs holes tabs.n nilW noM 0 nilW = r at hS hv
    cases r with
    | go m f =>
      have hE : (mkE Try.prog (tab_on propB (onU p tabs holes (rangeK Try.f26 0).1 (rangeK Try.f26 0).2 nilW noM 0 nilW m f))).Sound := mkE_ok (tab_cl_ok.add hS)
      refine fn_Wx (c := bodyOf Try.f26) (E := mkE Try.prog (tab_on propB (onU p tabs holes (rangeK Try.f26 0).1 (rangeK Try.f26 0).2 nilW noM 0 nilW m f))) (H := hnd (mkE Try.prog (tab_on propB (onU p tabs holes (rangeK Try.f26 0).1 (rangeK Try.f26 0).2 nilW noM 0 nilW m f))) 2) hE Try.func26 (by kernel_rfl) (by kernel_rfl) (N := 8) (by decide) (p, tabs, holes, ()) (fun G h1 _ => hnd_hndOk hE 2 G _ h1) (pairs_new p tabs holes) ⟨?_⟩
      refine den_of (pa_g propB p tabs holes m f) ?_
      refine pairs_pre hc (fun e he => pairs_no he) (fun _ => ?_)
      refine den_need (propB_ok.2 ?_) (den_br (fun h0 => ?_) (fun h0 => ?_))
      · repeat' first | exact trivial | with_reducible rfl | exact Nat.le_refl _ | exact RowsEq.refl _ _ _ | exact mapNil_no | refine And.intro ?_ ?_
      · refine pairs_no ?_
        rw [hv]; simp only [pairsO, h0, cond_true]
      · simp only [pairsO, h0, cond_false] at hv
        simp only [pairsF, hv]
        refine ⟨rfl, rfl, _, pr_g f f nilW 0, ?_⟩
        repeat' first | exact trivial | with_reducible rfl | exact Nat.le_refl _ | exact RowsEq.refl _ _ _ | exact (rfl : nilW.n = 0) | refine And.intro ?_ ?_
    | stop f g =>
      have hE : (mkE Try.prog (tab_on propB (onS p tabs holes (rangeK Try.f26 0).1 (rangeK Try.f26 0).2 nilW noM 0 nilW f g))).Sound := mkE_ok (tab_cl_ok.add hS)
      refine fn_Wx (c := bodyOf Try.f26) (E := mkE Try.prog (tab_on propB (onS p tabs holes (rangeK Try.f26 0).1 (rangeK Try.f26 0).2 nilW noM 0 nilW f g))) (H := hnd (mkE Try.prog (tab_on propB (onS p tabs holes (rangeK Try.f26 0).1 (rangeK Try.f26 0).2 nilW noM 0 nilW f g))) 2) hE Try.func26 (by kernel_rfl) (by kernel_rfl) (N := 8) (by decide) (p, tabs, holes, ()) (fun G h1 _ => hnd_hndOk hE 2 G _ h1) (pairs_new p tabs holes) ⟨?_⟩
      refine den_of (pa_s propB p tabs holes f g) ?_
      refine pairs_pre hc (fun e he => pairs_no he) (fun _ => ?_)
      refine den_need (propB_ok.2 ?_) ?_
      · repeat' first | exact trivial | with_reducible rfl | exact Nat.le_refl _ | exact RowsEq.refl _ _ _ | exact mapNil_no | refine And.intro ?_ ?_
      · simp only [pairsO] at hv
        simp only [pairsF, hv]
        refine ⟨rfl, rfl, _, pr_s f g f g 0, ?_⟩
        repeat' first | exact trivial | with_reducible rfl | exact Nat.le_refl _ | exact RowsEq.refl _ _ _ | refine And.intro ?_ ?_
  · exact pairs_0 hc (fun h => by
      rcases Nat.eq_zero_or_pos tabs.n with e | e
      · exact e
      · exact absurd ⟨h, e⟩ hg)
theorem pairs_ok : FSound Try.prog 26 pairsC := fsound_each (by kernel_rfl) fun | (p, tabs, holes, ()), h => pairs_s (of_decide_eq_true h)
def tab_pairs : Tab := addF tab_cl 26 pairsC
theorem tab_pairs_ok : TabOk tab_pairs := tab_cl_ok.add pairs_ok
end Go.Proofs.Ytdaanchagjamfaa
/- The law FitLists. -/
namespace Go.Proofs.Ytdaanchagjamfaa
open Go.SX

/-- A short number, as it comes in. -/
structure U8n where
  n : Int
instance : Enc U8n where
  enc x := .int false .u8 x.n
  dec v := match v with
    | .int _ .u8 n => some ⟨n⟩
    | _ => none
  ok v x h := by
    split at h <;> (try (cases h; done))
    simp only [Option.some.injEq] at h; subst h; exact ⟨fun _ => rfl, rfl⟩
def frzL (k : Nat) (o : List Int) : Nat × Blk := (k, .frz [.int .i64] o.length fun i => RowT.enc (o.getD i 0))
def rot (l : Rw Edge) (t : U8n) (i : Nat) : Edge := l.get ((i + t.n.toNat) % l.n)
def ps16 (p : Play) (s : Edge) : List (Nat × Blk) := [(8, .cells 0 25 (Enc.enc p).cells), (16, .cells 0 27 (Enc.enc s).cells)]
def l1J (p : Play) (s : Edge) (l : Rw Edge) (t : U8n) (o q : List Int) (k : Nat) : JSt :=
  ⟨162, [(2, .slz 2 0 l.n (.of 0)), (3, Enc.enc t), (4, .ptr 8 0 0), (5, .ptr 16 0 0), (9, .slz 80 0 o.length (.of 0)), (10, .slz 81 0 q.length (.of 0)), (12, .slz 24 0 k (.of 0)), (58, .int false .i64 l.n), (59, .int false .i64 k)],
    ps16 p s ++ ([frzL 80 o, frzL 81 q, (24, .rowz true 27 (RowT.ks Edge) k fun i => RowT.enc (rot l t i))] ++ ArgE.blk 2 l), 96⟩
def l1Ls : Ex → List Nat
  | .normal => [2, 3, 4, 5, 9, 10, 12, 58, 59]
  | _ => [2, 4, 5, 9, 10, 12]
set_option maxRecDepth 100000 in
theorem l1_r (p : Play) (s : Edge) (l : Rw Edge) (t : U8n) (o q : List Int) (k : Nat) (g : Nat → Value) : exec (mkE Try.prog tab_mat) (hnd (mkE Try.prog tab_mat) 0) (bodyK Try.f13 0) (JSt.inst (l1J p s l t o q k) g) (leafW [] l1Ls) =
    Tree.br (decide ((↑k : Int) < (↑l.n : Int))) (Tree.need (!decide ((↑l.n : Int) = (0 : Int))) (Tree.need (decide ((0 : Int) ≤ (IntKind.i64.wrap ((↑k : Int) + IntKind.i64.wrap
    t.n)).tmod (↑l.n : Int) ∧ (IntKind.i64.wrap ((↑k : Int) + IntKind.i64.wrap t.n)).tmod (↑l.n : Int) < (↑l.n : Int)) && decide (l.n ≤ l.n)) (Tree.need (decide (((IntKind.i64.wrap ((↑k
    : Int) + IntKind.i64.wrap t.n)).tmod (↑l.n : Int)).toNat < l.n)) (Tree.need (decide (k ≤ k) && (true && decide ((k + (1 : Nat) + (k + (1 : Nat)) / (4 : Nat) + (192 : Nat)) * (56 :
    Nat) ≤ (281474976710656 : Nat) ∧ k + (1 : Nat) ≤ (9223372036854775807 : Nat)))) (Tree.leaf (AV.tup [AV.nilp, AV.ptr (162 : Nat) (0 : Nat) (0 : Nat), AV.slz (2 : Nat) (0 : Nat) l.n
    (Cap.of (0 : Nat)), AV.int false IntKind.u8 t.n, AV.ptr (8 : Nat) (0 : Nat) (0 : Nat), AV.ptr (16 : Nat) (0 : Nat) (0 : Nat), AV.slz (80 : Nat) (0 : Nat) o.length (Cap.of (0 :
    Nat)), AV.slz (81 : Nat) (0 : Nat) q.length (Cap.of (0 : Nat)), AV.slz (216 : Nat) (0 : Nat) (k + (1 : Nat)) (Cap.of (0 : Nat)), AV.int false IntKind.i64 (↑l.n : Int), AV.int false
    IntKind.i64 (IntKind.i64.wrap ((↑k : Int) + (1 : Int)))]) [((2 : Nat), Blk.frz [CK.int IntKind.i64, CK.int IntKind.i64, CK.int IntKind.i64, CK.int IntKind.i64, CK.int IntKind.i64,
    CK.int IntKind.i64, CK.int IntKind.i64] l.n fun i => RowT.enc (l.get i)), ((8 : Nat), Blk.cells (0 : Nat) (25 : Nat) [AV.int false IntKind.i64 p.length, AV.int false IntKind.i64
    p.slack, AV.int false IntKind.i64 p.loose, AV.int false IntKind.i64 p.damp.lo, AV.int false IntKind.i64 p.damp.hi]), ((16 : Nat), Blk.cells (0 : Nat) (27 : Nat) [AV.int false
    IntKind.i64 s.kind, AV.int false IntKind.i64 s.at_.lo, AV.int false IntKind.i64 s.at_.hi, AV.int false IntKind.i64 s.wide.lo, AV.int false IntKind.i64 s.wide.hi, AV.int false
    IntKind.i64 s.deep.lo, AV.int false IntKind.i64 s.deep.hi]), ((80 : Nat), Blk.frz [CK.int IntKind.i64] o.length fun i => RowT.enc (o.getD i (0 : Int))), ((81 : Nat), Blk.frz [CK.int
    IntKind.i64] q.length fun i => RowT.enc (q.getD i (0 : Int))), ((216 : Nat), Blk.rowz true (27 : Nat) [CK.int IntKind.i64, CK.int IntKind.i64, CK.int IntKind.i64, CK.int
    IntKind.i64, CK.int IntKind.i64, CK.int IntKind.i64, CK.int IntKind.i64] (k + (1 : Nat)) (joinG k (fun i => RowT.enc (rot l t i)) (rowI [[AV.int false IntKind.i64 (l.get
    ((IntKind.i64.wrap ((↑k : Int) + IntKind.i64.wrap t.n)).tmod (↑l.n : Int)).toNat).kind, AV.int false IntKind.i64 (l.get ((IntKind.i64.wrap ((↑k : Int) + IntKind.i64.wrap t.n)).tmod
    (↑l.n : Int)).toNat).at_.lo, AV.int false IntKind.i64 (l.get ((IntKind.i64.wrap ((↑k : Int) + IntKind.i64.wrap t.n)).tmod (↑l.n : Int)).toNat).at_.hi, AV.int false IntKind.i64
    (l.get ((IntKind.i64.wrap ((↑k : Int) + IntKind.i64.wrap t.n)).tmod (↑l.n : Int)).toNat).wide.lo, AV.int false IntKind.i64 (l.get ((IntKind.i64.wrap ((↑k : Int) + IntKind.i64.wrap
    t.n)).tmod (↑l.n : Int)).toNat).wide.hi, AV.int false IntKind.i64 (l.get ((IntKind.i64.wrap ((↑k : Int) + IntKind.i64.wrap t.n)).tmod (↑l.n : Int)).toNat).deep.lo, AV.int false
    IntKind.i64 (l.get ((IntKind.i64.wrap ((↑k : Int) + IntKind.i64.wrap t.n)).tmod (↑l.n : Int)).toNat).deep.hi]] (0 : Nat))))]))))) (Tree.leaf (AV.tup [AV.ptr (0 : Nat) (0 : Nat) (0 :
    Nat), AV.ptr (162 : Nat) (0 : Nat) (0 : Nat), AV.slz (2 : Nat) (0 : Nat) l.n (Cap.of (0 : Nat)), AV.ptr (8 : Nat) (0 : Nat) (0 : Nat), AV.ptr (16 : Nat) (0 : Nat) (0 : Nat), AV.slz
    (80 : Nat) (0 : Nat) o.length (Cap.of (0 : Nat)), AV.slz (81 : Nat) (0 : Nat) q.length (Cap.of (0 : Nat)), AV.slz (24 : Nat) (0 : Nat) k (Cap.of (0 : Nat))]) [((2 : Nat), Blk.frz
    [CK.int IntKind.i64, CK.int IntKind.i64, CK.int IntKind.i64, CK.int IntKind.i64, CK.int IntKind.i64, CK.int IntKind.i64, CK.int IntKind.i64] l.n fun i => RowT.enc (l.get i)), ((8 :
    Nat), Blk.cells (0 : Nat) (25 : Nat) [AV.int false IntKind.i64 p.length, AV.int false IntKind.i64 p.slack, AV.int false IntKind.i64 p.loose, AV.int false IntKind.i64 p.damp.lo,
    AV.int false IntKind.i64 p.damp.hi]), ((16 : Nat), Blk.cells (0 : Nat) (27 : Nat) [AV.int false IntKind.i64 s.kind, AV.int false IntKind.i64 s.at_.lo, AV.int false IntKind.i64
    s.at_.hi, AV.int false IntKind.i64 s.wide.lo, AV.int false IntKind.i64 s.wide.hi, AV.int false IntKind.i64 s.deep.lo, AV.int false IntKind.i64 s.deep.hi]), ((80 : Nat), Blk.frz
    [CK.int IntKind.i64] o.length fun i => RowT.enc (o.getD i (0 : Int))), ((81 : Nat), Blk.frz [CK.int IntKind.i64] q.length fun i => RowT.enc (q.getD i (0 : Int))), ((24 : Nat),
    Blk.rowz true (27 : Nat) [CK.int IntKind.i64, CK.int IntKind.i64, CK.int IntKind.i64, CK.int IntKind.i64, CK.int IntKind.i64, CK.int IntKind.i64, CK.int IntKind.i64] k fun i =>
    RowT.enc (rot l t i))]) := by kernel_rfl
def l1E (p : Play) (s : Edge) (l : Rw Edge) (t : U8n) (o q : List Int) : JSt :=
  ⟨162, [(2, .slz 2 0 l.n (.of 0)), (4, .ptr 8 0 0), (5, .ptr 16 0 0), (9, .slz 80 0 o.length (.of 0)), (10, .slz 81 0 q.length (.of 0)), (12, .slz 24 0 l.n (.of 0))],
    ps16 p s ++ ([frzL 80 o, frzL 81 q, (24, .rowz true 27 (RowT.ks Edge) l.n fun i => RowT.enc (rot l t i))] ++ ArgE.blk 2 l), 96⟩
set_option maxRecDepth 100000 in
theorem l1_go (p : Play) (s : Edge) (l : Rw Edge) (t : U8n) (o q : List Int) (k n : Nat) (g : Nat → Nat → Int) (i : Int) : subE 8 [.slz 2 0 l.n (.of 0), Enc.enc t, .ptr 8 0 0, .ptr 16 0 0, .slz 80 0 o.length (.of 0), .slz 81 0 q.length (.of 0), .slz 216 0 n (.of 0), .int false .i64 l.n, .int false .i64 i] (ArgE.blk 2 l ++ (ps16 p s ++ [frzL 80 o, frzL 81 q, (216, .rowz true 27 (RowT.ks Edge) n g)])) (l1J p s l t o q k) = (
    some [(0 : Nat) = (0 : Nat), l.n = l.n, Cap.of (0 : Nat) = Cap.of (0 : Nat), t.n = t.n, (0 : Nat) = (0 : Nat), (0 : Nat) = (0 : Nat), (0 : Nat) = (0 : Nat), (0 : Nat) = (0 : Nat),
    (0 : Nat) = (0 : Nat), o.length = o.length, Cap.of (0 : Nat) = Cap.of (0 : Nat), (0 : Nat) = (0 : Nat), q.length = q.length, Cap.of (0 : Nat) = Cap.of (0 : Nat), (0 : Nat) = (0 :
    Nat), n = k, Cap.of (0 : Nat) = Cap.of (0 : Nat), (↑l.n : Int) = (↑l.n : Int), i = (↑k : Int), p.length = p.length, p.slack = p.slack, p.loose = p.loose, p.damp.lo = p.damp.lo,
    p.damp.hi = p.damp.hi, s.kind = s.kind, s.at_.lo = s.at_.lo, s.at_.hi = s.at_.hi, s.wide.lo = s.wide.lo, s.wide.hi = s.wide.hi, s.deep.lo = s.deep.lo, s.deep.hi = s.deep.hi,
    o.length ≤ o.length, RowsEq (1 : Nat) o.length (fun i => RowT.enc (o.getD i (0 : Int))) fun i => RowT.enc (o.getD i (0 : Int)), q.length ≤ q.length, RowsEq (1 : Nat) q.length (fun i
    => RowT.enc (q.getD i (0 : Int))) fun i => RowT.enc (q.getD i (0 : Int)), k ≤ n, RowsEq (7 : Nat) k g fun i => RowT.enc (rot l t i), l.n ≤ l.n, RowsEq (7 : Nat) l.n (fun i =>
    RowT.enc (l.get i)) fun i => RowT.enc (l.get i)]) := by kernel_rfl
set_option maxRecDepth 100000 in
theorem l1_end (p : Play) (s : Edge) (l : Rw Edge) (t : U8n) (o q : List Int) (n : Nat) (g : Nat → Nat → Int) : subE 8 [.slz 2 0 l.n (.of 0), .ptr 8 0 0, .ptr 16 0 0, .slz 80 0 o.length (.of 0), .slz 81 0 q.length (.of 0), .slz 24 0 n (.of 0)] (ArgE.blk 2 l ++ (ps16 p s ++ [frzL 80 o, frzL 81 q, (24, .rowz true 27 (RowT.ks Edge) n g)])) (l1E p s l t o q) = (
    some [(0 : Nat) = (0 : Nat), l.n = l.n, Cap.of (0 : Nat) = Cap.of (0 : Nat), (0 : Nat) = (0 : Nat), (0 : Nat) = (0 : Nat), (0 : Nat) = (0 : Nat), (0 : Nat) = (0 : Nat), (0 : Nat) =
    (0 : Nat), o.length = o.length, Cap.of (0 : Nat) = Cap.of (0 : Nat), (0 : Nat) = (0 : Nat), q.length = q.length, Cap.of (0 : Nat) = Cap.of (0 : Nat), (0 : Nat) = (0 : Nat), n = l.n,
    Cap.of (0 : Nat) = Cap.of (0 : Nat), p.length = p.length, p.slack = p.slack, p.loose = p.loose, p.damp.lo = p.damp.lo, p.damp.hi = p.damp.hi, s.kind = s.kind, s.at_.lo = s.at_.lo,
    s.at_.hi = s.at_.hi, s.wide.lo = s.wide.lo, s.wide.hi = s.wide.hi, s.deep.lo = s.deep.lo, s.deep.hi = s.deep.hi, o.length ≤ o.length, RowsEq (1 : Nat) o.length (fun i => RowT.enc
    (o.getD i (0 : Int))) fun i => RowT.enc (o.getD i (0 : Int)), q.length ≤ q.length, RowsEq (1 : Nat) q.length (fun i => RowT.enc (q.getD i (0 : Int))) fun i => RowT.enc (q.getD i (0
    : Int)), l.n ≤ n, RowsEq (7 : Nat) l.n g fun i => RowT.enc (rot l t i), l.n ≤ l.n, RowsEq (7 : Nat) l.n (fun i => RowT.enc (l.get i)) fun i => RowT.enc (l.get i)]) := by kernel_rfl
theorem rot_idx {k n : Nat} {t : Int} (hk : k < n) (hn : n ≤ 40) (ht : 0 ≤ t ∧ t ≤ 255) : (IntKind.i64.wrap ((k : Int) + IntKind.i64.wrap t)).tmod (n : Int) = (((k + t.toNat) % n : Nat) : Int) := by
  rw [w64 (n := t) (by omega) (by omega), w64 (by omega) (by omega)]
  have e : (k : Int) + t = ((k + t.toNat : Nat) : Int) := by omega
  rw [e]; rfl
theorem rows_add {m k : Nat} {g : Nat → Nat → Int} {y : List AV} (h : eqF m 0 (nthC y) (g k)) : RowsEq m (k + 1) (joinG k g (rowI [y] 0)) g := by
  intro i hi
  by_cases h1 : i < k
  · have : joinG k g (rowI [y] 0) i = g i := by funext j; rw [joinG_get, if_pos h1]
    rw [this]; exact eqF_refl _ _ _
  · have e : i = k := by omega
    subst e
    have : joinG i g (rowI [y] 0) i = nthC y := by funext j; rw [joinG_get, if_neg h1]; rfl
    rw [this]; exact h
theorem l1_round (p : Play) (s : Edge) (l : Rw Edge) (t : U8n) (o q : List Int) (ht : 0 ≤ t.n ∧ t.n ≤ 255) (hl : l.n ≤ 40) : RoundW (l1J p s l t o q) (fun k => k ≤ l.n) (fun k => l.n - k) (fun _ e J => e = .exit 0 ∧ J = l1E p s l t o q) 8 l1Ls [] (mkE Try.prog tab_mat) (fun _ => hnd (mkE Try.prog tab_mat) 0) (bodyK Try.f13 0) := by
  refine ⟨fun k g hk => ⟨?_⟩⟩
  by_cases h : k < l.n
  · rw [l1_r, rot_idx h hl ht]
    have hm : (k + t.n.toNat) % l.n < l.n := Nat.mod_lt _ (by omega)
    have hr : rot l t k = l.get ((k + t.n.toNat) % l.n) := rfl
    generalize (k + t.n.toNat) % l.n = j at hm hr ⊢
    have hw : IntKind.i64.wrap ((k : Int) + 1) = ((k + 1 : Nat) : Int) := (w64 (by omega) (by omega)).trans (by omega)
    refine den_br (fun _ => ?_) (fun hn => absurd (of_decide_eq_false hn) (by omega))
    refine den_need (by simp; omega) (den_need (by simp; omega) (den_need (by simp; omega) (den_need (by simp; omega) ?_)))
    refine ⟨k + 1, h, by show l.n - (k + 1) < l.n - k; omega, fun _ _ h => h, rfl, rfl, _, l1_go _ _ _ _ _ _ _ _ _ _, ?_⟩
    repeat' first | exact trivial | with_reducible rfl | exact Nat.le_refl _ | exact RowsEq.refl _ _ _ | exact hw | refine And.intro ?_ ?_
    refine rows_add ?_
    rw [hr]
    exact ⟨rfl, rfl, rfl, rfl, rfl, rfl, rfl, trivial⟩
  · have e : k = l.n := by omega
    subst e
    rw [l1_r]
    refine den_br (fun hn => absurd (of_decide_eq_true hn) (by omega)) (fun _ => ?_)
    refine ⟨_, ⟨rfl, rfl⟩, rfl, rfl, _, l1_end _ _ _ _ _ _ _ _, ?_⟩
    repeat' first | exact trivial | with_reducible rfl | exact Nat.le_refl _ | exact RowsEq.refl _ _ _ | refine And.intro ?_ ?_
def l2J (p : Play) (s : Edge) (l : Rw Edge) (o q : List Int) (n m : Nat) (e : Int) (a b k : Nat) : JSt :=
  ⟨162, [(4, .ptr 8 0 0), (5, .ptr 16 0 0), (9, .slz 80 0 o.length (.of 0)), (10, .slz 81 0 q.length (.of 0)), (14, .slz 100 0 n (.of 0)), (15, .slz 101 0 m (.of 0)), (16, .int false .i64 e), (17, .int false .i64 a), (18, .int false .i64 b), (84, .slz 2 0 l.n (.of 0)), (85, .int false .i64 l.n), (86, .int false .i64 k)],
    ps16 p s ++ ([frzL 80 o, frzL 81 q] ++ ArgE.blk 2 l), 104⟩
def l2Ls : Ex → List Nat
  | .normal => [4, 5, 9, 10, 14, 15, 16, 17, 18, 84, 85, 86]
  | .exit _ => [9, 10, 14, 15, 16, 17, 18]
  | .ret => [8]
set_option maxRecDepth 100000 in
theorem l2_r (p : Play) (s : Edge) (l : Rw Edge) (o q : List Int) (n m : Nat) (e : Int) (a b k : Nat) (g : Nat → Value) : exec (mkE Try.prog tab_mat) (hnd (mkE Try.prog tab_mat) 0) (bodyK Try.f13 1) (JSt.inst (l2J p s l o q n m e a b k) g) (leafW [] l2Ls) =
    Tree.br (decide ((↑k : Int) < (↑l.n : Int))) (Tree.need (decide ((0 : Int) ≤ (↑k : Int) ∧ (↑k : Int) < (↑l.n : Int)) && decide (l.n ≤ l.n)) (Tree.need (decide (k < l.n)) (Tree.need
    true (Tree.br ((FitF p s (l.get k)).2 != (0 : Int)) (Tree.leaf (AV.tup [AV.nili, AV.ptr (162 : Nat) (0 : Nat) (0 : Nat), AV.bool true false]) []) (Tree.br ((FitF p s (l.get k)).1 ==
    (2 : Int)) (Tree.br (decide ((↑a : Int) ≥ (↑o.length : Int))) (Tree.leaf (AV.tup [AV.nili, AV.ptr (162 : Nat) (0 : Nat) (0 : Nat), AV.bool true false]) []) (Tree.need (decide ((0 :
    Int) ≤ (↑a : Int) ∧ (↑a : Int) < (↑o.length : Int)) && decide (o.length ≤ o.length)) (Tree.need (decide (a < o.length)) (Tree.br (o.getD a (0 : Int) != (↑k : Int)) (Tree.leaf
    (AV.tup [AV.nili, AV.ptr (162 : Nat) (0 : Nat) (0 : Nat), AV.bool true false]) []) (Tree.br ((FitF p s (l.get k)).1 != (0 : Int)) (Tree.br (decide ((↑b : Int) ≥ (↑q.length : Int)))
    (Tree.leaf (AV.tup [AV.nili, AV.ptr (162 : Nat) (0 : Nat) (0 : Nat), AV.bool true false]) []) (Tree.need (decide ((0 : Int) ≤ (↑b : Int) ∧ (↑b : Int) < (↑q.length : Int)) && decide
    (q.length ≤ q.length)) (Tree.need (decide (b < q.length)) (Tree.br (q.getD b (0 : Int) != (↑k : Int)) (Tree.leaf (AV.tup [AV.nili, AV.ptr (162 : Nat) (0 : Nat) (0 : Nat), AV.bool
    true false]) []) (Tree.leaf (AV.tup [AV.nilp, AV.ptr (162 : Nat) (0 : Nat) (0 : Nat), AV.ptr (8 : Nat) (0 : Nat) (0 : Nat), AV.ptr (16 : Nat) (0 : Nat) (0 : Nat), AV.slz (80 : Nat)
    (0 : Nat) o.length (Cap.of (0 : Nat)), AV.slz (81 : Nat) (0 : Nat) q.length (Cap.of (0 : Nat)), AV.slz (100 : Nat) (0 : Nat) n (Cap.of (0 : Nat)), AV.slz (101 : Nat) (0 : Nat) m
    (Cap.of (0 : Nat)), AV.int false IntKind.i64 e, AV.int false IntKind.i64 (IntKind.i64.wrap ((↑a : Int) + (1 : Int))), AV.int false IntKind.i64 (IntKind.i64.wrap ((↑b : Int) + (1 :
    Int))), AV.slz (2 : Nat) (0 : Nat) l.n (Cap.of (0 : Nat)), AV.int false IntKind.i64 (↑l.n : Int), AV.int false IntKind.i64 (IntKind.i64.wrap ((↑k : Int) + (1 : Int)))]) [((8 : Nat),
    Blk.cells (0 : Nat) (25 : Nat) [AV.int false IntKind.i64 p.length, AV.int false IntKind.i64 p.slack, AV.int false IntKind.i64 p.loose, AV.int false IntKind.i64 p.damp.lo, AV.int
    false IntKind.i64 p.damp.hi]), ((16 : Nat), Blk.cells (0 : Nat) (27 : Nat) [AV.int false IntKind.i64 s.kind, AV.int false IntKind.i64 s.at_.lo, AV.int false IntKind.i64 s.at_.hi,
    AV.int false IntKind.i64 s.wide.lo, AV.int false IntKind.i64 s.wide.hi, AV.int false IntKind.i64 s.deep.lo, AV.int false IntKind.i64 s.deep.hi]), ((80 : Nat), Blk.frz [CK.int
    IntKind.i64] o.length fun i => RowT.enc (o.getD i (0 : Int))), ((81 : Nat), Blk.frz [CK.int IntKind.i64] q.length fun i => RowT.enc (q.getD i (0 : Int))), ((2 : Nat), Blk.frz
    [CK.int IntKind.i64, CK.int IntKind.i64, CK.int IntKind.i64, CK.int IntKind.i64, CK.int IntKind.i64, CK.int IntKind.i64, CK.int IntKind.i64] l.n fun i => RowT.enc (l.get i))])))))
    (Tree.leaf (AV.tup [AV.nilp, AV.ptr (162 : Nat) (0 : Nat) (0 : Nat), AV.ptr (8 : Nat) (0 : Nat) (0 : Nat), AV.ptr (16 : Nat) (0 : Nat) (0 : Nat), AV.slz (80 : Nat) (0 : Nat)
    o.length (Cap.of (0 : Nat)), AV.slz (81 : Nat) (0 : Nat) q.length (Cap.of (0 : Nat)), AV.slz (100 : Nat) (0 : Nat) n (Cap.of (0 : Nat)), AV.slz (101 : Nat) (0 : Nat) m (Cap.of (0 :
    Nat)), AV.int false IntKind.i64 e, AV.int false IntKind.i64 (IntKind.i64.wrap ((↑a : Int) + (1 : Int))), AV.int false IntKind.i64 (↑b : Int), AV.slz (2 : Nat) (0 : Nat) l.n (Cap.of
    (0 : Nat)), AV.int false IntKind.i64 (↑l.n : Int), AV.int false IntKind.i64 (IntKind.i64.wrap ((↑k : Int) + (1 : Int)))]) [((8 : Nat), Blk.cells (0 : Nat) (25 : Nat) [AV.int false
    IntKind.i64 p.length, AV.int false IntKind.i64 p.slack, AV.int false IntKind.i64 p.loose, AV.int false IntKind.i64 p.damp.lo, AV.int false IntKind.i64 p.damp.hi]), ((16 : Nat),
    Blk.cells (0 : Nat) (27 : Nat) [AV.int false IntKind.i64 s.kind, AV.int false IntKind.i64 s.at_.lo, AV.int false IntKind.i64 s.at_.hi, AV.int false IntKind.i64 s.wide.lo, AV.int
    false IntKind.i64 s.wide.hi, AV.int false IntKind.i64 s.deep.lo, AV.int false IntKind.i64 s.deep.hi]), ((80 : Nat), Blk.frz [CK.int IntKind.i64] o.length fun i => RowT.enc (o.getD i
    (0 : Int))), ((81 : Nat), Blk.frz [CK.int IntKind.i64] q.length fun i => RowT.enc (q.getD i (0 : Int))), ((2 : Nat), Blk.frz [CK.int IntKind.i64, CK.int IntKind.i64, CK.int
    IntKind.i64, CK.int IntKind.i64, CK.int IntKind.i64, CK.int IntKind.i64, CK.int IntKind.i64] l.n fun i => RowT.enc (l.get i))])))))) (Tree.br ((FitF p s (l.get k)).1 != (0 : Int))
    (Tree.br (decide ((↑b : Int) ≥ (↑q.length : Int))) (Tree.leaf (AV.tup [AV.nili, AV.ptr (162 : Nat) (0 : Nat) (0 : Nat), AV.bool true false]) []) (Tree.need (decide ((0 : Int) ≤ (↑b
    : Int) ∧ (↑b : Int) < (↑q.length : Int)) && decide (q.length ≤ q.length)) (Tree.need (decide (b < q.length)) (Tree.br (q.getD b (0 : Int) != (↑k : Int)) (Tree.leaf (AV.tup [AV.nili,
    AV.ptr (162 : Nat) (0 : Nat) (0 : Nat), AV.bool true false]) []) (Tree.leaf (AV.tup [AV.nilp, AV.ptr (162 : Nat) (0 : Nat) (0 : Nat), AV.ptr (8 : Nat) (0 : Nat) (0 : Nat), AV.ptr
    (16 : Nat) (0 : Nat) (0 : Nat), AV.slz (80 : Nat) (0 : Nat) o.length (Cap.of (0 : Nat)), AV.slz (81 : Nat) (0 : Nat) q.length (Cap.of (0 : Nat)), AV.slz (100 : Nat) (0 : Nat) n
    (Cap.of (0 : Nat)), AV.slz (101 : Nat) (0 : Nat) m (Cap.of (0 : Nat)), AV.int false IntKind.i64 e, AV.int false IntKind.i64 (↑a : Int), AV.int false IntKind.i64 (IntKind.i64.wrap
    ((↑b : Int) + (1 : Int))), AV.slz (2 : Nat) (0 : Nat) l.n (Cap.of (0 : Nat)), AV.int false IntKind.i64 (↑l.n : Int), AV.int false IntKind.i64 (IntKind.i64.wrap ((↑k : Int) + (1 :
    Int)))]) [((8 : Nat), Blk.cells (0 : Nat) (25 : Nat) [AV.int false IntKind.i64 p.length, AV.int false IntKind.i64 p.slack, AV.int false IntKind.i64 p.loose, AV.int false IntKind.i64
    p.damp.lo, AV.int false IntKind.i64 p.damp.hi]), ((16 : Nat), Blk.cells (0 : Nat) (27 : Nat) [AV.int false IntKind.i64 s.kind, AV.int false IntKind.i64 s.at_.lo, AV.int false
    IntKind.i64 s.at_.hi, AV.int false IntKind.i64 s.wide.lo, AV.int false IntKind.i64 s.wide.hi, AV.int false IntKind.i64 s.deep.lo, AV.int false IntKind.i64 s.deep.hi]), ((80 : Nat),
    Blk.frz [CK.int IntKind.i64] o.length fun i => RowT.enc (o.getD i (0 : Int))), ((81 : Nat), Blk.frz [CK.int IntKind.i64] q.length fun i => RowT.enc (q.getD i (0 : Int))), ((2 :
    Nat), Blk.frz [CK.int IntKind.i64, CK.int IntKind.i64, CK.int IntKind.i64, CK.int IntKind.i64, CK.int IntKind.i64, CK.int IntKind.i64, CK.int IntKind.i64] l.n fun i => RowT.enc
    (l.get i))]))))) (Tree.leaf (AV.tup [AV.nilp, AV.ptr (162 : Nat) (0 : Nat) (0 : Nat), AV.ptr (8 : Nat) (0 : Nat) (0 : Nat), AV.ptr (16 : Nat) (0 : Nat) (0 : Nat), AV.slz (80 : Nat)
    (0 : Nat) o.length (Cap.of (0 : Nat)), AV.slz (81 : Nat) (0 : Nat) q.length (Cap.of (0 : Nat)), AV.slz (100 : Nat) (0 : Nat) n (Cap.of (0 : Nat)), AV.slz (101 : Nat) (0 : Nat) m
    (Cap.of (0 : Nat)), AV.int false IntKind.i64 e, AV.int false IntKind.i64 (↑a : Int), AV.int false IntKind.i64 (↑b : Int), AV.slz (2 : Nat) (0 : Nat) l.n (Cap.of (0 : Nat)), AV.int
    false IntKind.i64 (↑l.n : Int), AV.int false IntKind.i64 (IntKind.i64.wrap ((↑k : Int) + (1 : Int)))]) [((8 : Nat), Blk.cells (0 : Nat) (25 : Nat) [AV.int false IntKind.i64
    p.length, AV.int false IntKind.i64 p.slack, AV.int false IntKind.i64 p.loose, AV.int false IntKind.i64 p.damp.lo, AV.int false IntKind.i64 p.damp.hi]), ((16 : Nat), Blk.cells (0 :
    Nat) (27 : Nat) [AV.int false IntKind.i64 s.kind, AV.int false IntKind.i64 s.at_.lo, AV.int false IntKind.i64 s.at_.hi, AV.int false IntKind.i64 s.wide.lo, AV.int false IntKind.i64
    s.wide.hi, AV.int false IntKind.i64 s.deep.lo, AV.int false IntKind.i64 s.deep.hi]), ((80 : Nat), Blk.frz [CK.int IntKind.i64] o.length fun i => RowT.enc (o.getD i (0 : Int))), ((81
    : Nat), Blk.frz [CK.int IntKind.i64] q.length fun i => RowT.enc (q.getD i (0 : Int))), ((2 : Nat), Blk.frz [CK.int IntKind.i64, CK.int IntKind.i64, CK.int IntKind.i64, CK.int
    IntKind.i64, CK.int IntKind.i64, CK.int IntKind.i64, CK.int IntKind.i64] l.n fun i => RowT.enc (l.get i))]))))))) (Tree.leaf (AV.tup [AV.ptr (2 : Nat) (0 : Nat) (0 : Nat), AV.ptr
    (162 : Nat) (0 : Nat) (0 : Nat), AV.slz (80 : Nat) (0 : Nat) o.length (Cap.of (0 : Nat)), AV.slz (81 : Nat) (0 : Nat) q.length (Cap.of (0 : Nat)), AV.slz (100 : Nat) (0 : Nat) n
    (Cap.of (0 : Nat)), AV.slz (101 : Nat) (0 : Nat) m (Cap.of (0 : Nat)), AV.int false IntKind.i64 e, AV.int false IntKind.i64 (↑a : Int), AV.int false IntKind.i64 (↑b : Int)]) [((80 :
    Nat), Blk.frz [CK.int IntKind.i64] o.length fun i => RowT.enc (o.getD i (0 : Int))), ((81 : Nat), Blk.frz [CK.int IntKind.i64] q.length fun i => RowT.enc (q.getD i (0 : Int)))]) := by kernel_rfl
def l2E (o q : List Int) (n m : Nat) (e : Int) : JSt :=
  ⟨162, [(9, .slz 80 0 o.length (.of 0)), (10, .slz 81 0 q.length (.of 0)), (14, .slz 100 0 n (.of 0)), (15, .slz 101 0 m (.of 0)), (16, .int false .i64 e), (17, .int false .i64 o.length), (18, .int false .i64 q.length)], [frzL 80 o, frzL 81 q], 104⟩
set_option maxRecDepth 100000 in
theorem l2_go (p : Play) (s : Edge) (l : Rw Edge) (o q : List Int) (n m : Nat) (e : Int) (a b k : Nat) (i j x : Int) : subE 8 [.ptr 8 0 0, .ptr 16 0 0, .slz 80 0 o.length (.of 0), .slz 81 0 q.length (.of 0), .slz 100 0 n (.of 0), .slz 101 0 m (.of 0), .int false .i64 e, .int false .i64 i, .int false .i64 j, .slz 2 0 l.n (.of 0), .int false .i64 l.n, .int false .i64 x] (ps16 p s ++ ([frzL 80 o, frzL 81 q] ++ ArgE.blk 2 l)) (l2J p s l o q n m e a b k) = (
    some [(0 : Nat) = (0 : Nat), (0 : Nat) = (0 : Nat), (0 : Nat) = (0 : Nat), (0 : Nat) = (0 : Nat), (0 : Nat) = (0 : Nat), o.length = o.length, Cap.of (0 : Nat) = Cap.of (0 : Nat), (0
    : Nat) = (0 : Nat), q.length = q.length, Cap.of (0 : Nat) = Cap.of (0 : Nat), (0 : Nat) = (0 : Nat), n = n, Cap.of (0 : Nat) = Cap.of (0 : Nat), (0 : Nat) = (0 : Nat), m = m, Cap.of
    (0 : Nat) = Cap.of (0 : Nat), e = e, i = (↑a : Int), j = (↑b : Int), (0 : Nat) = (0 : Nat), l.n = l.n, Cap.of (0 : Nat) = Cap.of (0 : Nat), (↑l.n : Int) = (↑l.n : Int), x = (↑k :
    Int), p.length = p.length, p.slack = p.slack, p.loose = p.loose, p.damp.lo = p.damp.lo, p.damp.hi = p.damp.hi, s.kind = s.kind, s.at_.lo = s.at_.lo, s.at_.hi = s.at_.hi, s.wide.lo =
    s.wide.lo, s.wide.hi = s.wide.hi, s.deep.lo = s.deep.lo, s.deep.hi = s.deep.hi, o.length ≤ o.length, RowsEq (1 : Nat) o.length (fun i => RowT.enc (o.getD i (0 : Int))) fun i =>
    RowT.enc (o.getD i (0 : Int)), q.length ≤ q.length, RowsEq (1 : Nat) q.length (fun i => RowT.enc (q.getD i (0 : Int))) fun i => RowT.enc (q.getD i (0 : Int)), l.n ≤ l.n, RowsEq (7 :
    Nat) l.n (fun i => RowT.enc (l.get i)) fun i => RowT.enc (l.get i)]) := by kernel_rfl
set_option maxRecDepth 100000 in
theorem l2_end (o q : List Int) (n m : Nat) (e : Int) (i j : Int) : subE 8 [.slz 80 0 o.length (.of 0), .slz 81 0 q.length (.of 0), .slz 100 0 n (.of 0), .slz 101 0 m (.of 0), .int false .i64 e, .int false .i64 i, .int false .i64 j] [frzL 80 o, frzL 81 q] (l2E o q n m e) = (
    some [(0 : Nat) = (0 : Nat), o.length = o.length, Cap.of (0 : Nat) = Cap.of (0 : Nat), (0 : Nat) = (0 : Nat), q.length = q.length, Cap.of (0 : Nat) = Cap.of (0 : Nat), (0 : Nat) =
    (0 : Nat), n = n, Cap.of (0 : Nat) = Cap.of (0 : Nat), (0 : Nat) = (0 : Nat), m = m, Cap.of (0 : Nat) = Cap.of (0 : Nat), e = e, i = (↑o.length : Int), j = (↑q.length : Int),
    o.length ≤ o.length, RowsEq (1 : Nat) o.length (fun i => RowT.enc (o.getD i (0 : Int))) fun i => RowT.enc (o.getD i (0 : Int)), q.length ≤ q.length, RowsEq (1 : Nat) q.length (fun i
    => RowT.enc (q.getD i (0 : Int))) fun i => RowT.enc (q.getD i (0 : Int))]) := by kernel_rfl
theorem picks_le (q : Nat → Bool) {k : Nat} : ∀ {n : Nat}, k ≤ n → (picks q k).length ≤ (picks q n).length
  | 0, h => by have : k = 0 := by omega
               subst this; exact Nat.le_refl _
  | n + 1, h => by
    rcases Nat.eq_or_lt_of_le h with rfl | h
    · exact Nat.le_refl _
    · have := picks_le q (k := k) (n := n) (by omega)
      simp only [picks]
      split <;> simp <;> omega
theorem picks_get (q : Nat → Bool) {k : Nat} (hq : q k = true) : ∀ {n : Nat}, k < n → (picks q k).length < (picks q n).length ∧ (picks q n).getD (picks q k).length 0 = (k : Int)
  | 0, h => by omega
  | n + 1, h => by
    rcases Nat.eq_or_lt_of_le (Nat.le_of_lt_succ h) with rfl | h
    · simp only [picks, hq]
      simp
    · obtain ⟨h1, h2⟩ := picks_get q hq (n := n) h
      simp only [picks]
      split
      · refine ⟨by simp; omega, ?_⟩
        rw [List.getD_eq_getElem?_getD, List.getElem?_append_left h1, ← List.getD_eq_getElem?_getD]; exact h2
      · exact ⟨h1, h2⟩
theorem fitsF_cases (p : Play) (a b : Edge) : fitsF p a b = 0 ∨ fitsF p a b = 1 ∨ fitsF p a b = 2 := by
  have v : ∀ t h, verd p t h = 0 ∨ verd p t h = 1 ∨ verd p t h = 2 := by
    intro t h
    rw [verd_eq]
    split
    · simp
    · split <;> simp
  unfold fitsF
  split
  · split
    · exact v _ _
    · simp
  · split
    · exact v _ _
    · simp
theorem l2_round (p : Play) (s : Edge) (l : Rw Edge) (n m : Nat) (e : Int) (hl : pickPre p s l) : RoundW (fun k : Nat => l2J p s l (picks (pickQ p s 2 l) l.n) (picks (pickQ p s 1 l) l.n) n m e (picks (pickQ p s 2 l) k).length (picks (pickQ p s 1 l) k).length k) (fun k => k ≤ l.n) (fun k => l.n - k) (fun _ x J => x = .exit 2 ∧ J = l2E (picks (pickQ p s 2 l) l.n) (picks (pickQ p s 1 l) l.n) n m e) 8 l2Ls [] (mkE Try.prog tab_mat) (fun _ => hnd (mkE Try.prog tab_mat) 0) (bodyK Try.f13 1) := by
  obtain ⟨h1, h2, h3, h4⟩ := hl
  refine ⟨fun k g hk => ⟨?_⟩⟩
  by_cases h : k < l.n
  · have hF : FitF p s (l.get k) = (fitsF p s (l.get k), 0) := by unfold FitF; rw [if_pos ⟨h1, h2, allN_get h3 h⟩]
    rw [l2_r, hF]
    have g2 := fun hq => picks_get (pickQ p s 2 l) (k := k) hq h
    have g1 := fun hq => picks_get (pickQ p s 1 l) (k := k) hq h
    have e2 : pickQ p s 2 l k = decide (fitsF p s (l.get k) ≥ 2) := rfl
    have e1 : pickQ p s 1 l k = decide (fitsF p s (l.get k) ≥ 1) := rfl
    have n2 := picks_len (pickQ p s 2 l) k
    have n1 := picks_len (pickQ p s 1 l) k
    have s2 : (picks (pickQ p s 2 l) (k + 1)) = (match pickQ p s 2 l k with | true => picks (pickQ p s 2 l) k ++ [(k : Int)] | false => picks (pickQ p s 2 l) k) := rfl
    have s1 : (picks (pickQ p s 1 l) (k + 1)) = (match pickQ p s 1 l k with | true => picks (pickQ p s 1 l) k ++ [(k : Int)] | false => picks (pickQ p s 1 l) k) := rfl
    have hw : IntKind.i64.wrap ((k : Int) + 1) = ((k + 1 : Nat) : Int) := (w64 (by omega) (by omega)).trans (by omega)
    have hv := fitsF_cases p s (l.get k)
    have fin : ∀ (i j : Int), i = ((picks (pickQ p s 2 l) (k + 1)).length : Int) → j = ((picks (pickQ p s 1 l) (k + 1)).length : Int) → GoesW (fun k : Nat => l2J p s l (picks (pickQ p s 2 l) l.n) (picks (pickQ p s 1 l) l.n) n m e (picks (pickQ p s 2 l) k).length (picks (pickQ p s 1 l) k).length k) (fun k => k ≤ l.n) (fun k => l.n - k) (fun _ x J => x = .exit 2 ∧ J = l2E (picks (pickQ p s 2 l) l.n) (picks (pickQ p s 1 l) l.n) n m e) 8 l2Ls k 162 [.ptr 8 0 0, .ptr 16 0 0, .slz 80 0 (picks (pickQ p s 2 l) l.n).length (.of 0), .slz 81 0 (picks (pickQ p s 1 l) l.n).length (.of 0), .slz 100 0 n (.of 0), .slz 101 0 m (.of 0), .int false .i64 e, .int false .i64 i, .int false .i64 j, .slz 2 0 l.n (.of 0), .int false .i64 l.n, .int false .i64 (IntKind.i64.wrap ((k : Int) + 1))] (ps16 p s ++ ([frzL 80 (picks (pickQ p s 2 l) l.n), frzL 81 (picks (pickQ p s 1 l) l.n)] ++ ArgE.blk 2 l)) := by
      intro i j hi hj
      refine ⟨k + 1, h, by show l.n - (k + 1) < l.n - k; omega, fun _ _ h => h, rfl, rfl, _, l2_go _ _ _ _ _ _ _ _ _ _ _ _ _ _, ?_⟩
      repeat' first | exact trivial | with_reducible rfl | exact Nat.le_refl _ | exact RowsEq.refl _ _ _ | exact hw | exact hi | exact hj | refine And.intro ?_ ?_
    generalize fitsF p s (l.get k) = v at e2 e1 hv ⊢
    refine den_br (fun _ => ?_) (fun hn => absurd (of_decide_eq_false hn) (by omega))
    refine den_need (by simp; omega) (den_need (by simp; omega) (den_need rfl (den_br (fun hn => by simp at hn) (fun _ => ?_))))
    rcases hv with rfl | rfl | rfl
    · refine den_br (fun hn => by simp at hn) (fun _ => den_br (fun hn => by simp at hn) (fun _ => ?_))
      exact fin _ _ (by rw [s2, e2]; rfl) (by rw [s1, e1]; rfl)
    · obtain ⟨a1, a2⟩ := g1 (by rw [e1]; rfl)
      refine den_br (fun hn => by simp at hn) (fun _ => den_br (fun _ => ?_) (fun hn => by simp at hn))
      refine den_br (fun hn => absurd (of_decide_eq_true hn) (by omega)) (fun _ => den_need (by simp; omega) (den_need (by simp; omega) (den_br (fun hn => by rw [a2] at hn; simp at hn) (fun _ => ?_))))
      exact fin _ _ (by rw [s2, e2]; rfl) (by rw [s1, e1]; simp; exact w64 (by omega) (by omega))
    · obtain ⟨a1, a2⟩ := g1 (by rw [e1]; rfl)
      obtain ⟨b1, b2⟩ := g2 (by rw [e2]; rfl)
      refine den_br (fun _ => ?_) (fun hn => by simp at hn)
      refine den_br (fun hn => absurd (of_decide_eq_true hn) (by omega)) (fun _ => den_need (by simp; omega) (den_need (by simp; omega) (den_br (fun hn => by rw [b2] at hn; simp at hn) (fun _ => ?_))))
      refine den_br (fun _ => ?_) (fun hn => by simp at hn)
      refine den_br (fun hn => absurd (of_decide_eq_true hn) (by omega)) (fun _ => den_need (by simp; omega) (den_need (by simp; omega) (den_br (fun hn => by rw [a2] at hn; simp at hn) (fun _ => ?_))))
      exact fin _ _ (by rw [s2, e2]; simp; exact w64 (by omega) (by omega)) (by rw [s1, e1]; simp; exact w64 (by omega) (by omega))
  · have ek : k = l.n := by omega
    subst ek
    rw [l2_r]
    refine den_br (fun hn => absurd (of_decide_eq_true hn) (by omega)) (fun _ => ?_)
    refine ⟨_, ⟨rfl, rfl⟩, rfl, rfl, _, l2_end _ _ _ _ _ _ _, ?_⟩
    repeat' first | exact trivial | with_reducible rfl | exact Nat.le_refl _ | exact RowsEq.refl _ _ _ | refine And.intro ?_ ?_
end Go.Proofs.Ytdaanchagjamfaa
