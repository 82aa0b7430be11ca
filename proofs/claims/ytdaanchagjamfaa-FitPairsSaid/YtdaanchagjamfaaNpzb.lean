/- The recursion of fit.pairings: its body, told ahead. -/
import Derived.Test.YtdaanchagjamfaaNpza
namespace Go.Proofs.Ytdaanchagjamfaa
open Go.SX
def onIds : List Nat := [544, 520, 505, 416, 32, 24, 16]
abbrev onX (P : Program) (J : JSt) (X : List (Prop × Ex × JSt)) : Hnd := { hnd (mkE P tab_cl) 2 with loop := fun _ => loopT 1032 onIds J X }
abbrev noH (P : Program) : Hnd := { hnd (mkE P tab_cl) 2 with loop := fun _ _ _ => .fail "a loop" }
set_option maxRecDepth 100000 in
theorem on_y2 (p : Play) (tabs holes : Rw Edge) (w : Rw Int) (has : Int → Bool) (many : Int) (f : Rw Int) : (inFn (mkE Try.prog tab_cl) (noH Try.prog) Try.f85 onCap (onPre p tabs holes (rangeK Try.f26 0).1 (rangeK Try.f26 0).2 w has many f).hp 1032 fun v h _ => endU onIds v h) =
    Tree.br ((↑w.n : Int) == (↑tabs.n : Int)) (Tree.need (decide (w.n ≤ w.n) && true && decide ((0 : Nat) < w.n ∧ w.n ≤ (1000 : Nat))) (Tree.br (IntKind.i64.wrap (many + (1 : Int)) == (2 : Int)) (Tree.leaf (AV.bool true false) ([((544 : Nat), Blk.cells (0 : Nat) (43 : Nat) [AV.slz (1008 : Nat) (0 : Nat) w.n (Cap.of (0 : Nat))]), ((520 : Nat), Blk.mpf IntKind.i64 (AV.bool true false) has fun i => AV.bool false (has i)), ((505 : Nat), Blk.lp LoopState.done (some Code.ret) (pairT p tabs holes) (Array.mk [(56 : Nat)]) (rangeK Try.f26 0).1 (rangeK Try.f26 0).2), ((416 : Nat), Blk.cells (0 : Nat) (3 : Nat) [AV.int false IntKind.i64 (IntKind.i64.wrap (many + (1 : Int)))]), ((32 : Nat), Blk.cells (0 : Nat) (28 : Nat) [AV.int true IntKind.i64 (0 : Int)]), ((24 : Nat), Blk.cells (0 : Nat) (43 : Nat) [AV.slz (1096 : Nat) (0 : Nat) w.n (Cap.of (0 : Nat))]), ((16 : Nat), Blk.cells (0 : Nat) (43 : Nat) [AV.slz (1016 : Nat) (0 : Nat) f.n (Cap.of (0 : Nat))]), ((1008 : Nat), Blk.rowz true (3 : Nat) [CK.int IntKind.i64] w.n fun i => RowT.enc (w.get i)), ((1 : Nat), Blk.frz [CK.int IntKind.i64, CK.int IntKind.i64, CK.int IntKind.i64, CK.int IntKind.i64, CK.int IntKind.i64, CK.int IntKind.i64, CK.int IntKind.i64] tabs.n fun i => RowT.enc (tabs.get i)), ((2 : Nat), Blk.frz [CK.int IntKind.i64, CK.int IntKind.i64, CK.int IntKind.i64, CK.int IntKind.i64, CK.int IntKind.i64, CK.int IntKind.i64, CK.int IntKind.i64] holes.n fun i => RowT.enc (holes.get i)), ((464 : Nat), Blk.cellsR (0 : Nat) (42 : Nat) [AV.slz (1 : Nat) (0 : Nat) tabs.n (Cap.of (0 : Nat))]), ((472 : Nat), Blk.cellsR (0 : Nat) (42 : Nat) [AV.slz (2 : Nat) (0 : Nat) holes.n (Cap.of (0 : Nat))]), ((456 : Nat), Blk.cellsR (0 : Nat) (25 : Nat) [AV.int false IntKind.i64 p.length, AV.int false IntKind.i64 p.slack, AV.int false IntKind.i64 p.loose, AV.int false IntKind.i64 p.damp.lo, AV.int false IntKind.i64 p.damp.hi]), ((1096 : Nat), Blk.rowz true (3 : Nat) [CK.int IntKind.i64] w.n fun i => RowT.enc (w.get i)), ((1016 : Nat), Blk.rowz true (3 : Nat) [CK.int IntKind.i64] f.n fun i => RowT.enc (f.get i))])) (Tree.leaf (AV.bool true true) ([((544 : Nat), Blk.cells (0 : Nat) (43 : Nat) [AV.slz (1008 : Nat) (0 : Nat) w.n (Cap.of (0 : Nat))]), ((520 : Nat), Blk.mpf IntKind.i64 (AV.bool true false) has fun i => AV.bool false (has i)), ((505 : Nat), Blk.lp LoopState.ready none (pairT p tabs holes) (Array.mk [(56 : Nat)]) (rangeK Try.f26 0).1 (rangeK Try.f26 0).2), ((416 : Nat), Blk.cells (0 : Nat) (3 : Nat) [AV.int false IntKind.i64 (IntKind.i64.wrap (many + (1 : Int)))]), ((32 : Nat), Blk.cells (0 : Nat) (28 : Nat) [AV.int false IntKind.i64 (0 : Int)]), ((24 : Nat), Blk.cells (0 : Nat) (43 : Nat) [AV.nils]), ((16 : Nat), Blk.cells (0 : Nat) (43 : Nat) [AV.slz (1096 : Nat) (0 : Nat) w.n (Cap.of (0 : Nat))]), ((1008 : Nat), Blk.rowz true (3 : Nat) [CK.int IntKind.i64] w.n fun i => RowT.enc (w.get i)), ((1 : Nat), Blk.frz [CK.int IntKind.i64, CK.int IntKind.i64, CK.int IntKind.i64, CK.int IntKind.i64, CK.int IntKind.i64, CK.int IntKind.i64, CK.int IntKind.i64] tabs.n fun i => RowT.enc (tabs.get i)), ((2 : Nat), Blk.frz [CK.int IntKind.i64, CK.int IntKind.i64, CK.int IntKind.i64, CK.int IntKind.i64, CK.int IntKind.i64, CK.int IntKind.i64, CK.int IntKind.i64] holes.n fun i => RowT.enc (holes.get i)), ((464 : Nat), Blk.cellsR (0 : Nat) (42 : Nat) [AV.slz (1 : Nat) (0 : Nat) tabs.n (Cap.of (0 : Nat))]), ((472 : Nat), Blk.cellsR (0 : Nat) (42 : Nat) [AV.slz (2 : Nat) (0 : Nat) holes.n (Cap.of (0 : Nat))]), ((456 : Nat), Blk.cellsR (0 : Nat) (25 : Nat) [AV.int false IntKind.i64 p.length, AV.int false IntKind.i64 p.slack, AV.int false IntKind.i64 p.loose, AV.int false IntKind.i64 p.damp.lo, AV.int false IntKind.i64 p.damp.hi]), ((1096 : Nat), Blk.rowz true (3 : Nat) [CK.int IntKind.i64] w.n fun i => RowT.enc (w.get i))])))) (Tree.fail ("a loop")) := by kernel_rfl
set_option maxRecDepth 100000 in
theorem on_ys (p : Play) (tabs holes : Rw Edge) (w : Rw Int) (has : Int → Bool) (many : Int) (f f' g' : Rw Int) : subE 1032 [(AV.bool true false)] ([((544 : Nat), Blk.cells (0 : Nat) (43 : Nat) [AV.slz (1008 : Nat) (0 : Nat) w.n (Cap.of (0 : Nat))]), ((520 : Nat), Blk.mpf IntKind.i64 (AV.bool true false) has fun i => AV.bool false (has i)), ((505 : Nat), Blk.lp LoopState.done (some Code.ret) (pairT p tabs holes) (Array.mk [(56 : Nat)]) (rangeK Try.f26 0).1 (rangeK Try.f26 0).2), ((416 : Nat), Blk.cells (0 : Nat) (3 : Nat) [AV.int false IntKind.i64 (IntKind.i64.wrap (many + (1 : Int)))]), ((32 : Nat), Blk.cells (0 : Nat) (28 : Nat) [AV.int true IntKind.i64 (0 : Int)]), ((24 : Nat), Blk.cells (0 : Nat) (43 : Nat) [AV.slz (1096 : Nat) (0 : Nat) w.n (Cap.of (0 : Nat))]), ((16 : Nat), Blk.cells (0 : Nat) (43 : Nat) [AV.slz (1016 : Nat) (0 : Nat) f.n (Cap.of (0 : Nat))]), ((1008 : Nat), Blk.rowz true (3 : Nat) [CK.int IntKind.i64] w.n fun i => RowT.enc (w.get i)), ((1 : Nat), Blk.frz [CK.int IntKind.i64, CK.int IntKind.i64, CK.int IntKind.i64, CK.int IntKind.i64, CK.int IntKind.i64, CK.int IntKind.i64, CK.int IntKind.i64] tabs.n fun i => RowT.enc (tabs.get i)), ((2 : Nat), Blk.frz [CK.int IntKind.i64, CK.int IntKind.i64, CK.int IntKind.i64, CK.int IntKind.i64, CK.int IntKind.i64, CK.int IntKind.i64, CK.int IntKind.i64] holes.n fun i => RowT.enc (holes.get i)), ((464 : Nat), Blk.cellsR (0 : Nat) (42 : Nat) [AV.slz (1 : Nat) (0 : Nat) tabs.n (Cap.of (0 : Nat))]), ((472 : Nat), Blk.cellsR (0 : Nat) (42 : Nat) [AV.slz (2 : Nat) (0 : Nat) holes.n (Cap.of (0 : Nat))]), ((456 : Nat), Blk.cellsR (0 : Nat) (25 : Nat) [AV.int false IntKind.i64 p.length, AV.int false IntKind.i64 p.slack, AV.int false IntKind.i64 p.loose, AV.int false IntKind.i64 p.damp.lo, AV.int false IntKind.i64 p.damp.hi]), ((1096 : Nat), Blk.rowz true (3 : Nat) [CK.int IntKind.i64] w.n fun i => RowT.enc (w.get i)), ((1016 : Nat), Blk.rowz true (3 : Nat) [CK.int IntKind.i64] f.n fun i => RowT.enc (f.get i))]) (resU (onS p tabs holes (rangeK Try.f26 0).1 (rangeK Try.f26 0).2 w has many f f' g')) = (
    some [false = false, (0 : Nat) = (0 : Nat), w.n = w.n, Cap.of (0 : Nat) = Cap.of (0 : Nat), w.n ≤ w.n, RowsEq (1 : Nat) w.n (fun i => RowT.enc (w.get i)) fun i => RowT.enc (w.get
    i), MapEq (AV.bool true false) (AV.bool true false) has has (fun i => AV.bool false (has i)) fun i => AV.bool false (has i), LoopState.done = LoopState.done, some Code.ret = some
    Code.ret, Array.mk [(56 : Nat)] = Array.mk [(56 : Tmp)], (rangeK Try.f26 0).1 = (rangeK Try.f26 0).1, (rangeK Try.f26 0).2 = (rangeK Try.f26 0).2, p.length = p.length, p.slack =
    p.slack, p.loose = p.loose, p.damp.lo = p.damp.lo, p.damp.hi = p.damp.hi, (0 : Nat) = (0 : Nat), tabs.n = tabs.n, Cap.of (0 : Nat) = Cap.of (0 : Nat), (0 : Nat) = (0 : Nat), holes.n
    = holes.n, Cap.of (0 : Nat) = Cap.of (0 : Nat), (0 : Nat) = (0 : Nat), (0 : Nat) = (0 : Nat), (0 : Nat) = (0 : Nat), (0 : Nat) = (0 : Nat), (0 : Nat) = (0 : Nat), (0 : Nat) = (0 :
    Nat), (0 : Nat) = (0 : Nat), (0 : Nat) = (0 : Nat), Fn.func (68 : FuncId) = Fn.func (68 : FuncId), (0 : Nat) = (0 : Nat), (0 : Nat) = (0 : Nat), false = false, p.length = p.length,
    p.slack = p.slack, p.loose = p.loose, p.damp.lo = p.damp.lo, p.damp.hi = p.damp.hi, p.ok = p.ok, (!p.ok) = !p.ok, false = false, (0 : Nat) = (0 : Nat), tabs.n = tabs.n, Cap.of (0 :
    Nat) = Cap.of (0 : Nat), allN (fun i => (tabs.get i).ok) tabs.n = allN (fun i => (tabs.get i).ok) tabs.n, (!allN (fun i => (tabs.get i).ok) tabs.n) = !allN (fun i => (tabs.get
    i).ok) tabs.n, (!allN (fun i => (tabs.get i).ok) tabs.n) = !allN (fun i => (tabs.get i).ok) tabs.n, false = false, (0 : Nat) = (0 : Nat), holes.n = holes.n, Cap.of (0 : Nat) =
    Cap.of (0 : Nat), allN (fun i => (holes.get i).ok) holes.n = allN (fun i => (holes.get i).ok) holes.n, (!allN (fun i => (holes.get i).ok) holes.n) = !allN (fun i => (holes.get
    i).ok) holes.n, (!allN (fun i => (holes.get i).ok) holes.n) = !allN (fun i => (holes.get i).ok) holes.n, false = false, (0 : Nat) = (0 : Nat), tabs.n = tabs.n, Cap.of (0 : Nat) =
    Cap.of (0 : Nat), (↑tabs.n : Int) = (↑tabs.n : Int), decide ((↑tabs.n : Int) > (8 : Int)) = decide ((↑tabs.n : Int) > (8 : Int)), false = false, (0 : Nat) = (0 : Nat), holes.n =
    holes.n, Cap.of (0 : Nat) = Cap.of (0 : Nat), (↑holes.n : Int) = (↑holes.n : Int), decide ((↑holes.n : Int) > (8 : Int)) = decide ((↑holes.n : Int) > (8 : Int)), decide ((↑holes.n :
    Int) > (8 : Int)) = decide ((↑holes.n : Int) > (8 : Int)), false = false, (0 : Nat) = (0 : Nat), tabs.n = tabs.n, Cap.of (0 : Nat) = Cap.of (0 : Nat), Fn.func (68 : FuncId) =
    Fn.func (68 : FuncId), Fn.func (69 : FuncId) = Fn.func (69 : FuncId), (0 : Nat) = (0 : Nat), (0 : Nat) = (0 : Nat), decide (idxOf (firstN (kindE (FnB.mk (1 : Int)) tabs) tabs.n (0 :
    Nat)) ≥ (0 : Int)) = decide (idxOf (firstN (kindE (FnB.mk (1 : Int)) tabs) tabs.n (0 : Nat)) ≥ (0 : Int)), false = false, (0 : Nat) = (0 : Nat), holes.n = holes.n, Cap.of (0 : Nat)
    = Cap.of (0 : Nat), Fn.func (68 : FuncId) = Fn.func (68 : FuncId), Fn.func (69 : FuncId) = Fn.func (69 : FuncId), (0 : Nat) = (0 : Nat), (0 : Nat) = (0 : Nat), decide (idxOf (firstN
    (kindE (FnB.mk (2 : Int)) holes) holes.n (0 : Nat)) ≥ (0 : Int)) = decide (idxOf (firstN (kindE (FnB.mk (2 : Int)) holes) holes.n (0 : Nat)) ≥ (0 : Int)), decide (idxOf (firstN
    (kindE (FnB.mk (2 : Int)) holes) holes.n (0 : Nat)) ≥ (0 : Int)) = decide (idxOf (firstN (kindE (FnB.mk (2 : Int)) holes) holes.n (0 : Nat)) ≥ (0 : Int)), false = false, (0 : Nat) =
    (0 : Nat), tabs.n = tabs.n, Cap.of (0 : Nat) = Cap.of (0 : Nat), (↑tabs.n : Int) = (↑tabs.n : Int), (0 : Nat) = (0 : Nat), holes.n = holes.n, Cap.of (0 : Nat) = Cap.of (0 : Nat),
    (↑holes.n : Int) = (↑holes.n : Int), ((↑tabs.n : Int) != (↑holes.n : Int)) = ((↑tabs.n : Int) != (↑holes.n : Int)), p.length = p.length, p.slack = p.slack, p.loose = p.loose,
    p.damp.lo = p.damp.lo, p.damp.hi = p.damp.hi, (0 : Nat) = (0 : Nat), tabs.n = tabs.n, Cap.of (0 : Nat) = Cap.of (0 : Nat), (0 : Nat) = (0 : Nat), holes.n = holes.n, Cap.of (0 : Nat)
    = Cap.of (0 : Nat), Fn.func (84 : FuncId) = Fn.func (84 : FuncId), (0 : Nat) = (0 : Nat), (0 : Nat) = (0 : Nat), (0 : Nat) = (0 : Nat), (0 : Nat) = (0 : Nat), (0 : Nat) = (0 : Nat),
    (0 : Nat) = (0 : Nat), IntKind.i64.wrap (many + (1 : Int)) = (2 : Int), (0 : Int) = (0 : Int), (0 : Nat) = (0 : Nat), w.n = g'.n, Cap.of (0 : Nat) = Cap.of (0 : Nat), (0 : Nat) = (0
    : Nat), f.n = f'.n, Cap.of (0 : Nat) = Cap.of (0 : Nat), f'.n ≤ f.n, RowsEq (1 : Nat) f'.n (fun i => RowT.enc (f.get i)) fun i => RowT.enc (f'.get i), g'.n ≤ w.n, RowsEq (1 : Nat)
    g'.n (fun i => RowT.enc (w.get i)) fun i => RowT.enc (g'.get i)]) := by kernel_rfl
set_option maxRecDepth 100000 in
theorem on_yg (p : Play) (tabs holes : Rw Edge) (w : Rw Int) (has : Int → Bool) (many : Int) (f : Rw Int) (many' : Int) (f' : Rw Int) : subE 1032 [(AV.bool true true)] ([((544 : Nat), Blk.cells (0 : Nat) (43 : Nat) [AV.slz (1008 : Nat) (0 : Nat) w.n (Cap.of (0 : Nat))]), ((520 : Nat), Blk.mpf IntKind.i64 (AV.bool true false) has fun i => AV.bool false (has i)), ((505 : Nat), Blk.lp LoopState.ready none (pairT p tabs holes) (Array.mk [(56 : Nat)]) (rangeK Try.f26 0).1 (rangeK Try.f26 0).2), ((416 : Nat), Blk.cells (0 : Nat) (3 : Nat) [AV.int false IntKind.i64 (IntKind.i64.wrap (many + (1 : Int)))]), ((32 : Nat), Blk.cells (0 : Nat) (28 : Nat) [AV.int false IntKind.i64 (0 : Int)]), ((24 : Nat), Blk.cells (0 : Nat) (43 : Nat) [AV.nils]), ((16 : Nat), Blk.cells (0 : Nat) (43 : Nat) [AV.slz (1096 : Nat) (0 : Nat) w.n (Cap.of (0 : Nat))]), ((1008 : Nat), Blk.rowz true (3 : Nat) [CK.int IntKind.i64] w.n fun i => RowT.enc (w.get i)), ((1 : Nat), Blk.frz [CK.int IntKind.i64, CK.int IntKind.i64, CK.int IntKind.i64, CK.int IntKind.i64, CK.int IntKind.i64, CK.int IntKind.i64, CK.int IntKind.i64] tabs.n fun i => RowT.enc (tabs.get i)), ((2 : Nat), Blk.frz [CK.int IntKind.i64, CK.int IntKind.i64, CK.int IntKind.i64, CK.int IntKind.i64, CK.int IntKind.i64, CK.int IntKind.i64, CK.int IntKind.i64] holes.n fun i => RowT.enc (holes.get i)), ((464 : Nat), Blk.cellsR (0 : Nat) (42 : Nat) [AV.slz (1 : Nat) (0 : Nat) tabs.n (Cap.of (0 : Nat))]), ((472 : Nat), Blk.cellsR (0 : Nat) (42 : Nat) [AV.slz (2 : Nat) (0 : Nat) holes.n (Cap.of (0 : Nat))]), ((456 : Nat), Blk.cellsR (0 : Nat) (25 : Nat) [AV.int false IntKind.i64 p.length, AV.int false IntKind.i64 p.slack, AV.int false IntKind.i64 p.loose, AV.int false IntKind.i64 p.damp.lo, AV.int false IntKind.i64 p.damp.hi]), ((1096 : Nat), Blk.rowz true (3 : Nat) [CK.int IntKind.i64] w.n fun i => RowT.enc (w.get i))]) (resU (onU p tabs holes (rangeK Try.f26 0).1 (rangeK Try.f26 0).2 w has many f many' f')) = (
    some [true = true, (0 : Nat) = (0 : Nat), w.n = w.n, Cap.of (0 : Nat) = Cap.of (0 : Nat), w.n ≤ w.n, RowsEq (1 : Nat) w.n (fun i => RowT.enc (w.get i)) fun i => RowT.enc (w.get i),
    MapEq (AV.bool true false) (AV.bool true false) has has (fun i => AV.bool false (has i)) fun i => AV.bool false (has i), LoopState.ready = LoopState.ready, (none : Option Code) =
    none, Array.mk [(56 : Nat)] = Array.mk [(56 : Tmp)], (rangeK Try.f26 0).1 = (rangeK Try.f26 0).1, (rangeK Try.f26 0).2 = (rangeK Try.f26 0).2, p.length = p.length, p.slack =
    p.slack, p.loose = p.loose, p.damp.lo = p.damp.lo, p.damp.hi = p.damp.hi, (0 : Nat) = (0 : Nat), tabs.n = tabs.n, Cap.of (0 : Nat) = Cap.of (0 : Nat), (0 : Nat) = (0 : Nat), holes.n
    = holes.n, Cap.of (0 : Nat) = Cap.of (0 : Nat), (0 : Nat) = (0 : Nat), (0 : Nat) = (0 : Nat), (0 : Nat) = (0 : Nat), (0 : Nat) = (0 : Nat), (0 : Nat) = (0 : Nat), (0 : Nat) = (0 :
    Nat), (0 : Nat) = (0 : Nat), (0 : Nat) = (0 : Nat), Fn.func (68 : FuncId) = Fn.func (68 : FuncId), (0 : Nat) = (0 : Nat), (0 : Nat) = (0 : Nat), false = false, p.length = p.length,
    p.slack = p.slack, p.loose = p.loose, p.damp.lo = p.damp.lo, p.damp.hi = p.damp.hi, p.ok = p.ok, (!p.ok) = !p.ok, false = false, (0 : Nat) = (0 : Nat), tabs.n = tabs.n, Cap.of (0 :
    Nat) = Cap.of (0 : Nat), allN (fun i => (tabs.get i).ok) tabs.n = allN (fun i => (tabs.get i).ok) tabs.n, (!allN (fun i => (tabs.get i).ok) tabs.n) = !allN (fun i => (tabs.get
    i).ok) tabs.n, (!allN (fun i => (tabs.get i).ok) tabs.n) = !allN (fun i => (tabs.get i).ok) tabs.n, false = false, (0 : Nat) = (0 : Nat), holes.n = holes.n, Cap.of (0 : Nat) =
    Cap.of (0 : Nat), allN (fun i => (holes.get i).ok) holes.n = allN (fun i => (holes.get i).ok) holes.n, (!allN (fun i => (holes.get i).ok) holes.n) = !allN (fun i => (holes.get
    i).ok) holes.n, (!allN (fun i => (holes.get i).ok) holes.n) = !allN (fun i => (holes.get i).ok) holes.n, false = false, (0 : Nat) = (0 : Nat), tabs.n = tabs.n, Cap.of (0 : Nat) =
    Cap.of (0 : Nat), (↑tabs.n : Int) = (↑tabs.n : Int), decide ((↑tabs.n : Int) > (8 : Int)) = decide ((↑tabs.n : Int) > (8 : Int)), false = false, (0 : Nat) = (0 : Nat), holes.n =
    holes.n, Cap.of (0 : Nat) = Cap.of (0 : Nat), (↑holes.n : Int) = (↑holes.n : Int), decide ((↑holes.n : Int) > (8 : Int)) = decide ((↑holes.n : Int) > (8 : Int)), decide ((↑holes.n :
    Int) > (8 : Int)) = decide ((↑holes.n : Int) > (8 : Int)), false = false, (0 : Nat) = (0 : Nat), tabs.n = tabs.n, Cap.of (0 : Nat) = Cap.of (0 : Nat), Fn.func (68 : FuncId) =
    Fn.func (68 : FuncId), Fn.func (69 : FuncId) = Fn.func (69 : FuncId), (0 : Nat) = (0 : Nat), (0 : Nat) = (0 : Nat), decide (idxOf (firstN (kindE (FnB.mk (1 : Int)) tabs) tabs.n (0 :
    Nat)) ≥ (0 : Int)) = decide (idxOf (firstN (kindE (FnB.mk (1 : Int)) tabs) tabs.n (0 : Nat)) ≥ (0 : Int)), false = false, (0 : Nat) = (0 : Nat), holes.n = holes.n, Cap.of (0 : Nat)
    = Cap.of (0 : Nat), Fn.func (68 : FuncId) = Fn.func (68 : FuncId), Fn.func (69 : FuncId) = Fn.func (69 : FuncId), (0 : Nat) = (0 : Nat), (0 : Nat) = (0 : Nat), decide (idxOf (firstN
    (kindE (FnB.mk (2 : Int)) holes) holes.n (0 : Nat)) ≥ (0 : Int)) = decide (idxOf (firstN (kindE (FnB.mk (2 : Int)) holes) holes.n (0 : Nat)) ≥ (0 : Int)), decide (idxOf (firstN
    (kindE (FnB.mk (2 : Int)) holes) holes.n (0 : Nat)) ≥ (0 : Int)) = decide (idxOf (firstN (kindE (FnB.mk (2 : Int)) holes) holes.n (0 : Nat)) ≥ (0 : Int)), false = false, (0 : Nat) =
    (0 : Nat), tabs.n = tabs.n, Cap.of (0 : Nat) = Cap.of (0 : Nat), (↑tabs.n : Int) = (↑tabs.n : Int), (0 : Nat) = (0 : Nat), holes.n = holes.n, Cap.of (0 : Nat) = Cap.of (0 : Nat),
    (↑holes.n : Int) = (↑holes.n : Int), ((↑tabs.n : Int) != (↑holes.n : Int)) = ((↑tabs.n : Int) != (↑holes.n : Int)), p.length = p.length, p.slack = p.slack, p.loose = p.loose,
    p.damp.lo = p.damp.lo, p.damp.hi = p.damp.hi, (0 : Nat) = (0 : Nat), tabs.n = tabs.n, Cap.of (0 : Nat) = Cap.of (0 : Nat), (0 : Nat) = (0 : Nat), holes.n = holes.n, Cap.of (0 : Nat)
    = Cap.of (0 : Nat), Fn.func (84 : FuncId) = Fn.func (84 : FuncId), (0 : Nat) = (0 : Nat), (0 : Nat) = (0 : Nat), (0 : Nat) = (0 : Nat), (0 : Nat) = (0 : Nat), (0 : Nat) = (0 : Nat),
    (0 : Nat) = (0 : Nat), IntKind.i64.wrap (many + (1 : Int)) = many', (0 : Int) = (0 : Int), (0 : Nat) = (0 : Nat), w.n = f'.n, Cap.of (0 : Nat) = Cap.of (0 : Nat), f'.n ≤ w.n, RowsEq
    (1 : Nat) f'.n (fun i => RowT.enc (w.get i)) fun i => RowT.enc (f'.get i)]) := by kernel_rfl
set_option maxRecDepth 100000 in
theorem on_mg (p : Play) (tabs holes : Rw Edge) (w : Rw Int) (has : Int → Bool) (many : Int) (f : Rw Int) (many' : Int) (f' : Rw Int) : (inFn (mkE Try.prog tab_cl) (onX Try.prog (onJ p tabs holes (rangeK Try.f26 0).1 (rangeK Try.f26 0).2 w has many f 0) [(True, .exit 0, onE p tabs holes (rangeK Try.f26 0).1 (rangeK Try.f26 0).2 w has many' f')]) Try.f85 onCap (onPre p tabs holes (rangeK Try.f26 0).1 (rangeK Try.f26 0).2 w has many f).hp 1032 fun v h _ => endU onIds v h) =
    Tree.br ((↑w.n : Int) == (↑tabs.n : Int)) (Tree.need (decide (w.n ≤ w.n) && true && decide ((0 : Nat) < w.n ∧ w.n ≤ (1000 : Nat))) (Tree.br (IntKind.i64.wrap (many + (1 : Int)) ==
    (2 : Int)) (Tree.leaf (AV.bool true false) ([((544 : Nat), Blk.cells (0 : Nat) (43 : Nat) [AV.slz (1008 : Nat) (0 : Nat) w.n (Cap.of (0 : Nat))]), ((520 : Nat), Blk.mpf IntKind.i64
    (AV.bool true false) has fun i => AV.bool false (has i)), ((505 : Nat), Blk.lp LoopState.done (some Code.ret) (pairT p tabs holes) (Array.mk [(56 : Nat)]) (rangeK Try.f26 0).1
    (rangeK Try.f26 0).2), ((416 : Nat), Blk.cells (0 : Nat) (3 : Nat) [AV.int false IntKind.i64 (IntKind.i64.wrap (many + (1 : Int)))]), ((32 : Nat), Blk.cells (0 : Nat) (28 : Nat)
    [AV.int true IntKind.i64 (0 : Int)]), ((24 : Nat), Blk.cells (0 : Nat) (43 : Nat) [AV.slz (1096 : Nat) (0 : Nat) w.n (Cap.of (0 : Nat))]), ((16 : Nat), Blk.cells (0 : Nat) (43 :
    Nat) [AV.slz (1016 : Nat) (0 : Nat) f.n (Cap.of (0 : Nat))]), ((1008 : Nat), Blk.rowz true (3 : Nat) [CK.int IntKind.i64] w.n fun i => RowT.enc (w.get i)), ((1 : Nat), Blk.frz
    [CK.int IntKind.i64, CK.int IntKind.i64, CK.int IntKind.i64, CK.int IntKind.i64, CK.int IntKind.i64, CK.int IntKind.i64, CK.int IntKind.i64] tabs.n fun i => RowT.enc (tabs.get i)),
    ((2 : Nat), Blk.frz [CK.int IntKind.i64, CK.int IntKind.i64, CK.int IntKind.i64, CK.int IntKind.i64, CK.int IntKind.i64, CK.int IntKind.i64, CK.int IntKind.i64] holes.n fun i =>
    RowT.enc (holes.get i)), ((464 : Nat), Blk.cellsR (0 : Nat) (42 : Nat) [AV.slz (1 : Nat) (0 : Nat) tabs.n (Cap.of (0 : Nat))]), ((472 : Nat), Blk.cellsR (0 : Nat) (42 : Nat) [AV.slz
    (2 : Nat) (0 : Nat) holes.n (Cap.of (0 : Nat))]), ((456 : Nat), Blk.cellsR (0 : Nat) (25 : Nat) [AV.int false IntKind.i64 p.length, AV.int false IntKind.i64 p.slack, AV.int false
    IntKind.i64 p.loose, AV.int false IntKind.i64 p.damp.lo, AV.int false IntKind.i64 p.damp.hi]), ((1096 : Nat), Blk.rowz true (3 : Nat) [CK.int IntKind.i64] w.n fun i => RowT.enc
    (w.get i)), ((1016 : Nat), Blk.rowz true (3 : Nat) [CK.int IntKind.i64] f.n fun i => RowT.enc (f.get i))])) (Tree.leaf (AV.bool true true) ([((544 : Nat), Blk.cells (0 : Nat) (43 :
    Nat) [AV.slz (1008 : Nat) (0 : Nat) w.n (Cap.of (0 : Nat))]), ((520 : Nat), Blk.mpf IntKind.i64 (AV.bool true false) has fun i => AV.bool false (has i)), ((505 : Nat), Blk.lp
    LoopState.ready none (pairT p tabs holes) (Array.mk [(56 : Nat)]) (rangeK Try.f26 0).1 (rangeK Try.f26 0).2), ((416 : Nat), Blk.cells (0 : Nat) (3 : Nat) [AV.int false IntKind.i64
    (IntKind.i64.wrap (many + (1 : Int)))]), ((32 : Nat), Blk.cells (0 : Nat) (28 : Nat) [AV.int false IntKind.i64 (0 : Int)]), ((24 : Nat), Blk.cells (0 : Nat) (43 : Nat) [AV.nils]),
    ((16 : Nat), Blk.cells (0 : Nat) (43 : Nat) [AV.slz (1096 : Nat) (0 : Nat) w.n (Cap.of (0 : Nat))]), ((1008 : Nat), Blk.rowz true (3 : Nat) [CK.int IntKind.i64] w.n fun i =>
    RowT.enc (w.get i)), ((1 : Nat), Blk.frz [CK.int IntKind.i64, CK.int IntKind.i64, CK.int IntKind.i64, CK.int IntKind.i64, CK.int IntKind.i64, CK.int IntKind.i64, CK.int IntKind.i64]
    tabs.n fun i => RowT.enc (tabs.get i)), ((2 : Nat), Blk.frz [CK.int IntKind.i64, CK.int IntKind.i64, CK.int IntKind.i64, CK.int IntKind.i64, CK.int IntKind.i64, CK.int IntKind.i64,
    CK.int IntKind.i64] holes.n fun i => RowT.enc (holes.get i)), ((464 : Nat), Blk.cellsR (0 : Nat) (42 : Nat) [AV.slz (1 : Nat) (0 : Nat) tabs.n (Cap.of (0 : Nat))]), ((472 : Nat),
    Blk.cellsR (0 : Nat) (42 : Nat) [AV.slz (2 : Nat) (0 : Nat) holes.n (Cap.of (0 : Nat))]), ((456 : Nat), Blk.cellsR (0 : Nat) (25 : Nat) [AV.int false IntKind.i64 p.length, AV.int
    false IntKind.i64 p.slack, AV.int false IntKind.i64 p.loose, AV.int false IntKind.i64 p.damp.lo, AV.int false IntKind.i64 p.damp.hi]), ((1096 : Nat), Blk.rowz true (3 : Nat) [CK.int
    IntKind.i64] w.n fun i => RowT.enc (w.get i))])))) (Tree.ask ((0 : Nat) = (0 : Nat)) (Tree.ask ((0 : Nat) = (0 : Nat)) (Tree.ask ((0 : Nat) = (0 : Nat)) (Tree.ask ((0 : Nat) = (0 :
    Nat)) (Tree.ask ((0 : Nat) = (0 : Nat)) (Tree.ask ((0 : Nat) = (0 : Nat)) (Tree.ask ((0 : Nat) = (0 : Nat)) (Tree.ask ((0 : Nat) = (0 : Nat)) (Tree.ask ((0 : Nat) = (0 : Nat))
    (Tree.ask ((0 : Nat) = (0 : Nat)) (Tree.ask ((0 : Nat) = (0 : Nat)) (Tree.ask ((0 : Nat) = (0 : Nat)) (Tree.ask ((0 : Nat) = (0 : Nat)) (Tree.ask ((0 : Nat) = (0 : Nat)) (Tree.ask
    ((0 : Nat) = (0 : Nat)) (Tree.ask (holes.n = holes.n) (Tree.ask (Cap.of (0 : Nat) = Cap.of (0 : Nat)) (Tree.ask ((↑holes.n : Int) = (↑holes.n : Int)) (Tree.ask ((0 : Int) = (0 :
    Int)) (Tree.ask ((0 : Nat) = (0 : Nat)) (Tree.ask (w.n = w.n) (Tree.ask (Cap.of (0 : Nat) = Cap.of (0 : Nat)) (Tree.ask (w.n ≤ w.n) (Tree.ask (RowsEq (1 : Nat) w.n (fun i =>
    RowT.enc (w.get i)) fun i => RowT.enc (w.get i)) (Tree.ask (MapEq (AV.bool true false) (AV.bool true false) has has (fun i => AV.bool false (has i)) fun i => AV.bool false (has i))
    (Tree.ask (LoopState.ready = LoopState.ready) (Tree.ask ((none : Option Code) = none) (Tree.ask (Array.mk [(56 : Tmp)] = Array.mk [(56 : Tmp)]) (Tree.ask ((rangeK Try.f26 0).1 =
    (rangeK Try.f26 0).1) (Tree.ask ((rangeK Try.f26 0).2 = (rangeK Try.f26 0).2) (Tree.ask (p.length = p.length) (Tree.ask (p.slack = p.slack) (Tree.ask (p.loose = p.loose) (Tree.ask
    (p.damp.lo = p.damp.lo) (Tree.ask (p.damp.hi = p.damp.hi) (Tree.ask ((0 : Nat) = (0 : Nat)) (Tree.ask (tabs.n = tabs.n) (Tree.ask (Cap.of (0 : Nat) = Cap.of (0 : Nat)) (Tree.ask ((0
    : Nat) = (0 : Nat)) (Tree.ask (holes.n = holes.n) (Tree.ask (Cap.of (0 : Nat) = Cap.of (0 : Nat)) (Tree.ask ((0 : Nat) = (0 : Nat)) (Tree.ask ((0 : Nat) = (0 : Nat)) (Tree.ask ((0 :
    Nat) = (0 : Nat)) (Tree.ask ((0 : Nat) = (0 : Nat)) (Tree.ask ((0 : Nat) = (0 : Nat)) (Tree.ask ((0 : Nat) = (0 : Nat)) (Tree.ask ((0 : Nat) = (0 : Nat)) (Tree.ask ((0 : Nat) = (0 :
    Nat)) (Tree.ask (Fn.func (68 : FuncId) = Fn.func (68 : FuncId)) (Tree.ask ((0 : Nat) = (0 : Nat)) (Tree.ask ((0 : Nat) = (0 : Nat)) (Tree.ask (false = false) (Tree.ask (p.length =
    p.length) (Tree.ask (p.slack = p.slack) (Tree.ask (p.loose = p.loose) (Tree.ask (p.damp.lo = p.damp.lo) (Tree.ask (p.damp.hi = p.damp.hi) (Tree.ask (p.ok = p.ok) (Tree.ask ((!p.ok)
    = !p.ok) (Tree.ask (false = false) (Tree.ask ((0 : Nat) = (0 : Nat)) (Tree.ask (tabs.n = tabs.n) (Tree.ask (Cap.of (0 : Nat) = Cap.of (0 : Nat)) (Tree.ask (allN (fun i => (tabs.get
    i).ok) tabs.n = allN (fun i => (tabs.get i).ok) tabs.n) (Tree.ask ((!allN (fun i => (tabs.get i).ok) tabs.n) = !allN (fun i => (tabs.get i).ok) tabs.n) (Tree.ask ((!allN (fun i =>
    (tabs.get i).ok) tabs.n) = !allN (fun i => (tabs.get i).ok) tabs.n) (Tree.ask (false = false) (Tree.ask ((0 : Nat) = (0 : Nat)) (Tree.ask (holes.n = holes.n) (Tree.ask (Cap.of (0 :
    Nat) = Cap.of (0 : Nat)) (Tree.ask (allN (fun i => (holes.get i).ok) holes.n = allN (fun i => (holes.get i).ok) holes.n) (Tree.ask ((!allN (fun i => (holes.get i).ok) holes.n) =
    !allN (fun i => (holes.get i).ok) holes.n) (Tree.ask ((!allN (fun i => (holes.get i).ok) holes.n) = !allN (fun i => (holes.get i).ok) holes.n) (Tree.ask (false = false) (Tree.ask
    ((0 : Nat) = (0 : Nat)) (Tree.ask (tabs.n = tabs.n) (Tree.ask (Cap.of (0 : Nat) = Cap.of (0 : Nat)) (Tree.ask ((↑tabs.n : Int) = (↑tabs.n : Int)) (Tree.ask (decide ((↑tabs.n : Int)
    > (8 : Int)) = decide ((↑tabs.n : Int) > (8 : Int))) (Tree.ask (false = false) (Tree.ask ((0 : Nat) = (0 : Nat)) (Tree.ask (holes.n = holes.n) (Tree.ask (Cap.of (0 : Nat) = Cap.of
    (0 : Nat)) (Tree.ask ((↑holes.n : Int) = (↑holes.n : Int)) (Tree.ask (decide ((↑holes.n : Int) > (8 : Int)) = decide ((↑holes.n : Int) > (8 : Int))) (Tree.ask (decide ((↑holes.n :
    Int) > (8 : Int)) = decide ((↑holes.n : Int) > (8 : Int))) (Tree.ask (false = false) (Tree.ask ((0 : Nat) = (0 : Nat)) (Tree.ask (tabs.n = tabs.n) (Tree.ask (Cap.of (0 : Nat) =
    Cap.of (0 : Nat)) (Tree.ask (Fn.func (68 : FuncId) = Fn.func (68 : FuncId)) (Tree.ask (Fn.func (69 : FuncId) = Fn.func (69 : FuncId)) (Tree.ask ((0 : Nat) = (0 : Nat)) (Tree.ask ((0
    : Nat) = (0 : Nat)) (Tree.ask (decide (idxOf (firstN (kindE (FnB.mk (1 : Int)) tabs) tabs.n (0 : Nat)) ≥ (0 : Int)) = decide (idxOf (firstN (kindE (FnB.mk (1 : Int)) tabs) tabs.n (0
    : Nat)) ≥ (0 : Int))) (Tree.ask (false = false) (Tree.ask ((0 : Nat) = (0 : Nat)) (Tree.ask (holes.n = holes.n) (Tree.ask (Cap.of (0 : Nat) = Cap.of (0 : Nat)) (Tree.ask (Fn.func
    (68 : FuncId) = Fn.func (68 : FuncId)) (Tree.ask (Fn.func (69 : FuncId) = Fn.func (69 : FuncId)) (Tree.ask ((0 : Nat) = (0 : Nat)) (Tree.ask ((0 : Nat) = (0 : Nat)) (Tree.ask
    (decide (idxOf (firstN (kindE (FnB.mk (2 : Int)) holes) holes.n (0 : Nat)) ≥ (0 : Int)) = decide (idxOf (firstN (kindE (FnB.mk (2 : Int)) holes) holes.n (0 : Nat)) ≥ (0 : Int)))
    (Tree.ask (decide (idxOf (firstN (kindE (FnB.mk (2 : Int)) holes) holes.n (0 : Nat)) ≥ (0 : Int)) = decide (idxOf (firstN (kindE (FnB.mk (2 : Int)) holes) holes.n (0 : Nat)) ≥ (0 :
    Int))) (Tree.ask (false = false) (Tree.ask ((0 : Nat) = (0 : Nat)) (Tree.ask (tabs.n = tabs.n) (Tree.ask (Cap.of (0 : Nat) = Cap.of (0 : Nat)) (Tree.ask ((↑tabs.n : Int) = (↑tabs.n
    : Int)) (Tree.ask ((0 : Nat) = (0 : Nat)) (Tree.ask (holes.n = holes.n) (Tree.ask (Cap.of (0 : Nat) = Cap.of (0 : Nat)) (Tree.ask ((↑holes.n : Int) = (↑holes.n : Int)) (Tree.ask
    (((↑tabs.n : Int) != (↑holes.n : Int)) = ((↑tabs.n : Int) != (↑holes.n : Int))) (Tree.ask (p.length = p.length) (Tree.ask (p.slack = p.slack) (Tree.ask (p.loose = p.loose) (Tree.ask
    (p.damp.lo = p.damp.lo) (Tree.ask (p.damp.hi = p.damp.hi) (Tree.ask ((0 : Nat) = (0 : Nat)) (Tree.ask (tabs.n = tabs.n) (Tree.ask (Cap.of (0 : Nat) = Cap.of (0 : Nat)) (Tree.ask ((0
    : Nat) = (0 : Nat)) (Tree.ask (holes.n = holes.n) (Tree.ask (Cap.of (0 : Nat) = Cap.of (0 : Nat)) (Tree.ask (Fn.func (84 : FuncId) = Fn.func (84 : FuncId)) (Tree.ask ((0 : Nat) = (0
    : Nat)) (Tree.ask ((0 : Nat) = (0 : Nat)) (Tree.ask ((0 : Nat) = (0 : Nat)) (Tree.ask ((0 : Nat) = (0 : Nat)) (Tree.ask ((0 : Nat) = (0 : Nat)) (Tree.ask ((0 : Nat) = (0 : Nat))
    (Tree.ask (many = many) (Tree.ask ((0 : Int) = (0 : Int)) (Tree.ask ((0 : Nat) = (0 : Nat)) (Tree.ask (f.n = f.n) (Tree.ask (Cap.of (0 : Nat) = Cap.of (0 : Nat)) (Tree.ask (f.n ≤
    f.n) (Tree.ask (RowsEq (1 : Nat) f.n (fun i => RowT.enc (f.get i)) fun i => RowT.enc (f.get i)) (Tree.ask (Fn.func (85 : FuncId) = Fn.func (85 : FuncId)) (Tree.ask ((0 : Nat) = (0 :
    Nat)) (Tree.ask ((0 : Nat) = (0 : Nat)) (Tree.ask ((0 : Nat) = (0 : Nat)) (Tree.ask ((0 : Nat) = (0 : Nat)) (Tree.ask ((0 : Nat) = (0 : Nat)) (Tree.ask ((0 : Nat) = (0 : Nat))
    (Tree.ask ((0 : Nat) = (0 : Nat)) (Tree.ask ((0 : Nat) = (0 : Nat)) (Tree.ask ((0 : Nat) = (0 : Nat)) (Tree.ask ((0 : Nat) = (0 : Nat)) (Tree.ask ((0 : Nat) = (0 : Nat)) (Tree.ask
    ((0 : Nat) = (0 : Nat)) (Tree.ask ((0 : Nat) = (0 : Nat)) (Tree.ask ((0 : Nat) = (0 : Nat)) (Tree.ask ((0 : Nat) = (0 : Nat)) (Tree.ask (holes.n = holes.n) (Tree.ask (Cap.of (0 :
    Nat) = Cap.of (0 : Nat)) (Tree.ask ((0 : Nat) = (0 : Nat)) (Tree.ask (tabs.n = tabs.n) (Tree.ask (Cap.of (0 : Nat) = Cap.of (0 : Nat)) (Tree.ask (p.length = p.length) (Tree.ask
    (p.slack = p.slack) (Tree.ask (p.loose = p.loose) (Tree.ask (p.damp.lo = p.damp.lo) (Tree.ask (p.damp.hi = p.damp.hi) (Tree.ask (tabs.n ≤ tabs.n) (Tree.ask (RowsEq (7 : Nat) tabs.n
    (fun i => RowT.enc (tabs.get i)) fun i => RowT.enc (tabs.get i)) (Tree.ask (holes.n ≤ holes.n) (Tree.ask (RowsEq (7 : Nat) holes.n (fun i => RowT.enc (holes.get i)) fun i =>
    RowT.enc (holes.get i)) (Tree.asm (True) (Tree.all (fun (g0 : Nat → Value) => Tree.leaf (AV.bool true true) ([((544 : Nat), Blk.cells (0 : Nat) (43 : Nat) [AV.slz (1040 : Nat) (0 :
    Nat) w.n (Cap.of (0 : Nat))]), ((520 : Nat), Blk.mpf IntKind.i64 (AV.bool true false) has fun i => AV.bool false (has i)), ((505 : Nat), Blk.lp LoopState.ready none (pairT p tabs
    holes) (Array.mk [(56 : Nat)]) (rangeK Try.f26 0).1 (rangeK Try.f26 0).2), ((416 : Nat), Blk.cells (0 : Nat) (3 : Nat) [AV.int false IntKind.i64 many']), ((32 : Nat), Blk.cells (0 :
    Nat) (28 : Nat) [AV.int false IntKind.i64 (0 : Int)]), ((24 : Nat), Blk.cells (0 : Nat) (43 : Nat) [AV.nils]), ((16 : Nat), Blk.cells (0 : Nat) (43 : Nat) [AV.slz (1048 : Nat) (0 :
    Nat) f'.n (Cap.of (0 : Nat))]), ((1040 : Nat), Blk.rowz true (3 : Nat) [CK.int IntKind.i64] w.n fun i => RowT.enc (w.get i)), ((1048 : Nat), Blk.rowz true (3 : Nat) [CK.int
    IntKind.i64] f'.n fun i => RowT.enc (f'.get
    i))]))))))))))))))))))))))))))))))))))))))))))))))))))))))))))))))))))))))))))))))))))))))))))))))))))))))))))))))))))))))))))))))))))))))))))))))))))))))))))))))))))))))))))))))) := by kernel_rfl
set_option maxRecDepth 100000 in
theorem on_ms (p : Play) (tabs holes : Rw Edge) (w : Rw Int) (has : Int → Bool) (many : Int) (f f' g' : Rw Int) : (inFn (mkE Try.prog tab_cl) (onX Try.prog (onJ p tabs holes (rangeK Try.f26 0).1 (rangeK Try.f26 0).2 w has many f 0) [(True, .ret, onT p tabs holes (rangeK Try.f26 0).1 (rangeK Try.f26 0).2 w has f' g')]) Try.f85 onCap (onPre p tabs holes (rangeK Try.f26 0).1 (rangeK Try.f26 0).2 w has many f).hp 1032 fun v h _ => endU onIds v h) =
    Tree.br ((↑w.n : Int) == (↑tabs.n : Int)) (Tree.need (decide (w.n ≤ w.n) && true && decide ((0 : Nat) < w.n ∧ w.n ≤ (1000 : Nat))) (Tree.br (IntKind.i64.wrap (many + (1 : Int)) ==
    (2 : Int)) (Tree.leaf (AV.bool true false) ([((544 : Nat), Blk.cells (0 : Nat) (43 : Nat) [AV.slz (1008 : Nat) (0 : Nat) w.n (Cap.of (0 : Nat))]), ((520 : Nat), Blk.mpf IntKind.i64
    (AV.bool true false) has fun i => AV.bool false (has i)), ((505 : Nat), Blk.lp LoopState.done (some Code.ret) (pairT p tabs holes) (Array.mk [(56 : Nat)]) (rangeK Try.f26 0).1
    (rangeK Try.f26 0).2), ((416 : Nat), Blk.cells (0 : Nat) (3 : Nat) [AV.int false IntKind.i64 (IntKind.i64.wrap (many + (1 : Int)))]), ((32 : Nat), Blk.cells (0 : Nat) (28 : Nat)
    [AV.int true IntKind.i64 (0 : Int)]), ((24 : Nat), Blk.cells (0 : Nat) (43 : Nat) [AV.slz (1096 : Nat) (0 : Nat) w.n (Cap.of (0 : Nat))]), ((16 : Nat), Blk.cells (0 : Nat) (43 :
    Nat) [AV.slz (1016 : Nat) (0 : Nat) f.n (Cap.of (0 : Nat))]), ((1008 : Nat), Blk.rowz true (3 : Nat) [CK.int IntKind.i64] w.n fun i => RowT.enc (w.get i)), ((1 : Nat), Blk.frz
    [CK.int IntKind.i64, CK.int IntKind.i64, CK.int IntKind.i64, CK.int IntKind.i64, CK.int IntKind.i64, CK.int IntKind.i64, CK.int IntKind.i64] tabs.n fun i => RowT.enc (tabs.get i)),
    ((2 : Nat), Blk.frz [CK.int IntKind.i64, CK.int IntKind.i64, CK.int IntKind.i64, CK.int IntKind.i64, CK.int IntKind.i64, CK.int IntKind.i64, CK.int IntKind.i64] holes.n fun i =>
    RowT.enc (holes.get i)), ((464 : Nat), Blk.cellsR (0 : Nat) (42 : Nat) [AV.slz (1 : Nat) (0 : Nat) tabs.n (Cap.of (0 : Nat))]), ((472 : Nat), Blk.cellsR (0 : Nat) (42 : Nat) [AV.slz
    (2 : Nat) (0 : Nat) holes.n (Cap.of (0 : Nat))]), ((456 : Nat), Blk.cellsR (0 : Nat) (25 : Nat) [AV.int false IntKind.i64 p.length, AV.int false IntKind.i64 p.slack, AV.int false
    IntKind.i64 p.loose, AV.int false IntKind.i64 p.damp.lo, AV.int false IntKind.i64 p.damp.hi]), ((1096 : Nat), Blk.rowz true (3 : Nat) [CK.int IntKind.i64] w.n fun i => RowT.enc
    (w.get i)), ((1016 : Nat), Blk.rowz true (3 : Nat) [CK.int IntKind.i64] f.n fun i => RowT.enc (f.get i))])) (Tree.leaf (AV.bool true true) ([((544 : Nat), Blk.cells (0 : Nat) (43 :
    Nat) [AV.slz (1008 : Nat) (0 : Nat) w.n (Cap.of (0 : Nat))]), ((520 : Nat), Blk.mpf IntKind.i64 (AV.bool true false) has fun i => AV.bool false (has i)), ((505 : Nat), Blk.lp
    LoopState.ready none (pairT p tabs holes) (Array.mk [(56 : Nat)]) (rangeK Try.f26 0).1 (rangeK Try.f26 0).2), ((416 : Nat), Blk.cells (0 : Nat) (3 : Nat) [AV.int false IntKind.i64
    (IntKind.i64.wrap (many + (1 : Int)))]), ((32 : Nat), Blk.cells (0 : Nat) (28 : Nat) [AV.int false IntKind.i64 (0 : Int)]), ((24 : Nat), Blk.cells (0 : Nat) (43 : Nat) [AV.nils]),
    ((16 : Nat), Blk.cells (0 : Nat) (43 : Nat) [AV.slz (1096 : Nat) (0 : Nat) w.n (Cap.of (0 : Nat))]), ((1008 : Nat), Blk.rowz true (3 : Nat) [CK.int IntKind.i64] w.n fun i =>
    RowT.enc (w.get i)), ((1 : Nat), Blk.frz [CK.int IntKind.i64, CK.int IntKind.i64, CK.int IntKind.i64, CK.int IntKind.i64, CK.int IntKind.i64, CK.int IntKind.i64, CK.int IntKind.i64]
    tabs.n fun i => RowT.enc (tabs.get i)), ((2 : Nat), Blk.frz [CK.int IntKind.i64, CK.int IntKind.i64, CK.int IntKind.i64, CK.int IntKind.i64, CK.int IntKind.i64, CK.int IntKind.i64,
    CK.int IntKind.i64] holes.n fun i => RowT.enc (holes.get i)), ((464 : Nat), Blk.cellsR (0 : Nat) (42 : Nat) [AV.slz (1 : Nat) (0 : Nat) tabs.n (Cap.of (0 : Nat))]), ((472 : Nat),
    Blk.cellsR (0 : Nat) (42 : Nat) [AV.slz (2 : Nat) (0 : Nat) holes.n (Cap.of (0 : Nat))]), ((456 : Nat), Blk.cellsR (0 : Nat) (25 : Nat) [AV.int false IntKind.i64 p.length, AV.int
    false IntKind.i64 p.slack, AV.int false IntKind.i64 p.loose, AV.int false IntKind.i64 p.damp.lo, AV.int false IntKind.i64 p.damp.hi]), ((1096 : Nat), Blk.rowz true (3 : Nat) [CK.int
    IntKind.i64] w.n fun i => RowT.enc (w.get i))])))) (Tree.ask ((0 : Nat) = (0 : Nat)) (Tree.ask ((0 : Nat) = (0 : Nat)) (Tree.ask ((0 : Nat) = (0 : Nat)) (Tree.ask ((0 : Nat) = (0 :
    Nat)) (Tree.ask ((0 : Nat) = (0 : Nat)) (Tree.ask ((0 : Nat) = (0 : Nat)) (Tree.ask ((0 : Nat) = (0 : Nat)) (Tree.ask ((0 : Nat) = (0 : Nat)) (Tree.ask ((0 : Nat) = (0 : Nat))
    (Tree.ask ((0 : Nat) = (0 : Nat)) (Tree.ask ((0 : Nat) = (0 : Nat)) (Tree.ask ((0 : Nat) = (0 : Nat)) (Tree.ask ((0 : Nat) = (0 : Nat)) (Tree.ask ((0 : Nat) = (0 : Nat)) (Tree.ask
    ((0 : Nat) = (0 : Nat)) (Tree.ask (holes.n = holes.n) (Tree.ask (Cap.of (0 : Nat) = Cap.of (0 : Nat)) (Tree.ask ((↑holes.n : Int) = (↑holes.n : Int)) (Tree.ask ((0 : Int) = (0 :
    Int)) (Tree.ask ((0 : Nat) = (0 : Nat)) (Tree.ask (w.n = w.n) (Tree.ask (Cap.of (0 : Nat) = Cap.of (0 : Nat)) (Tree.ask (w.n ≤ w.n) (Tree.ask (RowsEq (1 : Nat) w.n (fun i =>
    RowT.enc (w.get i)) fun i => RowT.enc (w.get i)) (Tree.ask (MapEq (AV.bool true false) (AV.bool true false) has has (fun i => AV.bool false (has i)) fun i => AV.bool false (has i))
    (Tree.ask (LoopState.ready = LoopState.ready) (Tree.ask ((none : Option Code) = none) (Tree.ask (Array.mk [(56 : Tmp)] = Array.mk [(56 : Tmp)]) (Tree.ask ((rangeK Try.f26 0).1 =
    (rangeK Try.f26 0).1) (Tree.ask ((rangeK Try.f26 0).2 = (rangeK Try.f26 0).2) (Tree.ask (p.length = p.length) (Tree.ask (p.slack = p.slack) (Tree.ask (p.loose = p.loose) (Tree.ask
    (p.damp.lo = p.damp.lo) (Tree.ask (p.damp.hi = p.damp.hi) (Tree.ask ((0 : Nat) = (0 : Nat)) (Tree.ask (tabs.n = tabs.n) (Tree.ask (Cap.of (0 : Nat) = Cap.of (0 : Nat)) (Tree.ask ((0
    : Nat) = (0 : Nat)) (Tree.ask (holes.n = holes.n) (Tree.ask (Cap.of (0 : Nat) = Cap.of (0 : Nat)) (Tree.ask ((0 : Nat) = (0 : Nat)) (Tree.ask ((0 : Nat) = (0 : Nat)) (Tree.ask ((0 :
    Nat) = (0 : Nat)) (Tree.ask ((0 : Nat) = (0 : Nat)) (Tree.ask ((0 : Nat) = (0 : Nat)) (Tree.ask ((0 : Nat) = (0 : Nat)) (Tree.ask ((0 : Nat) = (0 : Nat)) (Tree.ask ((0 : Nat) = (0 :
    Nat)) (Tree.ask (Fn.func (68 : FuncId) = Fn.func (68 : FuncId)) (Tree.ask ((0 : Nat) = (0 : Nat)) (Tree.ask ((0 : Nat) = (0 : Nat)) (Tree.ask (false = false) (Tree.ask (p.length =
    p.length) (Tree.ask (p.slack = p.slack) (Tree.ask (p.loose = p.loose) (Tree.ask (p.damp.lo = p.damp.lo) (Tree.ask (p.damp.hi = p.damp.hi) (Tree.ask (p.ok = p.ok) (Tree.ask ((!p.ok)
    = !p.ok) (Tree.ask (false = false) (Tree.ask ((0 : Nat) = (0 : Nat)) (Tree.ask (tabs.n = tabs.n) (Tree.ask (Cap.of (0 : Nat) = Cap.of (0 : Nat)) (Tree.ask (allN (fun i => (tabs.get
    i).ok) tabs.n = allN (fun i => (tabs.get i).ok) tabs.n) (Tree.ask ((!allN (fun i => (tabs.get i).ok) tabs.n) = !allN (fun i => (tabs.get i).ok) tabs.n) (Tree.ask ((!allN (fun i =>
    (tabs.get i).ok) tabs.n) = !allN (fun i => (tabs.get i).ok) tabs.n) (Tree.ask (false = false) (Tree.ask ((0 : Nat) = (0 : Nat)) (Tree.ask (holes.n = holes.n) (Tree.ask (Cap.of (0 :
    Nat) = Cap.of (0 : Nat)) (Tree.ask (allN (fun i => (holes.get i).ok) holes.n = allN (fun i => (holes.get i).ok) holes.n) (Tree.ask ((!allN (fun i => (holes.get i).ok) holes.n) =
    !allN (fun i => (holes.get i).ok) holes.n) (Tree.ask ((!allN (fun i => (holes.get i).ok) holes.n) = !allN (fun i => (holes.get i).ok) holes.n) (Tree.ask (false = false) (Tree.ask
    ((0 : Nat) = (0 : Nat)) (Tree.ask (tabs.n = tabs.n) (Tree.ask (Cap.of (0 : Nat) = Cap.of (0 : Nat)) (Tree.ask ((↑tabs.n : Int) = (↑tabs.n : Int)) (Tree.ask (decide ((↑tabs.n : Int)
    > (8 : Int)) = decide ((↑tabs.n : Int) > (8 : Int))) (Tree.ask (false = false) (Tree.ask ((0 : Nat) = (0 : Nat)) (Tree.ask (holes.n = holes.n) (Tree.ask (Cap.of (0 : Nat) = Cap.of
    (0 : Nat)) (Tree.ask ((↑holes.n : Int) = (↑holes.n : Int)) (Tree.ask (decide ((↑holes.n : Int) > (8 : Int)) = decide ((↑holes.n : Int) > (8 : Int))) (Tree.ask (decide ((↑holes.n :
    Int) > (8 : Int)) = decide ((↑holes.n : Int) > (8 : Int))) (Tree.ask (false = false) (Tree.ask ((0 : Nat) = (0 : Nat)) (Tree.ask (tabs.n = tabs.n) (Tree.ask (Cap.of (0 : Nat) =
    Cap.of (0 : Nat)) (Tree.ask (Fn.func (68 : FuncId) = Fn.func (68 : FuncId)) (Tree.ask (Fn.func (69 : FuncId) = Fn.func (69 : FuncId)) (Tree.ask ((0 : Nat) = (0 : Nat)) (Tree.ask ((0
    : Nat) = (0 : Nat)) (Tree.ask (decide (idxOf (firstN (kindE (FnB.mk (1 : Int)) tabs) tabs.n (0 : Nat)) ≥ (0 : Int)) = decide (idxOf (firstN (kindE (FnB.mk (1 : Int)) tabs) tabs.n (0
    : Nat)) ≥ (0 : Int))) (Tree.ask (false = false) (Tree.ask ((0 : Nat) = (0 : Nat)) (Tree.ask (holes.n = holes.n) (Tree.ask (Cap.of (0 : Nat) = Cap.of (0 : Nat)) (Tree.ask (Fn.func
    (68 : FuncId) = Fn.func (68 : FuncId)) (Tree.ask (Fn.func (69 : FuncId) = Fn.func (69 : FuncId)) (Tree.ask ((0 : Nat) = (0 : Nat)) (Tree.ask ((0 : Nat) = (0 : Nat)) (Tree.ask
    (decide (idxOf (firstN (kindE (FnB.mk (2 : Int)) holes) holes.n (0 : Nat)) ≥ (0 : Int)) = decide (idxOf (firstN (kindE (FnB.mk (2 : Int)) holes) holes.n (0 : Nat)) ≥ (0 : Int)))
    (Tree.ask (decide (idxOf (firstN (kindE (FnB.mk (2 : Int)) holes) holes.n (0 : Nat)) ≥ (0 : Int)) = decide (idxOf (firstN (kindE (FnB.mk (2 : Int)) holes) holes.n (0 : Nat)) ≥ (0 :
    Int))) (Tree.ask (false = false) (Tree.ask ((0 : Nat) = (0 : Nat)) (Tree.ask (tabs.n = tabs.n) (Tree.ask (Cap.of (0 : Nat) = Cap.of (0 : Nat)) (Tree.ask ((↑tabs.n : Int) = (↑tabs.n
    : Int)) (Tree.ask ((0 : Nat) = (0 : Nat)) (Tree.ask (holes.n = holes.n) (Tree.ask (Cap.of (0 : Nat) = Cap.of (0 : Nat)) (Tree.ask ((↑holes.n : Int) = (↑holes.n : Int)) (Tree.ask
    (((↑tabs.n : Int) != (↑holes.n : Int)) = ((↑tabs.n : Int) != (↑holes.n : Int))) (Tree.ask (p.length = p.length) (Tree.ask (p.slack = p.slack) (Tree.ask (p.loose = p.loose) (Tree.ask
    (p.damp.lo = p.damp.lo) (Tree.ask (p.damp.hi = p.damp.hi) (Tree.ask ((0 : Nat) = (0 : Nat)) (Tree.ask (tabs.n = tabs.n) (Tree.ask (Cap.of (0 : Nat) = Cap.of (0 : Nat)) (Tree.ask ((0
    : Nat) = (0 : Nat)) (Tree.ask (holes.n = holes.n) (Tree.ask (Cap.of (0 : Nat) = Cap.of (0 : Nat)) (Tree.ask (Fn.func (84 : FuncId) = Fn.func (84 : FuncId)) (Tree.ask ((0 : Nat) = (0
    : Nat)) (Tree.ask ((0 : Nat) = (0 : Nat)) (Tree.ask ((0 : Nat) = (0 : Nat)) (Tree.ask ((0 : Nat) = (0 : Nat)) (Tree.ask ((0 : Nat) = (0 : Nat)) (Tree.ask ((0 : Nat) = (0 : Nat))
    (Tree.ask (many = many) (Tree.ask ((0 : Int) = (0 : Int)) (Tree.ask ((0 : Nat) = (0 : Nat)) (Tree.ask (f.n = f.n) (Tree.ask (Cap.of (0 : Nat) = Cap.of (0 : Nat)) (Tree.ask (f.n ≤
    f.n) (Tree.ask (RowsEq (1 : Nat) f.n (fun i => RowT.enc (f.get i)) fun i => RowT.enc (f.get i)) (Tree.ask (Fn.func (85 : FuncId) = Fn.func (85 : FuncId)) (Tree.ask ((0 : Nat) = (0 :
    Nat)) (Tree.ask ((0 : Nat) = (0 : Nat)) (Tree.ask ((0 : Nat) = (0 : Nat)) (Tree.ask ((0 : Nat) = (0 : Nat)) (Tree.ask ((0 : Nat) = (0 : Nat)) (Tree.ask ((0 : Nat) = (0 : Nat))
    (Tree.ask ((0 : Nat) = (0 : Nat)) (Tree.ask ((0 : Nat) = (0 : Nat)) (Tree.ask ((0 : Nat) = (0 : Nat)) (Tree.ask ((0 : Nat) = (0 : Nat)) (Tree.ask ((0 : Nat) = (0 : Nat)) (Tree.ask
    ((0 : Nat) = (0 : Nat)) (Tree.ask ((0 : Nat) = (0 : Nat)) (Tree.ask ((0 : Nat) = (0 : Nat)) (Tree.ask ((0 : Nat) = (0 : Nat)) (Tree.ask (holes.n = holes.n) (Tree.ask (Cap.of (0 :
    Nat) = Cap.of (0 : Nat)) (Tree.ask ((0 : Nat) = (0 : Nat)) (Tree.ask (tabs.n = tabs.n) (Tree.ask (Cap.of (0 : Nat) = Cap.of (0 : Nat)) (Tree.ask (p.length = p.length) (Tree.ask
    (p.slack = p.slack) (Tree.ask (p.loose = p.loose) (Tree.ask (p.damp.lo = p.damp.lo) (Tree.ask (p.damp.hi = p.damp.hi) (Tree.ask (tabs.n ≤ tabs.n) (Tree.ask (RowsEq (7 : Nat) tabs.n
    (fun i => RowT.enc (tabs.get i)) fun i => RowT.enc (tabs.get i)) (Tree.ask (holes.n ≤ holes.n) (Tree.ask (RowsEq (7 : Nat) holes.n (fun i => RowT.enc (holes.get i)) fun i =>
    RowT.enc (holes.get i)) (Tree.asm (True) (Tree.all (fun (g0 : Nat → Value) => Tree.leaf (AV.bool false false) ([((544 : Nat), Blk.cells (0 : Nat) (43 : Nat) [AV.slz (1040 : Nat) (0
    : Nat) w.n (Cap.of (0 : Nat))]), ((520 : Nat), Blk.mpf IntKind.i64 (AV.bool true false) has fun i => AV.bool false (has i)), ((505 : Nat), Blk.lp LoopState.done (some Code.ret)
    (pairT p tabs holes) (Array.mk [(56 : Nat)]) (rangeK Try.f26 0).1 (rangeK Try.f26 0).2), ((416 : Nat), Blk.cells (0 : Nat) (3 : Nat) [AV.int false IntKind.i64 (2 : Int)]), ((32 :
    Nat), Blk.cells (0 : Nat) (28 : Nat) [AV.int false IntKind.i64 (0 : Int)]), ((24 : Nat), Blk.cells (0 : Nat) (43 : Nat) [AV.slz (1056 : Nat) (0 : Nat) g'.n (Cap.of (0 : Nat))]),
    ((16 : Nat), Blk.cells (0 : Nat) (43 : Nat) [AV.slz (1048 : Nat) (0 : Nat) f'.n (Cap.of (0 : Nat))]), ((1040 : Nat), Blk.rowz true (3 : Nat) [CK.int IntKind.i64] w.n fun i =>
    RowT.enc (w.get i)), ((1056 : Nat), Blk.rowz true (3 : Nat) [CK.int IntKind.i64] g'.n fun i => RowT.enc (g'.get i)), ((1048 : Nat), Blk.rowz true (3 : Nat) [CK.int IntKind.i64] f'.n
    fun i => RowT.enc (f'.get
    i))]))))))))))))))))))))))))))))))))))))))))))))))))))))))))))))))))))))))))))))))))))))))))))))))))))))))))))))))))))))))))))))))))))))))))))))))))))))))))))))))))))))))))))))))) := by kernel_rfl
set_option maxRecDepth 100000 in
theorem on_mg2 (p : Play) (tabs holes : Rw Edge) (w : Rw Int) (has : Int → Bool) (many : Int) (f : Rw Int) (many' : Int) (f' : Rw Int) : subE 1032 [(AV.bool true true)] ([((544 : Nat), Blk.cells (0 : Nat) (43 : Nat) [AV.slz (1040 : Nat) (0 : Nat) w.n (Cap.of (0 : Nat))]), ((520 : Nat), Blk.mpf IntKind.i64 (AV.bool true false) has fun i => AV.bool false (has i)), ((505 : Nat), Blk.lp LoopState.ready none (pairT p tabs holes) (Array.mk [(56 : Nat)]) (rangeK Try.f26 0).1 (rangeK Try.f26 0).2), ((416 : Nat), Blk.cells (0 : Nat) (3 : Nat) [AV.int false IntKind.i64 many']), ((32 : Nat), Blk.cells (0 : Nat) (28 : Nat) [AV.int false IntKind.i64 (0 : Int)]), ((24 : Nat), Blk.cells (0 : Nat) (43 : Nat) [AV.nils]), ((16 : Nat), Blk.cells (0 : Nat) (43 : Nat) [AV.slz (1048 : Nat) (0 : Nat) f'.n (Cap.of (0 : Nat))]), ((1040 : Nat), Blk.rowz true (3 : Nat) [CK.int IntKind.i64] w.n fun i => RowT.enc (w.get i)), ((1048 : Nat), Blk.rowz true (3 : Nat) [CK.int IntKind.i64] f'.n fun i => RowT.enc (f'.get i))]) (resU (onU p tabs holes (rangeK Try.f26 0).1 (rangeK Try.f26 0).2 w has many f many' f')) = (
    some [true = true, (0 : Nat) = (0 : Nat), w.n = w.n, Cap.of (0 : Nat) = Cap.of (0 : Nat), w.n ≤ w.n, RowsEq (1 : Nat) w.n (fun i => RowT.enc (w.get i)) fun i => RowT.enc (w.get i),
    MapEq (AV.bool true false) (AV.bool true false) has has (fun i => AV.bool false (has i)) fun i => AV.bool false (has i), LoopState.ready = LoopState.ready, (none : Option Code) =
    none, Array.mk [(56 : Nat)] = Array.mk [(56 : Tmp)], (rangeK Try.f26 0).1 = (rangeK Try.f26 0).1, (rangeK Try.f26 0).2 = (rangeK Try.f26 0).2, p.length = p.length, p.slack =
    p.slack, p.loose = p.loose, p.damp.lo = p.damp.lo, p.damp.hi = p.damp.hi, (0 : Nat) = (0 : Nat), tabs.n = tabs.n, Cap.of (0 : Nat) = Cap.of (0 : Nat), (0 : Nat) = (0 : Nat), holes.n
    = holes.n, Cap.of (0 : Nat) = Cap.of (0 : Nat), (0 : Nat) = (0 : Nat), (0 : Nat) = (0 : Nat), (0 : Nat) = (0 : Nat), (0 : Nat) = (0 : Nat), (0 : Nat) = (0 : Nat), (0 : Nat) = (0 :
    Nat), (0 : Nat) = (0 : Nat), (0 : Nat) = (0 : Nat), Fn.func (68 : FuncId) = Fn.func (68 : FuncId), (0 : Nat) = (0 : Nat), (0 : Nat) = (0 : Nat), false = false, p.length = p.length,
    p.slack = p.slack, p.loose = p.loose, p.damp.lo = p.damp.lo, p.damp.hi = p.damp.hi, p.ok = p.ok, (!p.ok) = !p.ok, false = false, (0 : Nat) = (0 : Nat), tabs.n = tabs.n, Cap.of (0 :
    Nat) = Cap.of (0 : Nat), allN (fun i => (tabs.get i).ok) tabs.n = allN (fun i => (tabs.get i).ok) tabs.n, (!allN (fun i => (tabs.get i).ok) tabs.n) = !allN (fun i => (tabs.get
    i).ok) tabs.n, (!allN (fun i => (tabs.get i).ok) tabs.n) = !allN (fun i => (tabs.get i).ok) tabs.n, false = false, (0 : Nat) = (0 : Nat), holes.n = holes.n, Cap.of (0 : Nat) =
    Cap.of (0 : Nat), allN (fun i => (holes.get i).ok) holes.n = allN (fun i => (holes.get i).ok) holes.n, (!allN (fun i => (holes.get i).ok) holes.n) = !allN (fun i => (holes.get
    i).ok) holes.n, (!allN (fun i => (holes.get i).ok) holes.n) = !allN (fun i => (holes.get i).ok) holes.n, false = false, (0 : Nat) = (0 : Nat), tabs.n = tabs.n, Cap.of (0 : Nat) =
    Cap.of (0 : Nat), (↑tabs.n : Int) = (↑tabs.n : Int), decide ((↑tabs.n : Int) > (8 : Int)) = decide ((↑tabs.n : Int) > (8 : Int)), false = false, (0 : Nat) = (0 : Nat), holes.n =
    holes.n, Cap.of (0 : Nat) = Cap.of (0 : Nat), (↑holes.n : Int) = (↑holes.n : Int), decide ((↑holes.n : Int) > (8 : Int)) = decide ((↑holes.n : Int) > (8 : Int)), decide ((↑holes.n :
    Int) > (8 : Int)) = decide ((↑holes.n : Int) > (8 : Int)), false = false, (0 : Nat) = (0 : Nat), tabs.n = tabs.n, Cap.of (0 : Nat) = Cap.of (0 : Nat), Fn.func (68 : FuncId) =
    Fn.func (68 : FuncId), Fn.func (69 : FuncId) = Fn.func (69 : FuncId), (0 : Nat) = (0 : Nat), (0 : Nat) = (0 : Nat), decide (idxOf (firstN (kindE (FnB.mk (1 : Int)) tabs) tabs.n (0 :
    Nat)) ≥ (0 : Int)) = decide (idxOf (firstN (kindE (FnB.mk (1 : Int)) tabs) tabs.n (0 : Nat)) ≥ (0 : Int)), false = false, (0 : Nat) = (0 : Nat), holes.n = holes.n, Cap.of (0 : Nat)
    = Cap.of (0 : Nat), Fn.func (68 : FuncId) = Fn.func (68 : FuncId), Fn.func (69 : FuncId) = Fn.func (69 : FuncId), (0 : Nat) = (0 : Nat), (0 : Nat) = (0 : Nat), decide (idxOf (firstN
    (kindE (FnB.mk (2 : Int)) holes) holes.n (0 : Nat)) ≥ (0 : Int)) = decide (idxOf (firstN (kindE (FnB.mk (2 : Int)) holes) holes.n (0 : Nat)) ≥ (0 : Int)), decide (idxOf (firstN
    (kindE (FnB.mk (2 : Int)) holes) holes.n (0 : Nat)) ≥ (0 : Int)) = decide (idxOf (firstN (kindE (FnB.mk (2 : Int)) holes) holes.n (0 : Nat)) ≥ (0 : Int)), false = false, (0 : Nat) =
    (0 : Nat), tabs.n = tabs.n, Cap.of (0 : Nat) = Cap.of (0 : Nat), (↑tabs.n : Int) = (↑tabs.n : Int), (0 : Nat) = (0 : Nat), holes.n = holes.n, Cap.of (0 : Nat) = Cap.of (0 : Nat),
    (↑holes.n : Int) = (↑holes.n : Int), ((↑tabs.n : Int) != (↑holes.n : Int)) = ((↑tabs.n : Int) != (↑holes.n : Int)), p.length = p.length, p.slack = p.slack, p.loose = p.loose,
    p.damp.lo = p.damp.lo, p.damp.hi = p.damp.hi, (0 : Nat) = (0 : Nat), tabs.n = tabs.n, Cap.of (0 : Nat) = Cap.of (0 : Nat), (0 : Nat) = (0 : Nat), holes.n = holes.n, Cap.of (0 : Nat)
    = Cap.of (0 : Nat), Fn.func (84 : FuncId) = Fn.func (84 : FuncId), (0 : Nat) = (0 : Nat), (0 : Nat) = (0 : Nat), (0 : Nat) = (0 : Nat), (0 : Nat) = (0 : Nat), (0 : Nat) = (0 : Nat),
    (0 : Nat) = (0 : Nat), many' = many', (0 : Int) = (0 : Int), (0 : Nat) = (0 : Nat), f'.n = f'.n, Cap.of (0 : Nat) = Cap.of (0 : Nat), f'.n ≤ f'.n, RowsEq (1 : Nat) f'.n (fun i =>
    RowT.enc (f'.get i)) fun i => RowT.enc (f'.get i)]) := by kernel_rfl
set_option maxRecDepth 100000 in
theorem on_ms2 (p : Play) (tabs holes : Rw Edge) (w : Rw Int) (has : Int → Bool) (many : Int) (f f' g' : Rw Int) : subE 1032 [(AV.bool false false)] ([((544 : Nat), Blk.cells (0 : Nat) (43 : Nat) [AV.slz (1040 : Nat) (0 : Nat) w.n (Cap.of (0 : Nat))]), ((520 : Nat), Blk.mpf IntKind.i64 (AV.bool true false) has fun i => AV.bool false (has i)), ((505 : Nat), Blk.lp LoopState.done (some Code.ret) (pairT p tabs holes) (Array.mk [(56 : Nat)]) (rangeK Try.f26 0).1 (rangeK Try.f26 0).2), ((416 : Nat), Blk.cells (0 : Nat) (3 : Nat) [AV.int false IntKind.i64 (2 : Int)]), ((32 : Nat), Blk.cells (0 : Nat) (28 : Nat) [AV.int false IntKind.i64 (0 : Int)]), ((24 : Nat), Blk.cells (0 : Nat) (43 : Nat) [AV.slz (1056 : Nat) (0 : Nat) g'.n (Cap.of (0 : Nat))]), ((16 : Nat), Blk.cells (0 : Nat) (43 : Nat) [AV.slz (1048 : Nat) (0 : Nat) f'.n (Cap.of (0 : Nat))]), ((1040 : Nat), Blk.rowz true (3 : Nat) [CK.int IntKind.i64] w.n fun i => RowT.enc (w.get i)), ((1056 : Nat), Blk.rowz true (3 : Nat) [CK.int IntKind.i64] g'.n fun i => RowT.enc (g'.get i)), ((1048 : Nat), Blk.rowz true (3 : Nat) [CK.int IntKind.i64] f'.n fun i => RowT.enc (f'.get i))]) (resU (onS p tabs holes (rangeK Try.f26 0).1 (rangeK Try.f26 0).2 w has many f f' g')) = (
    some [false = false, (0 : Nat) = (0 : Nat), w.n = w.n, Cap.of (0 : Nat) = Cap.of (0 : Nat), w.n ≤ w.n, RowsEq (1 : Nat) w.n (fun i => RowT.enc (w.get i)) fun i => RowT.enc (w.get
    i), MapEq (AV.bool true false) (AV.bool true false) has has (fun i => AV.bool false (has i)) fun i => AV.bool false (has i), LoopState.done = LoopState.done, some Code.ret = some
    Code.ret, Array.mk [(56 : Nat)] = Array.mk [(56 : Tmp)], (rangeK Try.f26 0).1 = (rangeK Try.f26 0).1, (rangeK Try.f26 0).2 = (rangeK Try.f26 0).2, p.length = p.length, p.slack =
    p.slack, p.loose = p.loose, p.damp.lo = p.damp.lo, p.damp.hi = p.damp.hi, (0 : Nat) = (0 : Nat), tabs.n = tabs.n, Cap.of (0 : Nat) = Cap.of (0 : Nat), (0 : Nat) = (0 : Nat), holes.n
    = holes.n, Cap.of (0 : Nat) = Cap.of (0 : Nat), (0 : Nat) = (0 : Nat), (0 : Nat) = (0 : Nat), (0 : Nat) = (0 : Nat), (0 : Nat) = (0 : Nat), (0 : Nat) = (0 : Nat), (0 : Nat) = (0 :
    Nat), (0 : Nat) = (0 : Nat), (0 : Nat) = (0 : Nat), Fn.func (68 : FuncId) = Fn.func (68 : FuncId), (0 : Nat) = (0 : Nat), (0 : Nat) = (0 : Nat), false = false, p.length = p.length,
    p.slack = p.slack, p.loose = p.loose, p.damp.lo = p.damp.lo, p.damp.hi = p.damp.hi, p.ok = p.ok, (!p.ok) = !p.ok, false = false, (0 : Nat) = (0 : Nat), tabs.n = tabs.n, Cap.of (0 :
    Nat) = Cap.of (0 : Nat), allN (fun i => (tabs.get i).ok) tabs.n = allN (fun i => (tabs.get i).ok) tabs.n, (!allN (fun i => (tabs.get i).ok) tabs.n) = !allN (fun i => (tabs.get
    i).ok) tabs.n, (!allN (fun i => (tabs.get i).ok) tabs.n) = !allN (fun i => (tabs.get i).ok) tabs.n, false = false, (0 : Nat) = (0 : Nat), holes.n = holes.n, Cap.of (0 : Nat) =
    Cap.of (0 : Nat), allN (fun i => (holes.get i).ok) holes.n = allN (fun i => (holes.get i).ok) holes.n, (!allN (fun i => (holes.get i).ok) holes.n) = !allN (fun i => (holes.get
    i).ok) holes.n, (!allN (fun i => (holes.get i).ok) holes.n) = !allN (fun i => (holes.get i).ok) holes.n, false = false, (0 : Nat) = (0 : Nat), tabs.n = tabs.n, Cap.of (0 : Nat) =
    Cap.of (0 : Nat), (↑tabs.n : Int) = (↑tabs.n : Int), decide ((↑tabs.n : Int) > (8 : Int)) = decide ((↑tabs.n : Int) > (8 : Int)), false = false, (0 : Nat) = (0 : Nat), holes.n =
    holes.n, Cap.of (0 : Nat) = Cap.of (0 : Nat), (↑holes.n : Int) = (↑holes.n : Int), decide ((↑holes.n : Int) > (8 : Int)) = decide ((↑holes.n : Int) > (8 : Int)), decide ((↑holes.n :
    Int) > (8 : Int)) = decide ((↑holes.n : Int) > (8 : Int)), false = false, (0 : Nat) = (0 : Nat), tabs.n = tabs.n, Cap.of (0 : Nat) = Cap.of (0 : Nat), Fn.func (68 : FuncId) =
    Fn.func (68 : FuncId), Fn.func (69 : FuncId) = Fn.func (69 : FuncId), (0 : Nat) = (0 : Nat), (0 : Nat) = (0 : Nat), decide (idxOf (firstN (kindE (FnB.mk (1 : Int)) tabs) tabs.n (0 :
    Nat)) ≥ (0 : Int)) = decide (idxOf (firstN (kindE (FnB.mk (1 : Int)) tabs) tabs.n (0 : Nat)) ≥ (0 : Int)), false = false, (0 : Nat) = (0 : Nat), holes.n = holes.n, Cap.of (0 : Nat)
    = Cap.of (0 : Nat), Fn.func (68 : FuncId) = Fn.func (68 : FuncId), Fn.func (69 : FuncId) = Fn.func (69 : FuncId), (0 : Nat) = (0 : Nat), (0 : Nat) = (0 : Nat), decide (idxOf (firstN
    (kindE (FnB.mk (2 : Int)) holes) holes.n (0 : Nat)) ≥ (0 : Int)) = decide (idxOf (firstN (kindE (FnB.mk (2 : Int)) holes) holes.n (0 : Nat)) ≥ (0 : Int)), decide (idxOf (firstN
    (kindE (FnB.mk (2 : Int)) holes) holes.n (0 : Nat)) ≥ (0 : Int)) = decide (idxOf (firstN (kindE (FnB.mk (2 : Int)) holes) holes.n (0 : Nat)) ≥ (0 : Int)), false = false, (0 : Nat) =
    (0 : Nat), tabs.n = tabs.n, Cap.of (0 : Nat) = Cap.of (0 : Nat), (↑tabs.n : Int) = (↑tabs.n : Int), (0 : Nat) = (0 : Nat), holes.n = holes.n, Cap.of (0 : Nat) = Cap.of (0 : Nat),
    (↑holes.n : Int) = (↑holes.n : Int), ((↑tabs.n : Int) != (↑holes.n : Int)) = ((↑tabs.n : Int) != (↑holes.n : Int)), p.length = p.length, p.slack = p.slack, p.loose = p.loose,
    p.damp.lo = p.damp.lo, p.damp.hi = p.damp.hi, (0 : Nat) = (0 : Nat), tabs.n = tabs.n, Cap.of (0 : Nat) = Cap.of (0 : Nat), (0 : Nat) = (0 : Nat), holes.n = holes.n, Cap.of (0 : Nat)
    = Cap.of (0 : Nat), Fn.func (84 : FuncId) = Fn.func (84 : FuncId), (0 : Nat) = (0 : Nat), (0 : Nat) = (0 : Nat), (0 : Nat) = (0 : Nat), (0 : Nat) = (0 : Nat), (0 : Nat) = (0 : Nat),
    (0 : Nat) = (0 : Nat), (2 : Int) = (2 : Int), (0 : Int) = (0 : Int), (0 : Nat) = (0 : Nat), g'.n = g'.n, Cap.of (0 : Nat) = Cap.of (0 : Nat), (0 : Nat) = (0 : Nat), f'.n = f'.n,
    Cap.of (0 : Nat) = Cap.of (0 : Nat), f'.n ≤ f'.n, RowsEq (1 : Nat) f'.n (fun i => RowT.enc (f'.get i)) fun i => RowT.enc (f'.get i), g'.n ≤ g'.n, RowsEq (1 : Nat) g'.n (fun i =>
    RowT.enc (g'.get i)) fun i => RowT.enc (g'.get i)]) := by kernel_rfl
end Go.Proofs.Ytdaanchagjamfaa
/- The recursion of fit.pairings: its contract, by induction. -/
namespace Go.Proofs.Ytdaanchagjamfaa
open Go.SX
noncomputable abbrev pAc : Code := (rangeK Try.f26 0).1
noncomputable abbrev pBody : Code := (rangeK Try.f26 0).2
theorem newU_new (k : Nat) (hk : k < 8) (nid : Nat) : newU 560 1032 nid (1032 + k) = nid + k := by
  have : Nat.blt (1032 + k) 560 = false := by
    rcases hb : Nat.blt (1032 + k) 560 with _ | _
    · rfl
    · rw [Nat.blt_eq] at hb; omega
  simp only [newU, this]; omega
theorem newU_low {i : Nat} (h : i < 560) (nid : Nat) : newU 560 1032 nid i = i := by
  have : Nat.blt i 560 = true := by rw [Nat.blt_eq]; exact h
  simp only [newU, this]
theorem onU_ok (p : Play) (tabs holes : Rw Edge) (ac body : Code) (w : Rw Int) (has : Int → Bool) (m : Int) (f : Rw Int) (m' : Int) (f' : Rw Int) : (onU p tabs holes ac body w has m f m' f').Ok := by
  refine ⟨(by decide : 560 ≤ 1032), rfl, rfl, ?_, ?_, fun _ _ => rfl, fun nid h => ?_⟩
  · intro q hq
    simp only [UC.po, onU, onW, rwN, List.mem_cons, List.not_mem_nil, or_false] at hq
    rcases hq with rfl | rfl | rfl | rfl | rfl | rfl | rfl | rfl | rfl <;> refine ⟨rfl, rfl, rfl, ?_⟩ <;> first | exact fun _ => rfl | exact fun h => absurd (show 1032 < 560 from h) (by decide) | exact fun h => absurd (show 1033 < 560 from h) (by decide)
  · rfl
  · have e0 := newU_new 0 (by decide) nid
    have e1 := newU_new 1 (by decide) nid
    simp only [UC.po, onU, onW, rwN, onPre, pairT, List.map_cons, List.map_nil, Blk.mapId, AV.mapId, AV.mapIdL, Nat.add_zero] at e0 e1 ⊢
    rw [e0, e1]
    rfl
theorem onS_ok (p : Play) (tabs holes : Rw Edge) (ac body : Code) (w : Rw Int) (has : Int → Bool) (m : Int) (f f' g' : Rw Int) : (onS p tabs holes ac body w has m f f' g').Ok := by
  refine ⟨(by decide : 560 ≤ 1032), rfl, rfl, ?_, ?_, fun _ _ => rfl, fun nid h => ?_⟩
  · intro q hq
    simp only [UC.po, onS, onW, rwN, List.mem_cons, List.mem_append, List.not_mem_nil, or_false] at hq
    rcases hq with (rfl | rfl | rfl | rfl | rfl | rfl | rfl | rfl | rfl) | rfl <;> refine ⟨rfl, rfl, rfl, ?_⟩ <;> first | exact fun _ => rfl | exact fun h => absurd (show 1032 < 560 from h) (by decide) | exact fun h => absurd (show 1033 < 560 from h) (by decide) | exact fun h => absurd (show 1034 < 560 from h) (by decide)
  · rfl
  · have e0 := newU_new 0 (by decide) nid
    have e1 := newU_new 1 (by decide) nid
    have e2 := newU_new 2 (by decide) nid
    simp only [UC.po, onS, onW, rwN, onPre, pairT, List.cons_append, List.nil_append, List.map_cons, List.map_nil, Blk.mapId, AV.mapId, AV.mapIdL, Nat.add_zero] at e0 e1 e2 ⊢
    rw [e0, e1, e2]
    rfl
theorem noH_ok (G : Ctx) (hrd : G.rd = none) : HndOk (mkE Try.prog tab_cl) G (noH Try.prog) (bodyOf Try.f85) :=
  one_loop (body := bodyK Try.f85 0) (mkE_ok tab_cl_ok) hrd (by kernel_rfl) (fun _ _ _ _ _ _ _ h _ _ => h.elim)
set_option maxRecDepth 100000 in
theorem on_fin {p : Play} {tabs holes : Rw Edge} (hP : PreP p tabs holes) (w : Rw Int) (has : Int → Bool) (m : Int) (f : Rw Int) (hw : w.n = tabs.n) (hm : m = 0 ∨ m = 1) : FSound Try.prog 85 (uFC (resP p tabs holes pAc pBody w has m f (yieldP w m f))) := by
  have hpos := hP.pos
  have h8 := hP.t8
  have e0 : IntKind.i64.wrap ((0 : Int) + 1) = 0 + 1 := w64 (by decide) (by decide)
  have e1 : IntKind.i64.wrap ((1 : Int) + 1) = 2 := w64 (by decide) (by decide)
  rcases hm with rfl | rfl
  · refine fn_U (E := mkE Try.prog tab_cl) (mkE_ok tab_cl_ok) Try.func85 (by kernel_rfl) (by kernel_rfl) (onU_ok ..) (fun G h1 _ => noH_ok G h1) ⟨⟨?_⟩⟩
    refine den_of (on_y2 p tabs holes w has 0 f) ?_
    refine den_br (fun _ => den_need (by simp; omega) (den_br (fun h => by rw [e0] at h; cases h) (fun _ => ?_))) (fun h => by rw [hw] at h; simp at h)
    refine ⟨rfl, rfl, _, on_yg p tabs holes w has 0 f _ _, ?_⟩
    repeat' first | exact trivial | with_reducible rfl | exact Nat.le_refl _ | exact RowsEq.refl _ _ _ | exact mapEq_refl _ | exact e0 | exact e1 | refine And.intro ?_ ?_
  · refine fn_U (E := mkE Try.prog tab_cl) (mkE_ok tab_cl_ok) Try.func85 (by kernel_rfl) (by kernel_rfl) (onS_ok ..) (fun G h1 _ => noH_ok G h1) ⟨⟨?_⟩⟩
    refine den_of (on_y2 p tabs holes w has 1 f) ?_
    refine den_br (fun _ => den_need (by simp; omega) (den_br (fun _ => ?_) (fun h => by rw [e1] at h; cases h))) (fun h => by rw [hw] at h; simp at h)
    refine ⟨rfl, rfl, _, on_ys p tabs holes w has 1 f _ _, ?_⟩
    repeat' first | exact trivial | with_reducible rfl | exact Nat.le_refl _ | exact RowsEq.refl _ _ _ | exact mapEq_refl _ | exact e0 | exact e1 | refine And.intro ?_ ?_
end Go.Proofs.Ytdaanchagjamfaa
/- The recursion of fit.pairings: its contract, by induction (the step). -/
namespace Go.Proofs.Ytdaanchagjamfaa
open Go.SX
theorem onEnv_ok {p : Play} {tabs holes : Rw Edge} {ac body : Code} {d : Nat} {w : Rw Int} {has : Int → Bool} (IH : ∀ (k : Nat) (m : Int) (f : Rw Int), m = 0 ∨ m = 1 → FSound Try.prog 85 (uFC (resP p tabs holes ac body (snocW w k) (hasF k true has) m f (recP p tabs holes d w has k m f)))) (s : OnSt holes) : (onEnv Try.prog p tabs holes ac body d w has s).Sound :=
  mkE_ok (tab_cl_ok.add (IH s.1.1 s.1.2.1 s.1.2.2 s.2.2))
theorem on_loop {p : Play} {tabs holes : Rw Edge} (hP : PreP p tabs holes) {ac body : Code} {d : Nat} {w : Rw Int} {has : Int → Bool} (hd : w.n < tabs.n) (IH : ∀ (k : Nat) (m : Int) (f : Rw Int), m = 0 ∨ m = 1 → FSound Try.prog 85 (uFC (resP p tabs holes ac body (snocW w k) (hasF k true has) m f (recP p tabs holes d w has k m f))))
    (m : Int) (f : Rw Int) (hm : m = 0 ∨ m = 1) {X : List (Prop × Ex × JSt)} (hX : ∀ e J, onRel p tabs holes ac body d w has ⟨(0, m, f), Nat.zero_le _, hm⟩ e J → ∃ x ∈ X, x.1 ∧ x.2.1 = e ∧ x.2.2 = J) (G : Ctx) (hrd : G.rd = none) (hG : G.n = 1032) :
    HndOk (mkE Try.prog tab_cl) G (onX Try.prog (onJ p tabs holes ac body w has m f 0) X) (bodyOf Try.f85) := by
  refine one_loop (body := bodyK Try.f85 0) (mkE_ok tab_cl_ok) hrd (by kernel_rfl) ?_
  have hr := on_round p tabs holes ac body d w has hP hd
  refine loopE_ok (E0 := mkE Try.prog tab_cl) (E := onEnv Try.prog p tabs holes ac body d w has) (H := fun s => hnd (onEnv Try.prog p tabs holes ac body d w has s) 0) (n0 := 1032) (s0 := ⟨(0, m, f), Nat.zero_le _, hm⟩) (fun _ => rfl) (onEnv_ok IH) (by omega) (fun s _ => hnd_hndOk (onEnv_ok IH s) 0 G _ hrd) (fun s _ => (by decide : 1032 ≤ 1104)) ?_ hr trivial hX
  intro s e J h
  unfold onRel at h
  split at h
  · rw [h.2]; exact (by decide : 1032 ≤ 1104)
  · rw [h.2]; exact (by decide : 1032 ≤ 1104)
set_option maxRecDepth 100000 in
theorem on_step {p : Play} {tabs holes : Rw Edge} (hP : PreP p tabs holes) {d : Nat} {w : Rw Int} {has : Int → Bool} (hd : w.n < tabs.n) (IH : ∀ (k : Nat) (m : Int) (f : Rw Int), m = 0 ∨ m = 1 → FSound Try.prog 85 (uFC (resP p tabs holes pAc pBody (snocW w k) (hasF k true has) m f (recP p tabs holes d w has k m f))))
    (m : Int) (f : Rw Int) (hm : m = 0 ∨ m = 1) : FSound Try.prog 85 (uFC (resP p tabs holes pAc pBody w has m f (loopV p tabs holes d w has 0 m f))) := by
  have hL := fun X => on_loop hP hd IH m f hm (X := X)
  unfold onRel at hL
  simp only at hL
  generalize loopV p tabs holes d w has 0 m f = r at hL
  cases r with
  | go m' f' =>
    refine fn_U (E := mkE Try.prog tab_cl) (mkE_ok tab_cl_ok) Try.func85 (by kernel_rfl) (by kernel_rfl) (onU_ok ..) (hL [(True, .exit 0, onE p tabs holes pAc pBody w has m' f')] ?_) ⟨⟨?_⟩⟩
    · rintro e J ⟨rfl, rfl⟩
      exact ⟨_, List.mem_cons_self, trivial, rfl, rfl⟩
    · refine den_of (on_mg p tabs holes w has m f m' f') ?_
      refine den_br (fun h => by simp at h; omega) (fun _ => ?_)
      repeat' first | refine den_ask (by with_reducible rfl) ?_ | refine den_ask (Nat.le_refl _) ?_ | refine den_ask (RowsEq.refl _ _ _) ?_ | refine den_ask (mapEq_refl _) ?_ | refine den_ask rfl ?_
      refine den_asm fun _ => den_all fun g => ⟨rfl, rfl, _, on_mg2 p tabs holes w has m f m' f', ?_⟩
      repeat' first | exact trivial | with_reducible rfl | exact Nat.le_refl _ | exact RowsEq.refl _ _ _ | exact mapEq_refl _ | refine And.intro ?_ ?_
  | stop f' g' =>
    refine fn_U (E := mkE Try.prog tab_cl) (mkE_ok tab_cl_ok) Try.func85 (by kernel_rfl) (by kernel_rfl) (onS_ok ..) (hL [(True, .ret, onT p tabs holes pAc pBody w has f' g')] ?_) ⟨⟨?_⟩⟩
    · rintro e J ⟨rfl, rfl⟩
      exact ⟨_, List.mem_cons_self, trivial, rfl, rfl⟩
    · refine den_of (on_ms p tabs holes w has m f f' g') ?_
      refine den_br (fun h => by simp at h; omega) (fun _ => ?_)
      repeat' first | refine den_ask (by with_reducible rfl) ?_ | refine den_ask (Nat.le_refl _) ?_ | refine den_ask (RowsEq.refl _ _ _) ?_ | refine den_ask (mapEq_refl _) ?_ | refine den_ask rfl ?_
      refine den_asm fun _ => den_all fun g => ⟨rfl, rfl, _, on_ms2 p tabs holes w has m f f' g', ?_⟩
      repeat' first | exact trivial | with_reducible rfl | exact Nat.le_refl _ | exact RowsEq.refl _ _ _ | exact mapEq_refl _ | refine And.intro ?_ ?_
theorem on_s {p : Play} {tabs holes : Rw Edge} (hP : PreP p tabs holes) : ∀ (d : Nat) (w : Rw Int) (has : Int → Bool) (m : Int) (f : Rw Int), w.n + d = tabs.n → m = 0 ∨ m = 1 → FSound Try.prog 85 (uFC (resP p tabs holes pAc pBody w has m f (onP p tabs holes d w has m f)))
  | 0, w, has, m, f, hw, hm => on_fin hP w has m f (by omega) hm
  | d + 1, w, has, m, f, hw, hm => on_step hP (by omega) (fun k m' f' hm' => on_s hP d (snocW w k) (hasF k true has) m' f' (by show w.n + 1 + d = tabs.n; omega) hm') m f hm
end Go.Proofs.Ytdaanchagjamfaa
