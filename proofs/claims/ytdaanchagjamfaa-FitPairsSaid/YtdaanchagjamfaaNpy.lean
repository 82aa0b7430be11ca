/- The recursion of fit.pairings: the states in which it is called. -/
import Derived.Test.YtdaanchagjamfaaNpw
import Derived.Test.YtdaanchagjamfaaNpx
namespace Go.Proofs.Ytdaanchagjamfaa
open Go.SX
/-- The slots of fit.Pairs where it ranges over the pairings. -/
def pairT (p : Play) (tabs holes : Rw Edge) : List AV := [
  .agg [AV.int false IntKind.i64 p.length, AV.int false IntKind.i64 p.slack, AV.int false IntKind.i64 p.loose, AV.int false IntKind.i64 p.damp.lo, AV.int false IntKind.i64 p.damp.hi],
  .slz 1 0 tabs.n (Cap.of 0),
  .slz 2 0 holes.n (Cap.of 0),
  .ptr 8 0 0,
  .tup [],
  .tup [],
  .ptr 16 0 0,
  .ptr 24 0 0,
  .ptr 32 0 0,
  .fn (.func 68) [],
  .ptr 416 0 0,
  .tup [],
  .bool true false,
  .agg [AV.int false IntKind.i64 p.length, AV.int false IntKind.i64 p.slack, AV.int false IntKind.i64 p.loose, AV.int false IntKind.i64 p.damp.lo, AV.int false IntKind.i64 p.damp.hi],
  .bool false p.ok,
  .bool false (!p.ok),
  .bool true false,
  .slz 1 0 tabs.n (Cap.of 0),
  .bool false (allN (fun i => (tabs.get i).ok) tabs.n),
  .bool false (!allN (fun i => (tabs.get i).ok) tabs.n),
  .bool false (!allN (fun i => (tabs.get i).ok) tabs.n),
  .bool true false,
  .slz 2 0 holes.n (Cap.of 0),
  .bool false (allN (fun i => (holes.get i).ok) holes.n),
  .bool false (!allN (fun i => (holes.get i).ok) holes.n),
  .bool false (!allN (fun i => (holes.get i).ok) holes.n),
  .bool true false,
  .slz 1 0 tabs.n (Cap.of 0),
  .int false IntKind.i64 ((tabs.n : Nat) : Int),
  .bool false (decide (((tabs.n : Nat) : Int) > (8 : Int))),
  .bool true false,
  .slz 2 0 holes.n (Cap.of 0),
  .int false IntKind.i64 ((holes.n : Nat) : Int),
  .bool false (decide (((holes.n : Nat) : Int) > (8 : Int))),
  .bool false (decide (((holes.n : Nat) : Int) > (8 : Int))),
  .bool true false,
  .slz 1 0 tabs.n (Cap.of 0),
  .fn (.func 68) [],
  .fn (.func 69) [AV.ptr 248 0 0],
  .bool false (decide (idxOf (firstN (kindE (FnB.mk (1 : Int)) tabs) tabs.n 0) ≥ (0 : Int))),
  .bool true false,
  .slz 2 0 holes.n (Cap.of 0),
  .fn (.func 68) [],
  .fn (.func 69) [AV.ptr 312 0 0],
  .bool false (decide (idxOf (firstN (kindE (FnB.mk (2 : Int)) holes) holes.n 0) ≥ (0 : Int))),
  .bool false (decide (idxOf (firstN (kindE (FnB.mk (2 : Int)) holes) holes.n 0) ≥ (0 : Int))),
  .bool true false,
  .slz 1 0 tabs.n (Cap.of 0),
  .int false IntKind.i64 ((tabs.n : Nat) : Int),
  .slz 2 0 holes.n (Cap.of 0),
  .int false IntKind.i64 ((holes.n : Nat) : Int),
  .bool false (((tabs.n : Nat) : Int) != ((holes.n : Nat) : Int)),
  .agg [AV.int false IntKind.i64 p.length, AV.int false IntKind.i64 p.slack, AV.int false IntKind.i64 p.loose, AV.int false IntKind.i64 p.damp.lo, AV.int false IntKind.i64 p.damp.hi],
  .slz 1 0 tabs.n (Cap.of 0),
  .slz 2 0 holes.n (Cap.of 0),
  .fn (.func 84) [AV.ptr 464 0 0, AV.ptr 472 0 0, AV.ptr 456 0 0],
  .tup [],
  .tup [],
  .tup [],
  .tup [],
  .tup [],
  .tup [],
  .tup [],
  .tup [],
  .tup [],
  .tup [],
  .tup []]
def rangeK (fn : Func) (k : Nat) : Code × Code := match (loops (bodyOf fn))[k]? with
  | some (.rangeFunc _ _ ac body) => (ac, body)
  | _ => (.skip, .skip)
def onCap : List AV := [.ptr 544 0 0, .ptr 464 0 0, .ptr 512 0 0, .ptr 472 0 0, .ptr 528 0 0, .ptr 456 0 0, .ptr 552 0 0]
/-- What is only read: the boxes of fit.pairings, the lists. -/
def onR (p : Play) (tabs holes : Rw Edge) : List (Nat × Blk) :=
  [(552, .cellsR 0 37 [.fn (.func 85) onCap]), (528, .cellsR 0 123 [.map 520]), (512, .cellsR 0 76 [.yld 505]), (472, .cellsR 0 42 [.slz 2 0 holes.n (.of 0)]), (464, .cellsR 0 42 [.slz 1 0 tabs.n (.of 0)]), (456, .cellsR 0 25 (Enc.enc p).cells)] ++ ArgE.blk 1 tabs ++ ArgE.blk 2 holes
/-- What is written: with whom the first ones go (a), who is taken, the record of the range, how many were found, the first one found (b), the second one. -/
def onW (p : Play) (tabs holes : Rw Edge) (ac body : Code) (ls : LoopState) (pe : Option Code) (w : Rw Int) (a : Nat) (has : Int → Bool) (many : Int) (f : Rw Int) (b : Nat) (o : AV) : List (Nat × Blk) :=
  [(544, .cells 0 43 [.slz a 0 w.n (.of 0)]), rwN 3 a w, (520, .mpf .i64 (.bool true false) has fun i => .bool false (has i)), (505, .lp ls pe (pairT p tabs holes) #[56] ac body),
    (416, .cells 0 3 [.int false .i64 many]), (32, .cells 0 28 [.int false .i64 0]), (24, .cells 0 43 [o]), (16, .cells 0 43 [.slz b 0 f.n (.of 0)]), rwN 3 b f]
def onPre (p : Play) (tabs holes : Rw Edge) (ac body : Code) (w : Rw Int) (has : Int → Bool) (many : Int) (f : Rw Int) : JSt :=
  ⟨7, [(0, .ptr 544 0 0), (1, .ptr 464 0 0), (2, .ptr 512 0 0), (3, .ptr 472 0 0), (4, .ptr 528 0 0), (5, .ptr 456 0 0), (6, .ptr 552 0 0)], onW p tabs holes ac body .ready none w 1008 has many f 1016 .nils ++ onR p tabs holes, 1032⟩
/-- It goes on; it stops. -/
def onU (p : Play) (tabs holes : Rw Edge) (ac body : Code) (w : Rw Int) (has : Int → Bool) (many : Int) (f : Rw Int) (many' : Int) (f' : Rw Int) : UC :=
  ⟨560, onPre p tabs holes ac body w has many f, fun _ => .bool false true, fun m => onW p tabs holes ac body .ready none w m has many' f' (m + 1) .nils⟩
def onS (p : Play) (tabs holes : Rw Edge) (ac body : Code) (w : Rw Int) (has : Int → Bool) (many : Int) (f : Rw Int) (f' g : Rw Int) : UC :=
  ⟨560, onPre p tabs holes ac body w has many f, fun _ => .bool false false, fun m => onW p tabs holes ac body .done (some .ret) w m has 2 f' (m + 1) (.slz (m + 2) 0 g.n (.of 0)) ++ [rwN 3 (m + 2) g]⟩
set_option maxRecDepth 100000 in
theorem on_y (p : Play) (tabs holes : Rw Edge) (w : Rw Int) (has : Int → Bool) (many : Int) (f : Rw Int) : (inFn (mkE Try.prog tab_cl) { hnd (mkE Try.prog tab_cl) 2 with loop := fun _ _ _ => .leaf (.tup []) [] } Try.f85 onCap (onPre p tabs holes (rangeK Try.f26 0).1 (rangeK Try.f26 0).2 w has many f).hp 1032 fun v h _ => endU [544, 16, 24, 32, 416, 505, 520] v h) =
    Tree.br ((↑w.n : Int) == (↑tabs.n : Int)) (Tree.need (decide (w.n ≤ w.n) && true && decide ((0 : Nat) < w.n ∧ w.n ≤ (1000 : Nat))) (Tree.br (IntKind.i64.wrap (many + (1 : Int)) ==
    (2 : Int)) (Tree.leaf (AV.bool true false) ([((544 : Nat), Blk.cells (0 : Nat) (43 : Nat) [AV.slz (1008 : Nat) (0 : Nat) w.n (Cap.of (0 : Nat))]), ((16 : Nat), Blk.cells (0 : Nat)
    (43 : Nat) [AV.slz (1016 : Nat) (0 : Nat) f.n (Cap.of (0 : Nat))]), ((24 : Nat), Blk.cells (0 : Nat) (43 : Nat) [AV.slz (1096 : Nat) (0 : Nat) w.n (Cap.of (0 : Nat))]), ((32 : Nat),
    Blk.cells (0 : Nat) (28 : Nat) [AV.int true IntKind.i64 (0 : Int)]), ((416 : Nat), Blk.cells (0 : Nat) (3 : Nat) [AV.int false IntKind.i64 (IntKind.i64.wrap (many + (1 : Int)))]),
    ((505 : Nat), Blk.lp LoopState.done (some Code.ret) (pairT p tabs holes) (Array.mk [(56 : Nat)]) (rangeK Try.f26 0).1 (rangeK Try.f26 0).2), ((520 : Nat), Blk.mpf IntKind.i64
    (AV.bool true false) has fun i => AV.bool false (has i)), ((1008 : Nat), Blk.rowz true (3 : Nat) [CK.int IntKind.i64] w.n fun i => RowT.enc (w.get i)), ((1016 : Nat), Blk.rowz true
    (3 : Nat) [CK.int IntKind.i64] f.n fun i => RowT.enc (f.get i)), ((1096 : Nat), Blk.rowz true (3 : Nat) [CK.int IntKind.i64] w.n fun i => RowT.enc (w.get i)), ((1 : Nat), Blk.frz
    [CK.int IntKind.i64, CK.int IntKind.i64, CK.int IntKind.i64, CK.int IntKind.i64, CK.int IntKind.i64, CK.int IntKind.i64, CK.int IntKind.i64] tabs.n fun i => RowT.enc (tabs.get i)),
    ((2 : Nat), Blk.frz [CK.int IntKind.i64, CK.int IntKind.i64, CK.int IntKind.i64, CK.int IntKind.i64, CK.int IntKind.i64, CK.int IntKind.i64, CK.int IntKind.i64] holes.n fun i =>
    RowT.enc (holes.get i)), ((464 : Nat), Blk.cellsR (0 : Nat) (42 : Nat) [AV.slz (1 : Nat) (0 : Nat) tabs.n (Cap.of (0 : Nat))]), ((472 : Nat), Blk.cellsR (0 : Nat) (42 : Nat) [AV.slz
    (2 : Nat) (0 : Nat) holes.n (Cap.of (0 : Nat))]), ((456 : Nat), Blk.cellsR (0 : Nat) (25 : Nat) [AV.int false IntKind.i64 p.length, AV.int false IntKind.i64 p.slack, AV.int false
    IntKind.i64 p.loose, AV.int false IntKind.i64 p.damp.lo, AV.int false IntKind.i64 p.damp.hi])])) (Tree.leaf (AV.bool true true) ([((544 : Nat), Blk.cells (0 : Nat) (43 : Nat)
    [AV.slz (1008 : Nat) (0 : Nat) w.n (Cap.of (0 : Nat))]), ((16 : Nat), Blk.cells (0 : Nat) (43 : Nat) [AV.slz (1096 : Nat) (0 : Nat) w.n (Cap.of (0 : Nat))]), ((24 : Nat), Blk.cells
    (0 : Nat) (43 : Nat) [AV.nils]), ((32 : Nat), Blk.cells (0 : Nat) (28 : Nat) [AV.int false IntKind.i64 (0 : Int)]), ((416 : Nat), Blk.cells (0 : Nat) (3 : Nat) [AV.int false
    IntKind.i64 (IntKind.i64.wrap (many + (1 : Int)))]), ((505 : Nat), Blk.lp LoopState.ready none (pairT p tabs holes) (Array.mk [(56 : Nat)]) (rangeK Try.f26 0).1 (rangeK Try.f26
    0).2), ((520 : Nat), Blk.mpf IntKind.i64 (AV.bool true false) has fun i => AV.bool false (has i)), ((1008 : Nat), Blk.rowz true (3 : Nat) [CK.int IntKind.i64] w.n fun i => RowT.enc
    (w.get i)), ((1096 : Nat), Blk.rowz true (3 : Nat) [CK.int IntKind.i64] w.n fun i => RowT.enc (w.get i)), ((1 : Nat), Blk.frz [CK.int IntKind.i64, CK.int IntKind.i64, CK.int
    IntKind.i64, CK.int IntKind.i64, CK.int IntKind.i64, CK.int IntKind.i64, CK.int IntKind.i64] tabs.n fun i => RowT.enc (tabs.get i)), ((2 : Nat), Blk.frz [CK.int IntKind.i64, CK.int
    IntKind.i64, CK.int IntKind.i64, CK.int IntKind.i64, CK.int IntKind.i64, CK.int IntKind.i64, CK.int IntKind.i64] holes.n fun i => RowT.enc (holes.get i)), ((464 : Nat), Blk.cellsR
    (0 : Nat) (42 : Nat) [AV.slz (1 : Nat) (0 : Nat) tabs.n (Cap.of (0 : Nat))]), ((472 : Nat), Blk.cellsR (0 : Nat) (42 : Nat) [AV.slz (2 : Nat) (0 : Nat) holes.n (Cap.of (0 : Nat))]),
    ((456 : Nat), Blk.cellsR (0 : Nat) (25 : Nat) [AV.int false IntKind.i64 p.length, AV.int false IntKind.i64 p.slack, AV.int false IntKind.i64 p.loose, AV.int false IntKind.i64
    p.damp.lo, AV.int false IntKind.i64 p.damp.hi])])))) (Tree.leaf (AV.tup []) ([])) := by kernel_rfl
def tab_on (pb : List Prop → Bool) (U : UC) : Tab := addF tab_cl 85 (uFCg pb U)
def onJ (p : Play) (tabs holes : Rw Edge) (ac body : Code) (w : Rw Int) (has : Int → Bool) (many : Int) (f : Rw Int) (k : Int) : JSt :=
  ⟨59, [(0, .ptr 544 0 0), (1, .ptr 464 0 0), (2, .ptr 512 0 0), (3, .ptr 472 0 0), (4, .ptr 528 0 0), (5, .ptr 456 0 0), (6, .ptr 552 0 0), (20, .slz 2 0 holes.n (.of 0)), (21, .int false .i64 holes.n), (22, .int false .i64 k)],
    onW p tabs holes ac body .ready none w 1040 has many f 1048 .nils ++ onR p tabs holes, 1104⟩
def onLs : Ex → List Nat
  | .normal => [0, 1, 2, 3, 4, 5, 6, 20, 21, 22]
  | .exit _ => []
  | .ret => [7]
def snocW (w : Rw Int) (k : Int) : Rw Int := ⟨w.n + 1, fun i => match Nat.blt i w.n with | true => w.get i | false => k⟩
end Go.Proofs.Ytdaanchagjamfaa
