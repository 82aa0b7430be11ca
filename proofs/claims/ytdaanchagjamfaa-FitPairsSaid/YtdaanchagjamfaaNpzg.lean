/- The reference's pairings: the states, its rounds. -/
import Derived.Test.YtdaanchagjamfaaNpze
import Derived.Test.YtdaanchagjamfaaNpzf
namespace Go.Proofs.Ytdaanchagjamfaa
open Go.SX
def prPre (p : Play) (tabs holes : Rw Edge) (w : Rw Int) (L : List (Rw Int)) : JSt :=
  ⟨5, [(0, Enc.enc p), (1, .slz 1 0 tabs.n (.of 0)), (2, .slz 2 0 holes.n (.of 0)), (3, .slz 3 0 w.n (.of 0)), (4, .slz 4 0 L.length (.of 0))], [rwN 3 3 w, rw2 4 L] ++ ArgE.blk 1 tabs ++ ArgE.blk 2 holes, 8⟩
/-- It comes to this list. -/
def prU (p : Play) (tabs holes : Rw Edge) (w : Rw Int) (L L' : List (Rw Int)) : UC := ⟨0, prPre p tabs holes w L, fun m => .slz m 0 L'.length (.of 0), fun m => [rw2 m L']⟩
def prJ (p : Play) (tabs holes : Rw Edge) (w : Rw Int) (L : List (Rw Int)) (k : Nat) : JSt :=
  ⟨57, [(1, .slz 1 0 tabs.n (.of 0)), (2, .slz 2 0 holes.n (.of 0)), (3, .slz 3 0 w.n (.of 0)), (4, .slz 24 0 L.length (.of 0)), (5, .ptr 16 0 0), (11, .int false .i64 k)], [(16, .cells 0 25 (Enc.enc p).cells), rwN 3 3 w, rw2 24 L] ++ ArgE.blk 1 tabs ++ ArgE.blk 2 holes, 40⟩
def prLs : Ex → List Nat
  | .normal => [1, 2, 3, 4, 5, 11]
  | .exit _ => [4]
  | .ret => []
def prE (L : List (Rw Int)) : JSt := ⟨57, [(4, .slz 24 0 L.length (.of 0))], [rw2 24 L], 40⟩
def tab_pr (pb : List Prop → Bool) (U : UC) : Tab := addF tab_rhas 72 (uFCg pb U)
set_option maxRecDepth 100000 in
theorem pr_r (pb : List Prop → Bool) (p : Play) (tabs holes : Rw Edge) (w : Rw Int) (L L' : List (Rw Int)) (k : Nat) (g : Nat → Value) : exec (mkE Try.prog (tab_pr pb (prU p tabs holes (snocW w k) L L'))) (hnd (mkE Try.prog (tab_pr pb (prU p tabs holes (snocW w k) L L'))) 0) (bodyK Try.f72 0) (JSt.inst (prJ p tabs holes w L k) g) (leafW [] prLs) =
    Tree.br (decide ((↑k : Int) < (↑holes.n : Int))) (Tree.need (decide (w.n ≤ w.n) && (true && true) && decide (w.n ≤ (1000 : Nat))) (Tree.br (!hasV w (↑k : Int)) (Tree.need (decide
    ((0 : Int) ≤ (↑w.n : Int) ∧ (↑w.n : Int) < (↑tabs.n : Int)) && decide (tabs.n ≤ tabs.n)) (Tree.need (decide (w.n < tabs.n)) (Tree.need (decide ((0 : Int) ≤ (↑k : Int) ∧ (↑k : Int) <
    (↑holes.n : Int)) && decide (holes.n ≤ holes.n)) (Tree.need (decide (k < holes.n)) (Tree.need (okP p (tabs.get w.n) (holes.get k)) (Tree.br (fitsF p (tabs.get w.n) (holes.get k) !=
    (0 : Int)) (Tree.need (true && (decide (w.n ≤ w.n) && decide (((0 : Nat) + w.n + ((0 : Nat) + w.n) / (4 : Nat) + (192 : Nat)) * (8 : Nat) ≤ (281474976710656 : Nat) ∧ (0 : Nat) + w.n
    ≤ (9223372036854775807 : Nat)))) (Tree.need (decide ((0 : Nat) + w.n ≤ (0 : Nat) + w.n) && (true && decide (((0 : Nat) + w.n + (1 : Nat) + ((0 : Nat) + w.n + (1 : Nat)) / (4 : Nat)
    + (192 : Nat)) * (8 : Nat) ≤ (281474976710656 : Nat) ∧ (0 : Nat) + w.n + (1 : Nat) ≤ (9223372036854775807 : Nat)))) (Tree.need (pb ([p.length = p.length, p.slack = p.slack, p.loose
    = p.loose, p.damp.lo = p.damp.lo, p.damp.hi = p.damp.hi, (0 : Nat) = (0 : Nat), tabs.n = tabs.n, Cap.of (0 : Nat) = Cap.of (0 : Nat), (0 : Nat) = (0 : Nat), holes.n = holes.n,
    Cap.of (0 : Nat) = Cap.of (0 : Nat), (0 : Nat) = (0 : Nat), (0 : Nat) + w.n + (1 : Nat) = (snocW w (↑k : Int)).n, Cap.of (0 : Nat) = Cap.of (0 : Nat), (0 : Nat) = (0 : Nat),
    L.length = L.length, Cap.of (0 : Nat) = Cap.of (0 : Nat), (snocW w (↑k : Int)).n ≤ (0 : Nat) + w.n + (1 : Nat), RowsEq (1 : Nat) (snocW w (↑k : Int)).n (joinG ((0 : Nat) + w.n)
    (joinG (0 : Nat) (fun x x_1 => (0 : Int)) fun i => RowT.enc (w.get i)) (rowI [[AV.int false IntKind.i64 (↑k : Int)]] (0 : Nat))) fun i => RowT.enc ((snocW w (↑k : Int)).get i),
    L.length = L.length, Rows2Eq (1 : Nat) L.length (fun i => (getR L i).n) (fun i => (getR L i).n) (fun i j => RowT.enc ((getR L i).get j)) fun i j => RowT.enc ((getR L i).get j),
    tabs.n ≤ tabs.n, RowsEq (7 : Nat) tabs.n (fun i => RowT.enc (tabs.get i)) fun i => RowT.enc (tabs.get i), holes.n ≤ holes.n, RowsEq (7 : Nat) holes.n (fun i => RowT.enc (holes.get
    i)) fun i => RowT.enc (holes.get i)])) (Tree.leaf (AV.tup [AV.nilp, AV.ptr (57 : Nat) (0 : Nat) (0 : Nat), AV.slz (1 : Nat) (0 : Nat) tabs.n (Cap.of (0 : Nat)), AV.slz (2 : Nat) (0
    : Nat) holes.n (Cap.of (0 : Nat)), AV.slz (3 : Nat) (0 : Nat) w.n (Cap.of (0 : Nat)), AV.slz (296 : Nat) (0 : Nat) L'.length (Cap.of (0 : Nat)), AV.ptr (16 : Nat) (0 : Nat) (0 :
    Nat), AV.int false IntKind.i64 (IntKind.i64.wrap ((↑k : Int) + (1 : Int)))]) ([((1 : Nat), Blk.frz [CK.int IntKind.i64, CK.int IntKind.i64, CK.int IntKind.i64, CK.int IntKind.i64,
    CK.int IntKind.i64, CK.int IntKind.i64, CK.int IntKind.i64] tabs.n fun i => RowT.enc (tabs.get i)), ((2 : Nat), Blk.frz [CK.int IntKind.i64, CK.int IntKind.i64, CK.int IntKind.i64,
    CK.int IntKind.i64, CK.int IntKind.i64, CK.int IntKind.i64, CK.int IntKind.i64] holes.n fun i => RowT.enc (holes.get i)), ((3 : Nat), Blk.rowz true (3 : Nat) [CK.int IntKind.i64]
    w.n fun i => RowT.enc (w.get i)), ((296 : Nat), Blk.frz2 true (43 : Nat) [CK.int IntKind.i64] L'.length (fun i => (getR L' i).n) fun i j => RowT.enc ((getR L' i).get j)), ((16 :
    Nat), Blk.cells (0 : Nat) (25 : Nat) [AV.int false IntKind.i64 p.length, AV.int false IntKind.i64 p.slack, AV.int false IntKind.i64 p.loose, AV.int false IntKind.i64 p.damp.lo,
    AV.int false IntKind.i64 p.damp.hi])]))))) (Tree.leaf (AV.tup [AV.nilp, AV.ptr (57 : Nat) (0 : Nat) (0 : Nat), AV.slz (1 : Nat) (0 : Nat) tabs.n (Cap.of (0 : Nat)), AV.slz (2 : Nat)
    (0 : Nat) holes.n (Cap.of (0 : Nat)), AV.slz (3 : Nat) (0 : Nat) w.n (Cap.of (0 : Nat)), AV.slz (24 : Nat) (0 : Nat) L.length (Cap.of (0 : Nat)), AV.ptr (16 : Nat) (0 : Nat) (0 :
    Nat), AV.int false IntKind.i64 (IntKind.i64.wrap ((↑k : Int) + (1 : Int)))]) ([((1 : Nat), Blk.frz [CK.int IntKind.i64, CK.int IntKind.i64, CK.int IntKind.i64, CK.int IntKind.i64,
    CK.int IntKind.i64, CK.int IntKind.i64, CK.int IntKind.i64] tabs.n fun i => RowT.enc (tabs.get i)), ((2 : Nat), Blk.frz [CK.int IntKind.i64, CK.int IntKind.i64, CK.int IntKind.i64,
    CK.int IntKind.i64, CK.int IntKind.i64, CK.int IntKind.i64, CK.int IntKind.i64] holes.n fun i => RowT.enc (holes.get i)), ((3 : Nat), Blk.rowz true (3 : Nat) [CK.int IntKind.i64]
    w.n fun i => RowT.enc (w.get i)), ((24 : Nat), Blk.frz2 true (43 : Nat) [CK.int IntKind.i64] L.length (fun i => (getR L i).n) fun i j => RowT.enc ((getR L i).get j)), ((16 : Nat),
    Blk.cells (0 : Nat) (25 : Nat) [AV.int false IntKind.i64 p.length, AV.int false IntKind.i64 p.slack, AV.int false IntKind.i64 p.loose, AV.int false IntKind.i64 p.damp.lo, AV.int
    false IntKind.i64 p.damp.hi])])))))))) (Tree.leaf (AV.tup [AV.nilp, AV.ptr (57 : Nat) (0 : Nat) (0 : Nat), AV.slz (1 : Nat) (0 : Nat) tabs.n (Cap.of (0 : Nat)), AV.slz (2 : Nat) (0
    : Nat) holes.n (Cap.of (0 : Nat)), AV.slz (3 : Nat) (0 : Nat) w.n (Cap.of (0 : Nat)), AV.slz (24 : Nat) (0 : Nat) L.length (Cap.of (0 : Nat)), AV.ptr (16 : Nat) (0 : Nat) (0 : Nat),
    AV.int false IntKind.i64 (IntKind.i64.wrap ((↑k : Int) + (1 : Int)))]) ([((1 : Nat), Blk.frz [CK.int IntKind.i64, CK.int IntKind.i64, CK.int IntKind.i64, CK.int IntKind.i64, CK.int
    IntKind.i64, CK.int IntKind.i64, CK.int IntKind.i64] tabs.n fun i => RowT.enc (tabs.get i)), ((2 : Nat), Blk.frz [CK.int IntKind.i64, CK.int IntKind.i64, CK.int IntKind.i64, CK.int
    IntKind.i64, CK.int IntKind.i64, CK.int IntKind.i64, CK.int IntKind.i64] holes.n fun i => RowT.enc (holes.get i)), ((3 : Nat), Blk.rowz true (3 : Nat) [CK.int IntKind.i64] w.n fun i
    => RowT.enc (w.get i)), ((24 : Nat), Blk.frz2 true (43 : Nat) [CK.int IntKind.i64] L.length (fun i => (getR L i).n) fun i j => RowT.enc ((getR L i).get j)), ((16 : Nat), Blk.cells
    (0 : Nat) (25 : Nat) [AV.int false IntKind.i64 p.length, AV.int false IntKind.i64 p.slack, AV.int false IntKind.i64 p.loose, AV.int false IntKind.i64 p.damp.lo, AV.int false
    IntKind.i64 p.damp.hi])])))) (Tree.leaf (AV.tup [AV.ptr (0 : Nat) (0 : Nat) (0 : Nat), AV.ptr (57 : Nat) (0 : Nat) (0 : Nat), AV.slz (24 : Nat) (0 : Nat) L.length (Cap.of (0 :
    Nat))]) ([((24 : Nat), Blk.frz2 true (43 : Nat) [CK.int IntKind.i64] L.length (fun i => (getR L i).n) fun i j => RowT.enc ((getR L i).get j))])) := by kernel_rfl
set_option maxRecDepth 100000 in
theorem pr_g0 (p : Play) (tabs holes : Rw Edge) (w : Rw Int) (L' L2 : List (Rw Int)) (k k' : Nat) : subE 8 [AV.slz (1 : Nat) (0 : Nat) tabs.n (Cap.of (0 : Nat)), AV.slz (2 : Nat) (0 : Nat) holes.n (Cap.of (0 : Nat)), AV.slz (3 : Nat) (0 : Nat) w.n (Cap.of (0 : Nat)), AV.slz (296 : Nat) (0 : Nat) L'.length (Cap.of (0 : Nat)), AV.ptr (16 : Nat) (0 : Nat) (0 : Nat), AV.int false IntKind.i64 (IntKind.i64.wrap ((↑k : Int) + (1 : Int)))] ([((1 : Nat), Blk.frz [CK.int IntKind.i64, CK.int IntKind.i64, CK.int IntKind.i64, CK.int IntKind.i64, CK.int IntKind.i64, CK.int IntKind.i64, CK.int IntKind.i64] tabs.n fun i => RowT.enc (tabs.get i)), ((2 : Nat), Blk.frz [CK.int IntKind.i64, CK.int IntKind.i64, CK.int IntKind.i64, CK.int IntKind.i64, CK.int IntKind.i64, CK.int IntKind.i64, CK.int IntKind.i64] holes.n fun i => RowT.enc (holes.get i)), ((3 : Nat), Blk.rowz true (3 : Nat) [CK.int IntKind.i64] w.n fun i => RowT.enc (w.get i)), ((296 : Nat), Blk.frz2 true (43 : Nat) [CK.int IntKind.i64] L'.length (fun i => (getR L' i).n) fun i j => RowT.enc ((getR L' i).get j)), ((16 : Nat), Blk.cells (0 : Nat) (25 : Nat) [AV.int false IntKind.i64 p.length, AV.int false IntKind.i64 p.slack, AV.int false IntKind.i64 p.loose, AV.int false IntKind.i64 p.damp.lo, AV.int false IntKind.i64 p.damp.hi])]) (prJ p tabs holes w L2 k') = (
    some [(0 : Nat) = (0 : Nat), tabs.n = tabs.n, Cap.of (0 : Nat) = Cap.of (0 : Nat), (0 : Nat) = (0 : Nat), holes.n = holes.n, Cap.of (0 : Nat) = Cap.of (0 : Nat), (0 : Nat) = (0 :
    Nat), w.n = w.n, Cap.of (0 : Nat) = Cap.of (0 : Nat), (0 : Nat) = (0 : Nat), L'.length = L2.length, Cap.of (0 : Nat) = Cap.of (0 : Nat), (0 : Nat) = (0 : Nat), (0 : Nat) = (0 :
    Nat), IntKind.i64.wrap ((↑k : Int) + (1 : Int)) = (↑k' : Int), p.length = p.length, p.slack = p.slack, p.loose = p.loose, p.damp.lo = p.damp.lo, p.damp.hi = p.damp.hi, w.n ≤ w.n,
    RowsEq (1 : Nat) w.n (fun i => RowT.enc (w.get i)) fun i => RowT.enc (w.get i), L'.length = L2.length, Rows2Eq (1 : Nat) L2.length (fun i => (getR L' i).n) (fun i => (getR L2 i).n)
    (fun i j => RowT.enc ((getR L' i).get j)) fun i j => RowT.enc ((getR L2 i).get j), tabs.n ≤ tabs.n, RowsEq (7 : Nat) tabs.n (fun i => RowT.enc (tabs.get i)) fun i => RowT.enc
    (tabs.get i), holes.n ≤ holes.n, RowsEq (7 : Nat) holes.n (fun i => RowT.enc (holes.get i)) fun i => RowT.enc (holes.get i)]) := by kernel_rfl
set_option maxRecDepth 100000 in
theorem pr_g1 (p : Play) (tabs holes : Rw Edge) (w : Rw Int) (L L2 : List (Rw Int)) (k k' : Nat) : subE 8 [AV.slz (1 : Nat) (0 : Nat) tabs.n (Cap.of (0 : Nat)), AV.slz (2 : Nat) (0 : Nat) holes.n (Cap.of (0 : Nat)), AV.slz (3 : Nat) (0 : Nat) w.n (Cap.of (0 : Nat)), AV.slz (24 : Nat) (0 : Nat) L.length (Cap.of (0 : Nat)), AV.ptr (16 : Nat) (0 : Nat) (0 : Nat), AV.int false IntKind.i64 (IntKind.i64.wrap ((↑k : Int) + (1 : Int)))] ([((1 : Nat), Blk.frz [CK.int IntKind.i64, CK.int IntKind.i64, CK.int IntKind.i64, CK.int IntKind.i64, CK.int IntKind.i64, CK.int IntKind.i64, CK.int IntKind.i64] tabs.n fun i => RowT.enc (tabs.get i)), ((2 : Nat), Blk.frz [CK.int IntKind.i64, CK.int IntKind.i64, CK.int IntKind.i64, CK.int IntKind.i64, CK.int IntKind.i64, CK.int IntKind.i64, CK.int IntKind.i64] holes.n fun i => RowT.enc (holes.get i)), ((3 : Nat), Blk.rowz true (3 : Nat) [CK.int IntKind.i64] w.n fun i => RowT.enc (w.get i)), ((24 : Nat), Blk.frz2 true (43 : Nat) [CK.int IntKind.i64] L.length (fun i => (getR L i).n) fun i j => RowT.enc ((getR L i).get j)), ((16 : Nat), Blk.cells (0 : Nat) (25 : Nat) [AV.int false IntKind.i64 p.length, AV.int false IntKind.i64 p.slack, AV.int false IntKind.i64 p.loose, AV.int false IntKind.i64 p.damp.lo, AV.int false IntKind.i64 p.damp.hi])]) (prJ p tabs holes w L2 k') = (
    some [(0 : Nat) = (0 : Nat), tabs.n = tabs.n, Cap.of (0 : Nat) = Cap.of (0 : Nat), (0 : Nat) = (0 : Nat), holes.n = holes.n, Cap.of (0 : Nat) = Cap.of (0 : Nat), (0 : Nat) = (0 :
    Nat), w.n = w.n, Cap.of (0 : Nat) = Cap.of (0 : Nat), (0 : Nat) = (0 : Nat), L.length = L2.length, Cap.of (0 : Nat) = Cap.of (0 : Nat), (0 : Nat) = (0 : Nat), (0 : Nat) = (0 : Nat),
    IntKind.i64.wrap ((↑k : Int) + (1 : Int)) = (↑k' : Int), p.length = p.length, p.slack = p.slack, p.loose = p.loose, p.damp.lo = p.damp.lo, p.damp.hi = p.damp.hi, w.n ≤ w.n, RowsEq
    (1 : Nat) w.n (fun i => RowT.enc (w.get i)) fun i => RowT.enc (w.get i), L.length = L2.length, Rows2Eq (1 : Nat) L2.length (fun i => (getR L i).n) (fun i => (getR L2 i).n) (fun i j
    => RowT.enc ((getR L i).get j)) fun i j => RowT.enc ((getR L2 i).get j), tabs.n ≤ tabs.n, RowsEq (7 : Nat) tabs.n (fun i => RowT.enc (tabs.get i)) fun i => RowT.enc (tabs.get i),
    holes.n ≤ holes.n, RowsEq (7 : Nat) holes.n (fun i => RowT.enc (holes.get i)) fun i => RowT.enc (holes.get i)]) := by kernel_rfl
set_option maxRecDepth 100000 in
theorem pr_g2 (p : Play) (tabs holes : Rw Edge) (w : Rw Int) (L L2 : List (Rw Int)) (k k' : Nat) : subE 8 [AV.slz (1 : Nat) (0 : Nat) tabs.n (Cap.of (0 : Nat)), AV.slz (2 : Nat) (0 : Nat) holes.n (Cap.of (0 : Nat)), AV.slz (3 : Nat) (0 : Nat) w.n (Cap.of (0 : Nat)), AV.slz (24 : Nat) (0 : Nat) L.length (Cap.of (0 : Nat)), AV.ptr (16 : Nat) (0 : Nat) (0 : Nat), AV.int false IntKind.i64 (IntKind.i64.wrap ((↑k : Int) + (1 : Int)))] ([((1 : Nat), Blk.frz [CK.int IntKind.i64, CK.int IntKind.i64, CK.int IntKind.i64, CK.int IntKind.i64, CK.int IntKind.i64, CK.int IntKind.i64, CK.int IntKind.i64] tabs.n fun i => RowT.enc (tabs.get i)), ((2 : Nat), Blk.frz [CK.int IntKind.i64, CK.int IntKind.i64, CK.int IntKind.i64, CK.int IntKind.i64, CK.int IntKind.i64, CK.int IntKind.i64, CK.int IntKind.i64] holes.n fun i => RowT.enc (holes.get i)), ((3 : Nat), Blk.rowz true (3 : Nat) [CK.int IntKind.i64] w.n fun i => RowT.enc (w.get i)), ((24 : Nat), Blk.frz2 true (43 : Nat) [CK.int IntKind.i64] L.length (fun i => (getR L i).n) fun i j => RowT.enc ((getR L i).get j)), ((16 : Nat), Blk.cells (0 : Nat) (25 : Nat) [AV.int false IntKind.i64 p.length, AV.int false IntKind.i64 p.slack, AV.int false IntKind.i64 p.loose, AV.int false IntKind.i64 p.damp.lo, AV.int false IntKind.i64 p.damp.hi])]) (prJ p tabs holes w L2 k') = (
    some [(0 : Nat) = (0 : Nat), tabs.n = tabs.n, Cap.of (0 : Nat) = Cap.of (0 : Nat), (0 : Nat) = (0 : Nat), holes.n = holes.n, Cap.of (0 : Nat) = Cap.of (0 : Nat), (0 : Nat) = (0 :
    Nat), w.n = w.n, Cap.of (0 : Nat) = Cap.of (0 : Nat), (0 : Nat) = (0 : Nat), L.length = L2.length, Cap.of (0 : Nat) = Cap.of (0 : Nat), (0 : Nat) = (0 : Nat), (0 : Nat) = (0 : Nat),
    IntKind.i64.wrap ((↑k : Int) + (1 : Int)) = (↑k' : Int), p.length = p.length, p.slack = p.slack, p.loose = p.loose, p.damp.lo = p.damp.lo, p.damp.hi = p.damp.hi, w.n ≤ w.n, RowsEq
    (1 : Nat) w.n (fun i => RowT.enc (w.get i)) fun i => RowT.enc (w.get i), L.length = L2.length, Rows2Eq (1 : Nat) L2.length (fun i => (getR L i).n) (fun i => (getR L2 i).n) (fun i j
    => RowT.enc ((getR L i).get j)) fun i j => RowT.enc ((getR L2 i).get j), tabs.n ≤ tabs.n, RowsEq (7 : Nat) tabs.n (fun i => RowT.enc (tabs.get i)) fun i => RowT.enc (tabs.get i),
    holes.n ≤ holes.n, RowsEq (7 : Nat) holes.n (fun i => RowT.enc (holes.get i)) fun i => RowT.enc (holes.get i)]) := by kernel_rfl
set_option maxRecDepth 100000 in
theorem pr_g3 (L L2 : List (Rw Int)) : subE 8 [AV.slz (24 : Nat) (0 : Nat) L.length (Cap.of (0 : Nat))] ([((24 : Nat), Blk.frz2 true (43 : Nat) [CK.int IntKind.i64] L.length (fun i => (getR L i).n) fun i j => RowT.enc ((getR L i).get j))]) (prE L2) = (
    some [(0 : Nat) = (0 : Nat), L.length = L2.length, Cap.of (0 : Nat) = Cap.of (0 : Nat), L.length = L2.length, Rows2Eq (1 : Nat) L2.length (fun i => (getR L i).n) (fun i => (getR L2
    i).n) (fun i j => RowT.enc ((getR L i).get j)) fun i j => RowT.enc ((getR L2 i).get j)]) := by kernel_rfl
abbrev prN (P : Program) : Hnd := { hnd (mkE P tab_rhas) 2 with loop := fun _ _ _ => .fail "a loop" }
abbrev prX (P : Program) (p : Play) (tabs holes : Rw Edge) (w : Rw Int) (L L' : List (Rw Int)) : Hnd := { hnd (mkE P tab_rhas) 1 with loop := fun _ => loopT 8 [] (prJ p tabs holes w L (0 : Nat)) [(True, .exit 0, prE L')] }
set_option maxRecDepth 100000 in
theorem pr_y (p : Play) (tabs holes : Rw Edge) (w : Rw Int) (L L' : List (Rw Int)) : execU (mkE Try.prog tab_rhas) (prN Try.prog) Try.f72 (prU p tabs holes w L L') =
    Tree.br ((↑w.n : Int) == (↑tabs.n : Int)) (Tree.need (decide (L.length = L.length) &&
    (decide (w.n ≤ w.n) && decide ((L.length + (1 : Nat) + (L.length + (1 : Nat)) / (4 : Nat) + (192 : Nat)) * (24 : Nat) ≤ (281474976710656 : Nat) ∧ L.length + (1 : Nat) ≤ (9223372036854775807 : Nat)))) (Tree.leaf (AV.slz (88 : Nat) (0 : Nat) (L.length + (1 : Nat)) (Cap.of (0 : Nat))) ([((88 : Nat),
    Blk.frz2 true (43 : Nat) [CK.int IntKind.i64] (L.length + (1 : Nat))
    (fun i =>
    Bool.rec ((fun _ => (Zn.mk (3 : Nat) w.n (RowT.ks Int) (fun i => RowT.enc (w.get i)) (decide (w.n ≤ w.n))).m) ())
    ((fun _ => (Zf.mk L.length (fun i => (getR L i).n) (fun i j => RowT.enc ((getR L i).get j)) (decide (L.length = L.length)) [(4 : Nat)] (some [CK.int IntKind.i64])).ln i) ())
    (i.blt (Zf.mk L.length (fun i => (getR L i).n) (fun i j => RowT.enc ((getR L i).get j)) (decide (L.length = L.length)) [(4 : Nat)] (some [CK.int IntKind.i64])).n))
    fun i =>
    Bool.rec ((fun _ => (Zn.mk (3 : Nat) w.n (RowT.ks Int) (fun i => RowT.enc (w.get i)) (decide (w.n ≤ w.n))).g) ())
    ((fun _ => (Zf.mk L.length (fun i => (getR L i).n) (fun i j => RowT.enc ((getR L i).get j)) (decide (L.length = L.length)) [(4 : Nat)] (some [CK.int IntKind.i64])).g i) ())
    (i.blt (Zf.mk L.length (fun i => (getR L i).n) (fun i j => RowT.enc ((getR L i).get j)) (decide (L.length = L.length)) [(4 : Nat)] (some [CK.int IntKind.i64])).n))]))) (Tree.fail ("a loop")) := by kernel_rfl
set_option maxRecDepth 100000 in
theorem pr_ye (p : Play) (tabs holes : Rw Edge) (w : Rw Int) (L L' : List (Rw Int)) : subE 8 [(AV.slz (88 : Nat) (0 : Nat) (L.length + (1 : Nat)) (Cap.of (0 : Nat)))] ([((88 : Nat), Blk.frz2 true (43 : Nat) [CK.int IntKind.i64] (L.length + (1 : Nat)) (fun i => Bool.rec ((fun _ => (Zn.mk (3 : Nat) w.n (RowT.ks Int) (fun i => RowT.enc (w.get i)) (decide (w.n ≤ w.n))).m) ()) ((fun _ => (Zf.mk L.length (fun i => (getR L i).n) (fun i j => RowT.enc ((getR L i).get j)) (decide (L.length = L.length)) [(4 : Nat)] (some [CK.int IntKind.i64])).ln i) ()) (i.blt (Zf.mk L.length (fun i => (getR L i).n) (fun i j => RowT.enc ((getR L i).get j)) (decide (L.length = L.length)) [(4 : Nat)] (some [CK.int IntKind.i64])).n)) fun i => Bool.rec ((fun _ => (Zn.mk (3 : Nat) w.n (RowT.ks Int) (fun i => RowT.enc (w.get i)) (decide (w.n ≤ w.n))).g) ()) ((fun _ => (Zf.mk L.length (fun i => (getR L i).n) (fun i j => RowT.enc ((getR L i).get j)) (decide (L.length = L.length)) [(4 : Nat)] (some [CK.int IntKind.i64])).g i) ()) (i.blt (Zf.mk L.length (fun i => (getR L i).n) (fun i j => RowT.enc ((getR L i).get j)) (decide (L.length = L.length)) [(4 : Nat)] (some [CK.int IntKind.i64])).n))]) (resU (prU p tabs holes w L L')) = (
    some [(0 : Nat) = (0 : Nat), L.length + (1 : Nat) = L'.length, Cap.of (0 : Nat) = Cap.of (0 : Nat), L.length + (1 : Nat) = L'.length, Rows2Eq (1 : Nat) L'.length (fun i => Bool.rec
    ((fun x => (Zn.mk (3 : Nat) w.n (RowT.ks Int) (fun i => RowT.enc (w.get i)) (decide (w.n ≤ w.n))).m) ()) ((fun x => (Zf.mk L.length (fun i => (getR L i).n) (fun i j => RowT.enc
    ((getR L i).get j)) (decide (L.length = L.length)) [(4 : Nat)] (some [CK.int IntKind.i64])).ln i) ()) (i.blt (Zf.mk L.length (fun i => (getR L i).n) (fun i j => RowT.enc ((getR L
    i).get j)) (decide (L.length = L.length)) [(4 : Nat)] (some [CK.int IntKind.i64])).n)) (fun i => (getR L' i).n) (fun i => Bool.rec (motive := fun x => Nat → Nat → Int) ((fun x =>
    (Zn.mk (3 : Nat) w.n (RowT.ks Int) (fun i => RowT.enc (w.get i)) (decide (w.n ≤ w.n))).g) ()) ((fun x => (Zf.mk L.length (fun i => (getR L i).n) (fun i j => RowT.enc ((getR L i).get
    j)) (decide (L.length = L.length)) [(4 : Nat)] (some [CK.int IntKind.i64])).g i) ()) (i.blt (Zf.mk L.length (fun i => (getR L i).n) (fun i j => RowT.enc ((getR L i).get j)) (decide
    (L.length = L.length)) [(4 : Nat)] (some [CK.int IntKind.i64])).n)) fun i j => RowT.enc ((getR L' i).get j)]) := by kernel_rfl
set_option maxRecDepth 100000 in
theorem pr_m (p : Play) (tabs holes : Rw Edge) (w : Rw Int) (L L' : List (Rw Int)) : execU (mkE Try.prog tab_rhas) (prX Try.prog p tabs holes w L L') Try.f72 (prU p tabs holes w L L') =
    Tree.br ((↑w.n : Int) == (↑tabs.n : Int)) (Tree.need (decide (L.length = L.length) && (decide (w.n ≤ w.n) && decide ((L.length + (1 : Nat) + (L.length + (1 : Nat)) / (4 : Nat) +
    (192 : Nat)) * (24 : Nat) ≤ (281474976710656 : Nat) ∧ L.length + (1 : Nat) ≤ (9223372036854775807 : Nat)))) (Tree.leaf (AV.slz (88 : Nat) (0 : Nat) (L.length + (1 : Nat)) (Cap.of (0
    : Nat))) ([((88 : Nat), Blk.frz2 true (43 : Nat) [CK.int IntKind.i64] (L.length + (1 : Nat)) (fun i => Bool.rec ((fun _ => (Zn.mk (3 : Nat) w.n (RowT.ks Int) (fun i => RowT.enc
    (w.get i)) (decide (w.n ≤ w.n))).m) ()) ((fun _ => (Zf.mk L.length (fun i => (getR L i).n) (fun i j => RowT.enc ((getR L i).get j)) (decide (L.length = L.length)) [(4 : Nat)] (some
    [CK.int IntKind.i64])).ln i) ()) (i.blt (Zf.mk L.length (fun i => (getR L i).n) (fun i j => RowT.enc ((getR L i).get j)) (decide (L.length = L.length)) [(4 : Nat)] (some [CK.int
    IntKind.i64])).n)) fun i => Bool.rec ((fun _ => (Zn.mk (3 : Nat) w.n (RowT.ks Int) (fun i => RowT.enc (w.get i)) (decide (w.n ≤ w.n))).g) ()) ((fun _ => (Zf.mk L.length (fun i =>
    (getR L i).n) (fun i j => RowT.enc ((getR L i).get j)) (decide (L.length = L.length)) [(4 : Nat)] (some [CK.int IntKind.i64])).g i) ()) (i.blt (Zf.mk L.length (fun i => (getR L
    i).n) (fun i j => RowT.enc ((getR L i).get j)) (decide (L.length = L.length)) [(4 : Nat)] (some [CK.int IntKind.i64])).n))]))) (Tree.ask ((0 : Nat) = (0 : Nat)) (Tree.ask (tabs.n =
    tabs.n) (Tree.ask (Cap.of (0 : Nat) = Cap.of (0 : Nat)) (Tree.ask ((0 : Nat) = (0 : Nat)) (Tree.ask (holes.n = holes.n) (Tree.ask (Cap.of (0 : Nat) = Cap.of (0 : Nat)) (Tree.ask ((0
    : Nat) = (0 : Nat)) (Tree.ask (w.n = w.n) (Tree.ask (Cap.of (0 : Nat) = Cap.of (0 : Nat)) (Tree.ask ((0 : Nat) = (0 : Nat)) (Tree.ask (L.length = L.length) (Tree.ask (Cap.of (0 :
    Nat) = Cap.of (0 : Nat)) (Tree.ask ((0 : Nat) = (0 : Nat)) (Tree.ask ((0 : Nat) = (0 : Nat)) (Tree.ask ((0 : Int) = (0 : Int)) (Tree.ask (p.length = p.length) (Tree.ask (p.slack =
    p.slack) (Tree.ask (p.loose = p.loose) (Tree.ask (p.damp.lo = p.damp.lo) (Tree.ask (p.damp.hi = p.damp.hi) (Tree.ask (w.n ≤ w.n) (Tree.ask (RowsEq (1 : Nat) w.n (fun i => RowT.enc
    (w.get i)) fun i => RowT.enc (w.get i)) (Tree.ask (L.length = L.length) (Tree.ask (Rows2Eq (1 : Nat) L.length (fun i => (getR L i).n) (fun i => (getR L i).n) (fun i j => RowT.enc
    ((getR L i).get j)) fun i j => RowT.enc ((getR L i).get j)) (Tree.ask (tabs.n ≤ tabs.n) (Tree.ask (RowsEq (7 : Nat) tabs.n (fun i => RowT.enc (tabs.get i)) fun i => RowT.enc
    (tabs.get i)) (Tree.ask (holes.n ≤ holes.n) (Tree.ask (RowsEq (7 : Nat) holes.n (fun i => RowT.enc (holes.get i)) fun i => RowT.enc (holes.get i)) (Tree.asm (True) (Tree.all (fun
    (g0 : Nat → Value) => Tree.leaf (AV.slz (24 : Nat) (0 : Nat) L'.length (Cap.of (0 : Nat))) ([((24 : Nat), Blk.frz2 true (43 : Nat) [CK.int IntKind.i64] L'.length (fun i => (getR L'
    i).n) fun i j => RowT.enc ((getR L' i).get j))])))))))))))))))))))))))))))))))) := by kernel_rfl
set_option maxRecDepth 100000 in
theorem pr_me (p : Play) (tabs holes : Rw Edge) (w : Rw Int) (L L' : List (Rw Int)) : subE 8 [(AV.slz (24 : Nat) (0 : Nat) L'.length (Cap.of (0 : Nat)))] ([((24 : Nat), Blk.frz2 true (43 : Nat) [CK.int IntKind.i64] L'.length (fun i => (getR L' i).n) fun i j => RowT.enc ((getR L' i).get j))]) (resU (prU p tabs holes w L L')) = (
    some [(0 : Nat) = (0 : Nat), L'.length = L'.length, Cap.of (0 : Nat) = Cap.of (0 : Nat), L'.length = L'.length, Rows2Eq (1 : Nat) L'.length (fun i => (getR L' i).n) (fun i => (getR
    L' i).n) (fun i j => RowT.enc ((getR L' i).get j)) fun i j => RowT.enc ((getR L' i).get j)]) := by kernel_rfl
end Go.Proofs.Ytdaanchagjamfaa
/- The reference's pairings: its contract, by induction. -/
namespace Go.SX
theorem denOk_of' {Q : AV → List (Nat × Blk) → Prop} {t t' : Tree} (e : t = t') (h : t'.den Q) : DenOk Q t := ⟨e ▸ h⟩
end Go.SX
namespace Go.Proofs.Ytdaanchagjamfaa
open Go.SX
theorem rows2_refl (m : Nat) (n : Nat) (ln : Nat → Nat) (g : Nat → Nat → Nat → Int) : Rows2Eq m n ln ln g g := fun _ _ => ⟨rfl, RowsEq.refl _ _ _⟩
theorem getR_app (L : List (Rw Int)) (w : Rw Int) (i : Nat) : getR (L ++ [w]) i = if i < L.length then getR L i else if i = L.length then w else nilW := by
  unfold getR
  rw [List.getD_eq_getElem?_getD, List.getD_eq_getElem?_getD]
  by_cases h : i < L.length
  · rw [if_pos h, List.getElem?_append_left h]
  · rw [if_neg h, List.getElem?_append_right (by omega)]
    by_cases h2 : i = L.length
    · subst h2; simp
    · rw [if_neg h2, List.getElem?_eq_none (by simp; omega)]; rfl
theorem snoc_rows2 (L : List (Rw Int)) (w : Rw Int) : Rows2Eq 1 (L ++ [w]).length (snocL L.length (fun i => (getR L i).n) w.n) (fun i => (getR (L ++ [w]) i).n) (snocG L.length (fun i j => RowT.enc ((getR L i).get j)) (fun i => RowT.enc (w.get i))) (fun i j => RowT.enc ((getR (L ++ [w]) i).get j)) := by
  intro i hi
  rw [List.length_append, List.length_singleton] at hi
  by_cases h : i < L.length
  · simp only [snocL, snocG, blt_true h, getR_app, if_pos h]
    exact ⟨trivial, RowsEq.refl _ _ _⟩
  · have e : i = L.length := by omega
    simp only [snocL, snocG, blt_false h, getR_app, if_neg h, if_pos e]
    exact ⟨trivial, RowsEq.refl _ _ _⟩
theorem prU_ok (p : Play) (tabs holes : Rw Edge) (w : Rw Int) (L L' : List (Rw Int)) : (prU p tabs holes w L L').Ok := by
  have e0 : ∀ nid : Nat, newU 0 8 nid 8 = nid := fun nid => by
    have : Nat.blt 8 0 = false := rfl
    simp only [newU, this]; omega
  refine ⟨Nat.zero_le _, rfl, rfl, ?_, rfl, fun nid h => ?_, fun nid h => ?_⟩
  · intro q hq
    simp only [UC.po, prU, List.mem_singleton] at hq
    subst hq
    exact ⟨rfl, rfl, rfl, fun h => absurd h (Nat.not_lt_zero _)⟩
  · simp only [UC.va, prU, prPre, AV.mapId, e0]
  · simp only [UC.po, prU, prPre, rw2, List.map_cons, List.map_nil, Blk.mapId, e0]
structure PreR (p : Play) (tabs holes : Rw Edge) : Prop where
  play : p.ok = true
  okT : allN (fun i => (tabs.get i).ok) tabs.n = true
  okH : allN (fun i => (holes.get i).ok) holes.n = true
  t8 : tabs.n ≤ 8
  h8 : holes.n ≤ 8
def recR (p : Play) (tabs holes : Rw Edge) (d : Nat) (w : Rw Int) (k : Nat) : List (Rw Int) := pairL p tabs holes d (snocW w k)
def restR (p : Play) (tabs holes : Rw Edge) (d : Nat) (w : Rw Int) (k : Nat) : List (Rw Int) := pairK (skipR p tabs holes w) (recR p tabs holes d w) (holes.n - k) k
theorem rest_skip {p : Play} {tabs holes : Rw Edge} {d : Nat} {w : Rw Int} {k : Nat} (hk : k < holes.n) (hs : skipR p tabs holes w k = true) : restR p tabs holes d w k = restR p tabs holes d w (k + 1) := by
  unfold restR
  rw [show holes.n - k = (holes.n - (k + 1)) + 1 by omega, pairK, hs]
theorem rest_go {p : Play} {tabs holes : Rw Edge} {d : Nat} {w : Rw Int} {k : Nat} (hk : k < holes.n) (hs : skipR p tabs holes w k = false) : restR p tabs holes d w k = recR p tabs holes d w k ++ restR p tabs holes d w (k + 1) := by
  unfold restR
  rw [show holes.n - k = (holes.n - (k + 1)) + 1 by omega, pairK, hs]
theorem rest_end {p : Play} {tabs holes : Rw Edge} {d : Nat} {w : Rw Int} {k : Nat} (hk : holes.n ≤ k) : restR p tabs holes d w k = [] := by
  unfold restR
  rw [show holes.n - k = 0 by omega, pairK]
theorem pairK_len {skip : Nat → Bool} {rec : Nat → List (Rw Int)} {B : Nat} (h : ∀ k, (rec k).length ≤ B) : ∀ c k, (pairK skip rec c k).length ≤ c * B
  | 0, k => by simp [pairK]
  | c + 1, k => by
    simp only [pairK]
    have := pairK_len (skip := skip) h c (k + 1)
    rw [Nat.succ_mul]
    split
    · omega
    · have := h k
      rw [List.length_append]; omega
theorem pairL_len (p : Play) (tabs holes : Rw Edge) (h8 : holes.n ≤ 8) : ∀ d w, (pairL p tabs holes d w).length ≤ 9 ^ d
  | 0, w => by simp [pairL]
  | d + 1, w => by
    simp only [pairL]
    have h1 := pairK_len (skip := skipR p tabs holes w) (rec := fun k => pairL p tabs holes d (snocW w k)) (fun k => pairL_len p tabs holes h8 d (snocW w k)) holes.n 0
    have h2 := Nat.mul_le_mul_right (9 ^ d) (show holes.n ≤ 9 by omega)
    rw [Nat.pow_succ, Nat.mul_comm]; omega
abbrev PrSt (holes : Rw Edge) (d : Nat) := { s : Nat × List (Rw Int) // s.1 ≤ holes.n ∧ s.2.length + (holes.n + 1 - s.1) * 9 ^ d ≤ 1000000000 }
def prRel (p : Play) (tabs holes : Rw Edge) (d : Nat) (w : Rw Int) (s : PrSt holes d) (e : Ex) (J : JSt) : Prop := e = .exit 0 ∧ J = prE (s.1.2 ++ restR p tabs holes d w s.1.1)
noncomputable def prEnv (P : Program) (p : Play) (tabs holes : Rw Edge) (d : Nat) (w : Rw Int) (s : PrSt holes d) : Env := mkE P (tab_pr propB (prU p tabs holes (snocW w s.1.1) s.1.2 (s.1.2 ++ recR p tabs holes d w s.1.1)))
theorem cp_len (w : Rw Int) (k : Int) : 0 + w.n + 1 = (snocW w k).n := by show _ = w.n + 1; omega
theorem cp_rows (w : Rw Int) (k : Int) : RowsEq 1 (snocW w k).n (joinG (0 + w.n) (joinG 0 (fun _ _ => 0) fun i => RowT.enc (w.get i)) (rowI [[AV.int false IntKind.i64 k]] 0)) (fun i => RowT.enc ((snocW w k).get i)) := by
  rw [Nat.zero_add]
  exact snoc_rows w k
set_option maxRecDepth 100000 in
theorem pr_round (p : Play) (tabs holes : Rw Edge) (d : Nat) (w : Rw Int) (hP : PreR p tabs holes) (hd : w.n < tabs.n) : RoundE (fun s : PrSt holes d => prJ p tabs holes w s.1.2 s.1.1) (fun _ => True) (fun s => holes.n - s.1.1) (prRel p tabs holes d w) 8 prLs [] (prEnv Try.prog p tabs holes d w) (fun s => hnd (prEnv Try.prog p tabs holes d w s) 0) (bodyK Try.f72 0) := by
  refine ⟨fun s g _ => ?_⟩
  obtain ⟨⟨k, L⟩, hk, hL⟩ := s
  simp only at hk hL
  have h8 := hP.h8
  have t8 := hP.t8
  have hw : (IntKind.i64.wrap ((k : Int) + 1)) = ((k + 1 : Nat) : Int) := by rw [w64 (by omega) (by omega)]; omega
  have okk : k < holes.n → okP p (tabs.get w.n) (holes.get k) = true := fun h => by
    simp only [okP, Bool.and_eq_true]
    exact ⟨hP.play, allN_get hP.okT hd, allN_get hP.okH h⟩
  unfold prEnv
  simp only
  refine denOk_of' (pr_r propB p tabs holes w L (L ++ recR p tabs holes d w k) k g) ?_
  refine den_br (fun h => ?_) (fun h => ?_)
  · have h : k < holes.n := by have := of_decide_eq_true h; omega
    have goS : skipR p tabs holes w k = true → ∃ (hs : L.length + (holes.n + 1 - (k + 1)) * 9 ^ d ≤ 1000000000), ∀ e J, prRel p tabs holes d w ⟨(k + 1, L), h, hs⟩ e J → prRel p tabs holes d w ⟨(k, L), hk, hL⟩ e J := fun hs => by
      have e := rest_skip (d := d) h hs
      refine ⟨by have := Nat.mul_le_mul_right (9 ^ d) (show holes.n + 1 - (k + 1) ≤ holes.n + 1 - k by omega); omega, fun e' J hr => ?_⟩
      unfold prRel at hr ⊢
      simp only at hr ⊢
      rw [e]; exact hr
    refine den_need (by simp; omega) (den_br (fun hh => ?_) (fun hh => ?_))
    · have hh : hasV w k = false := by simpa using hh
      refine den_need (by simp; omega) (den_need (by simp; omega) (den_need (by simp; omega) (den_need (by simp; omega) (den_need (okk h) (den_br (fun hf => ?_) (fun hf => ?_))))))
      · have hs : skipR p tabs holes w k = false := by
          simp only [skipR, hh, Bool.false_or]
          simpa [bne] using hf
        have e := rest_go (d := d) h hs
        have hgo : (L ++ recR p tabs holes d w k).length + (holes.n + 1 - (k + 1)) * 9 ^ d ≤ 1000000000 := by
          have := pairL_len p tabs holes h8 d (snocW w k)
          rw [show holes.n + 1 - k = (holes.n + 1 - (k + 1)) + 1 by omega, Nat.succ_mul] at hL
          rw [List.length_append]
          show _ + (pairL p tabs holes d (snocW w k)).length + _ ≤ _
          omega
        refine den_need (by simp; omega) (den_need (by simp; omega) (den_need (propB_ok.2 ?_) ?_))
        · repeat' first | exact trivial | with_reducible rfl | exact Nat.le_refl _ | exact RowsEq.refl _ _ _ | exact rows2_refl _ _ _ _ | exact cp_len _ _ | exact Nat.le_of_eq (cp_len w k).symm | exact cp_rows _ _ | refine And.intro ?_ ?_
        · refine ⟨⟨(k + 1, L ++ recR p tabs holes d w k), h, hgo⟩, trivial, by show holes.n - (k + 1) < holes.n - k; omega, fun e' J hr => ?_, rfl, rfl, _, pr_g0 p tabs holes w (L ++ recR p tabs holes d w k) (L ++ recR p tabs holes d w k) k (k + 1), ?_⟩
          · unfold prRel at hr ⊢
            simp only at hr ⊢
            rw [e, ← List.append_assoc]; exact hr
          · repeat' first | exact trivial | with_reducible rfl | exact Nat.le_refl _ | exact RowsEq.refl _ _ _ | exact rows2_refl _ _ _ _ | exact hw | refine And.intro ?_ ?_
      · have hs : skipR p tabs holes w k = true := by
          simp only [skipR, hh, Bool.false_or]
          simpa [bne] using hf
        obtain ⟨h1, h2⟩ := goS hs
        refine ⟨⟨(k + 1, L), h, h1⟩, trivial, by show holes.n - (k + 1) < holes.n - k; omega, h2, rfl, rfl, _, pr_g1 p tabs holes w L L k (k + 1), ?_⟩
        repeat' first | exact trivial | with_reducible rfl | exact Nat.le_refl _ | exact RowsEq.refl _ _ _ | exact rows2_refl _ _ _ _ | exact hw | refine And.intro ?_ ?_
    · have hh : hasV w k = true := by simpa using hh
      obtain ⟨h1, h2⟩ := goS (by simp only [skipR, hh, Bool.true_or])
      refine ⟨⟨(k + 1, L), h, h1⟩, trivial, by show holes.n - (k + 1) < holes.n - k; omega, h2, rfl, rfl, _, pr_g2 p tabs holes w L L k (k + 1), ?_⟩
      repeat' first | exact trivial | with_reducible rfl | exact Nat.le_refl _ | exact RowsEq.refl _ _ _ | exact rows2_refl _ _ _ _ | exact hw | refine And.intro ?_ ?_
  · have h : holes.n ≤ k := by have := of_decide_eq_false h; omega
    refine ⟨_, ⟨rfl, rfl⟩, rfl, rfl, _, pr_g3 L _, ?_⟩
    simp only [rest_end h, List.append_nil]
    repeat' first | exact trivial | with_reducible rfl | exact Nat.le_refl _ | exact rows2_refl _ _ _ _ | refine And.intro ?_ ?_
end Go.Proofs.Ytdaanchagjamfaa
/- The reference's pairings: its contract, by induction (the step). -/
namespace Go.Proofs.Ytdaanchagjamfaa
open Go.SX
theorem prEnv_ok {p : Play} {tabs holes : Rw Edge} {d : Nat} {w : Rw Int} (IH : ∀ (k : Nat) (L : List (Rw Int)), L.length + 9 ^ d ≤ 1000000000 → FSound Try.prog 72 (uFC (prU p tabs holes (snocW w k) L (L ++ recR p tabs holes d w k)))) (s : PrSt holes d) : (prEnv Try.prog p tabs holes d w s).Sound :=
  mkE_ok (tab_rhas_ok.add (IH s.1.1 s.1.2 (by
    obtain ⟨⟨k, L⟩, h1, h2⟩ := s
    simp only at h1 h2 ⊢
    have := Nat.mul_le_mul_right (9 ^ d) (show 1 ≤ holes.n + 1 - k by omega)
    omega)))
theorem pr_loop {p : Play} {tabs holes : Rw Edge} (hP : PreR p tabs holes) {d : Nat} {w : Rw Int} (hd : w.n < tabs.n) (IH : ∀ (k : Nat) (L : List (Rw Int)), L.length + 9 ^ d ≤ 1000000000 → FSound Try.prog 72 (uFC (prU p tabs holes (snocW w k) L (L ++ recR p tabs holes d w k))))
    (L : List (Rw Int)) (hL : L.length + (holes.n + 1 - 0) * 9 ^ d ≤ 1000000000) (G : Ctx) (hrd : G.rd = none) (hG : G.n = 8) :
    HndOk (mkE Try.prog tab_rhas) G (prX Try.prog p tabs holes w L (L ++ restR p tabs holes d w 0)) (bodyOf Try.f72) := by
  refine one_loop (body := bodyK Try.f72 0) (mkE_ok tab_rhas_ok) hrd (by kernel_rfl) ?_
  have hr := pr_round p tabs holes d w hP hd
  refine loopE_ok (E0 := mkE Try.prog tab_rhas) (E := prEnv Try.prog p tabs holes d w) (H := fun s => hnd (prEnv Try.prog p tabs holes d w s) 0) (n0 := 8) (s0 := ⟨(0, L), Nat.zero_le _, hL⟩) (fun _ => rfl) (prEnv_ok IH) (by omega) (fun s _ => hnd_hndOk (prEnv_ok IH s) 0 G _ hrd) (fun s _ => (by decide : 8 ≤ 40)) ?_ hr trivial ?_
  · rintro s e J ⟨_, rfl⟩
    exact (by decide : 8 ≤ 40)
  · rintro e J ⟨rfl, rfl⟩
    exact ⟨_, List.mem_cons_self, trivial, rfl, rfl⟩
theorem prN_ok (G : Ctx) (hrd : G.rd = none) : HndOk (mkE Try.prog tab_rhas) G (prN Try.prog) (bodyOf Try.f72) :=
  one_loop (body := bodyK Try.f72 0) (mkE_ok tab_rhas_ok) hrd (by kernel_rfl) (fun _ _ _ _ _ _ _ h _ _ => h.elim)
set_option maxRecDepth 100000 in
theorem pr_fin {p : Play} {tabs holes : Rw Edge} (hP : PreR p tabs holes) (w : Rw Int) (L : List (Rw Int)) (hw : w.n = tabs.n) (hL : L.length + 1 ≤ 1000000000) : FSound Try.prog 72 (uFC (prU p tabs holes w L (L ++ [w]))) := by
  refine fn_U (E := mkE Try.prog tab_rhas) (mkE_ok tab_rhas_ok) Try.func72 (by kernel_rfl) (by kernel_rfl) (prU_ok ..) (fun G h1 _ => prN_ok G h1) ⟨?_⟩
  refine denOk_of' (pr_y p tabs holes w L (L ++ [w])) ?_
  refine den_br (fun _ => den_need (by simp; omega) ?_) (fun h => by rw [hw] at h; simp at h)
  refine ⟨rfl, rfl, _, pr_ye p tabs holes w L _, ?_⟩
  repeat' first | exact trivial | with_reducible rfl | exact Nat.le_refl _ | exact (by simp : L.length + 1 = (L ++ [w]).length) | refine And.intro ?_ ?_
  intro i hi
  rw [List.length_append, List.length_singleton] at hi
  dsimp only
  by_cases h : i < L.length
  · rw [blt_true h, getR_app, if_pos h]
    exact ⟨rfl, RowsEq.refl _ _ _⟩
  · have e : i = L.length := by omega
    rw [blt_false h, getR_app, if_neg h, if_pos e]
    exact ⟨rfl, RowsEq.refl _ _ _⟩
set_option maxRecDepth 100000 in
theorem pr_step {p : Play} {tabs holes : Rw Edge} (hP : PreR p tabs holes) {d : Nat} {w : Rw Int} (hd : w.n < tabs.n) (IH : ∀ (k : Nat) (L : List (Rw Int)), L.length + 9 ^ d ≤ 1000000000 → FSound Try.prog 72 (uFC (prU p tabs holes (snocW w k) L (L ++ recR p tabs holes d w k))))
    (L : List (Rw Int)) (hL : L.length + 9 ^ (d + 1) ≤ 1000000000) : FSound Try.prog 72 (uFC (prU p tabs holes w L (L ++ restR p tabs holes d w 0))) := by
  have h8 := hP.h8
  have t8 := hP.t8
  have hL0 : L.length + (holes.n + 1 - 0) * 9 ^ d ≤ 1000000000 := by
    have := Nat.mul_le_mul_right (9 ^ d) (show holes.n + 1 - 0 ≤ 9 by omega)
    rw [Nat.pow_succ, Nat.mul_comm] at hL; omega
  refine fn_U (E := mkE Try.prog tab_rhas) (mkE_ok tab_rhas_ok) Try.func72 (by kernel_rfl) (by kernel_rfl) (prU_ok ..) (pr_loop hP hd IH L hL0) ⟨?_⟩
  generalize L ++ restR p tabs holes d w 0 = L'
  refine denOk_of' (pr_m p tabs holes w L L') ?_
  refine den_br (fun h => by simp at h; omega) (fun _ => ?_)
  repeat' first | refine den_ask (by with_reducible rfl) ?_ | refine den_ask (Nat.le_refl _) ?_ | refine den_ask (RowsEq.refl _ _ _) ?_ | refine den_ask (rows2_refl _ _ _ _) ?_ | refine den_ask rfl ?_
  refine den_asm fun _ => den_all fun g => ⟨rfl, rfl, _, pr_me p tabs holes w L L', ?_⟩
  repeat' first | exact trivial | with_reducible rfl | exact Nat.le_refl _ | exact RowsEq.refl _ _ _ | exact rows2_refl _ _ _ _ | refine And.intro ?_ ?_
theorem prr_s {p : Play} {tabs holes : Rw Edge} (hP : PreR p tabs holes) : ∀ (d : Nat) (w : Rw Int) (L : List (Rw Int)), w.n + d = tabs.n → L.length + 9 ^ d ≤ 1000000000 → FSound Try.prog 72 (uFC (prU p tabs holes w L (L ++ pairL p tabs holes d w)))
  | 0, w, L, hw, hL => pr_fin hP w L (by omega) (by simpa using hL)
  | d + 1, w, L, hw, hL => pr_step hP (by omega) (fun k L' hL' => prr_s hP d (snocW w k) L' (by show w.n + 1 + d = tabs.n; omega) hL') L hL
end Go.Proofs.Ytdaanchagjamfaa
/- The reference: Matches (layer 2). -/
namespace Go.Proofs.Ytdaanchagjamfaa
open Go.SX
def rmJ (p : Play) (s : Edge) (l : Rw Edge) (o q : List Int) (k : Nat) : JSt :=
  ⟨56, [(2, .slz 2 0 l.n (.of 0)), (3, .ptr 8 0 0), (4, .ptr 16 0 0), (9, .slz 24 0 o.length (.of 0)), (10, .slz 32 0 q.length (.of 0)), (11, .int false .i64 k)],
    [(8, .cells 0 25 (Enc.enc p).cells), (16, .cells 0 27 (Enc.enc s).cells), newL 3 24 o 0, newL 3 32 q 0] ++ ArgE.blk 2 l, 40⟩
def rmLs : Ex → List Nat
  | .normal => [2, 3, 4, 9, 10, 11]
  | .exit _ => [9, 10]
  | .ret => []
def rmE (o q : List Int) : JSt := ⟨56, [(9, .slz 24 0 o.length (.of 0)), (10, .slz 32 0 q.length (.of 0))], [newL 3 24 o 0, newL 3 32 q 0], 40⟩
set_option maxRecDepth 100000 in
theorem rm_r (p : Play) (s : Edge) (l : Rw Edge) (o q : List Int) (k : Nat) (g : Nat → Value) : exec (mkE Try.prog tab_rhas) (hnd (mkE Try.prog tab_rhas) 0) (bodyK Try.f25 0) (JSt.inst (rmJ p s l o q k) g) (leafW [] rmLs) =
    Tree.br (decide ((↑k : Int) < (↑l.n : Int))) (Tree.need (decide ((0 : Int) ≤ (↑k : Int) ∧ (↑k : Int) < (↑l.n : Int)) && decide (l.n ≤ l.n)) (Tree.need (decide (k < l.n)) (Tree.need
    (okP p s (l.get k)) (Tree.br (fitsF p s (l.get k) == (2 : Int)) (Tree.need (decide (o.length ≤ o.length) && (true && decide ((o.length + (1 : Nat) + (o.length + (1 : Nat)) / (4 :
    Nat) + (192 : Nat)) * (8 : Nat) ≤ (281474976710656 : Nat) ∧ o.length + (1 : Nat) ≤ (9223372036854775807 : Nat)))) (Tree.br (fitsF p s (l.get k) != (0 : Int)) (Tree.need (decide
    (q.length ≤ q.length) && (true && decide ((q.length + (1 : Nat) + (q.length + (1 : Nat)) / (4 : Nat) + (192 : Nat)) * (8 : Nat) ≤ (281474976710656 : Nat) ∧ q.length + (1 : Nat) ≤
    (9223372036854775807 : Nat)))) (Tree.leaf (AV.tup [AV.nilp, AV.ptr (56 : Nat) (0 : Nat) (0 : Nat), AV.slz (2 : Nat) (0 : Nat) l.n (Cap.of (0 : Nat)), AV.ptr (8 : Nat) (0 : Nat) (0 :
    Nat), AV.ptr (16 : Nat) (0 : Nat) (0 : Nat), AV.slz (176 : Nat) (0 : Nat) (o.length + (1 : Nat)) (Cap.of (0 : Nat)), AV.slz (232 : Nat) (0 : Nat) (q.length + (1 : Nat)) (Cap.of (0 :
    Nat)), AV.int false IntKind.i64 (IntKind.i64.wrap ((↑k : Int) + (1 : Int)))]) ([((2 : Nat), Blk.frz [CK.int IntKind.i64, CK.int IntKind.i64, CK.int IntKind.i64, CK.int IntKind.i64,
    CK.int IntKind.i64, CK.int IntKind.i64, CK.int IntKind.i64] l.n fun i => RowT.enc (l.get i)), ((8 : Nat), Blk.cells (0 : Nat) (25 : Nat) [AV.int false IntKind.i64 p.length, AV.int
    false IntKind.i64 p.slack, AV.int false IntKind.i64 p.loose, AV.int false IntKind.i64 p.damp.lo, AV.int false IntKind.i64 p.damp.hi]), ((16 : Nat), Blk.cells (0 : Nat) (27 : Nat)
    [AV.int false IntKind.i64 s.kind, AV.int false IntKind.i64 s.at_.lo, AV.int false IntKind.i64 s.at_.hi, AV.int false IntKind.i64 s.wide.lo, AV.int false IntKind.i64 s.wide.hi,
    AV.int false IntKind.i64 s.deep.lo, AV.int false IntKind.i64 s.deep.hi]), ((176 : Nat), Blk.rowz true (3 : Nat) [CK.int IntKind.i64] (o.length + (1 : Nat)) (joinG o.length (fun i =>
    RowT.enc (o.getD i (0 : Int))) (rowI [[AV.int false IntKind.i64 (↑k : Int)]] (0 : Nat)))), ((232 : Nat), Blk.rowz true (3 : Nat) [CK.int IntKind.i64] (q.length + (1 : Nat)) (joinG
    q.length (fun i => RowT.enc (q.getD i (0 : Int))) (rowI [[AV.int false IntKind.i64 (↑k : Int)]] (0 : Nat))))]))) (Tree.leaf (AV.tup [AV.nilp, AV.ptr (56 : Nat) (0 : Nat) (0 : Nat),
    AV.slz (2 : Nat) (0 : Nat) l.n (Cap.of (0 : Nat)), AV.ptr (8 : Nat) (0 : Nat) (0 : Nat), AV.ptr (16 : Nat) (0 : Nat) (0 : Nat), AV.slz (176 : Nat) (0 : Nat) (o.length + (1 : Nat))
    (Cap.of (0 : Nat)), AV.slz (32 : Nat) (0 : Nat) q.length (Cap.of (0 : Nat)), AV.int false IntKind.i64 (IntKind.i64.wrap ((↑k : Int) + (1 : Int)))]) ([((2 : Nat), Blk.frz [CK.int
    IntKind.i64, CK.int IntKind.i64, CK.int IntKind.i64, CK.int IntKind.i64, CK.int IntKind.i64, CK.int IntKind.i64, CK.int IntKind.i64] l.n fun i => RowT.enc (l.get i)), ((8 : Nat),
    Blk.cells (0 : Nat) (25 : Nat) [AV.int false IntKind.i64 p.length, AV.int false IntKind.i64 p.slack, AV.int false IntKind.i64 p.loose, AV.int false IntKind.i64 p.damp.lo, AV.int
    false IntKind.i64 p.damp.hi]), ((16 : Nat), Blk.cells (0 : Nat) (27 : Nat) [AV.int false IntKind.i64 s.kind, AV.int false IntKind.i64 s.at_.lo, AV.int false IntKind.i64 s.at_.hi,
    AV.int false IntKind.i64 s.wide.lo, AV.int false IntKind.i64 s.wide.hi, AV.int false IntKind.i64 s.deep.lo, AV.int false IntKind.i64 s.deep.hi]), ((176 : Nat), Blk.rowz true (3 :
    Nat) [CK.int IntKind.i64] (o.length + (1 : Nat)) (joinG o.length (fun i => RowT.enc (o.getD i (0 : Int))) (rowI [[AV.int false IntKind.i64 (↑k : Int)]] (0 : Nat)))), ((32 : Nat),
    Blk.rowz true (3 : Nat) [CK.int IntKind.i64] q.length fun i => RowT.enc (q.getD i (0 : Int)))])))) (Tree.br (fitsF p s (l.get k) != (0 : Int)) (Tree.need (decide (q.length ≤
    q.length) && (true && decide ((q.length + (1 : Nat) + (q.length + (1 : Nat)) / (4 : Nat) + (192 : Nat)) * (8 : Nat) ≤ (281474976710656 : Nat) ∧ q.length + (1 : Nat) ≤
    (9223372036854775807 : Nat)))) (Tree.leaf (AV.tup [AV.nilp, AV.ptr (56 : Nat) (0 : Nat) (0 : Nat), AV.slz (2 : Nat) (0 : Nat) l.n (Cap.of (0 : Nat)), AV.ptr (8 : Nat) (0 : Nat) (0 :
    Nat), AV.ptr (16 : Nat) (0 : Nat) (0 : Nat), AV.slz (24 : Nat) (0 : Nat) o.length (Cap.of (0 : Nat)), AV.slz (192 : Nat) (0 : Nat) (q.length + (1 : Nat)) (Cap.of (0 : Nat)), AV.int
    false IntKind.i64 (IntKind.i64.wrap ((↑k : Int) + (1 : Int)))]) ([((2 : Nat), Blk.frz [CK.int IntKind.i64, CK.int IntKind.i64, CK.int IntKind.i64, CK.int IntKind.i64, CK.int
    IntKind.i64, CK.int IntKind.i64, CK.int IntKind.i64] l.n fun i => RowT.enc (l.get i)), ((8 : Nat), Blk.cells (0 : Nat) (25 : Nat) [AV.int false IntKind.i64 p.length, AV.int false
    IntKind.i64 p.slack, AV.int false IntKind.i64 p.loose, AV.int false IntKind.i64 p.damp.lo, AV.int false IntKind.i64 p.damp.hi]), ((16 : Nat), Blk.cells (0 : Nat) (27 : Nat) [AV.int
    false IntKind.i64 s.kind, AV.int false IntKind.i64 s.at_.lo, AV.int false IntKind.i64 s.at_.hi, AV.int false IntKind.i64 s.wide.lo, AV.int false IntKind.i64 s.wide.hi, AV.int false
    IntKind.i64 s.deep.lo, AV.int false IntKind.i64 s.deep.hi]), ((24 : Nat), Blk.rowz true (3 : Nat) [CK.int IntKind.i64] o.length fun i => RowT.enc (o.getD i (0 : Int))), ((192 :
    Nat), Blk.rowz true (3 : Nat) [CK.int IntKind.i64] (q.length + (1 : Nat)) (joinG q.length (fun i => RowT.enc (q.getD i (0 : Int))) (rowI [[AV.int false IntKind.i64 (↑k : Int)]] (0 :
    Nat))))]))) (Tree.leaf (AV.tup [AV.nilp, AV.ptr (56 : Nat) (0 : Nat) (0 : Nat), AV.slz (2 : Nat) (0 : Nat) l.n (Cap.of (0 : Nat)), AV.ptr (8 : Nat) (0 : Nat) (0 : Nat), AV.ptr (16 :
    Nat) (0 : Nat) (0 : Nat), AV.slz (24 : Nat) (0 : Nat) o.length (Cap.of (0 : Nat)), AV.slz (32 : Nat) (0 : Nat) q.length (Cap.of (0 : Nat)), AV.int false IntKind.i64
    (IntKind.i64.wrap ((↑k : Int) + (1 : Int)))]) ([((2 : Nat), Blk.frz [CK.int IntKind.i64, CK.int IntKind.i64, CK.int IntKind.i64, CK.int IntKind.i64, CK.int IntKind.i64, CK.int
    IntKind.i64, CK.int IntKind.i64] l.n fun i => RowT.enc (l.get i)), ((8 : Nat), Blk.cells (0 : Nat) (25 : Nat) [AV.int false IntKind.i64 p.length, AV.int false IntKind.i64 p.slack,
    AV.int false IntKind.i64 p.loose, AV.int false IntKind.i64 p.damp.lo, AV.int false IntKind.i64 p.damp.hi]), ((16 : Nat), Blk.cells (0 : Nat) (27 : Nat) [AV.int false IntKind.i64
    s.kind, AV.int false IntKind.i64 s.at_.lo, AV.int false IntKind.i64 s.at_.hi, AV.int false IntKind.i64 s.wide.lo, AV.int false IntKind.i64 s.wide.hi, AV.int false IntKind.i64
    s.deep.lo, AV.int false IntKind.i64 s.deep.hi]), ((24 : Nat), Blk.rowz true (3 : Nat) [CK.int IntKind.i64] o.length fun i => RowT.enc (o.getD i (0 : Int))), ((32 : Nat), Blk.rowz
    true (3 : Nat) [CK.int IntKind.i64] q.length fun i => RowT.enc (q.getD i (0 : Int)))]))))))) (Tree.leaf (AV.tup [AV.ptr (0 : Nat) (0 : Nat) (0 : Nat), AV.ptr (56 : Nat) (0 : Nat) (0
    : Nat), AV.slz (24 : Nat) (0 : Nat) o.length (Cap.of (0 : Nat)), AV.slz (32 : Nat) (0 : Nat) q.length (Cap.of (0 : Nat))]) ([((24 : Nat), Blk.rowz true (3 : Nat) [CK.int
    IntKind.i64] o.length fun i => RowT.enc (o.getD i (0 : Int))), ((32 : Nat), Blk.rowz true (3 : Nat) [CK.int IntKind.i64] q.length fun i => RowT.enc (q.getD i (0 : Int)))])) := by kernel_rfl
set_option maxRecDepth 100000 in
theorem rm_g0 (p : Play) (s : Edge) (l : Rw Edge) (o q o' q' : List Int) (k k' : Nat) : subE 8 [AV.slz (2 : Nat) (0 : Nat) l.n (Cap.of (0 : Nat)), AV.ptr (8 : Nat) (0 : Nat) (0 : Nat), AV.ptr (16 : Nat) (0 : Nat) (0 : Nat), AV.slz (176 : Nat) (0 : Nat) (o.length + (1 : Nat)) (Cap.of (0 : Nat)), AV.slz (232 : Nat) (0 : Nat) (q.length + (1 : Nat)) (Cap.of (0 : Nat)), AV.int false IntKind.i64 (IntKind.i64.wrap ((↑k : Int) + (1 : Int)))] ([((2 : Nat), Blk.frz [CK.int IntKind.i64, CK.int IntKind.i64, CK.int IntKind.i64, CK.int IntKind.i64, CK.int IntKind.i64, CK.int IntKind.i64, CK.int IntKind.i64] l.n fun i => RowT.enc (l.get i)), ((8 : Nat), Blk.cells (0 : Nat) (25 : Nat) [AV.int false IntKind.i64 p.length, AV.int false IntKind.i64 p.slack, AV.int false IntKind.i64 p.loose, AV.int false IntKind.i64 p.damp.lo, AV.int false IntKind.i64 p.damp.hi]), ((16 : Nat), Blk.cells (0 : Nat) (27 : Nat) [AV.int false IntKind.i64 s.kind, AV.int false IntKind.i64 s.at_.lo, AV.int false IntKind.i64 s.at_.hi, AV.int false IntKind.i64 s.wide.lo, AV.int false IntKind.i64 s.wide.hi, AV.int false IntKind.i64 s.deep.lo, AV.int false IntKind.i64 s.deep.hi]), ((176 : Nat), Blk.rowz true (3 : Nat) [CK.int IntKind.i64] (o.length + (1 : Nat)) (joinG o.length (fun i => RowT.enc (o.getD i (0 : Int))) (rowI [[AV.int false IntKind.i64 (↑k : Int)]] (0 : Nat)))), ((232 : Nat), Blk.rowz true (3 : Nat) [CK.int IntKind.i64] (q.length + (1 : Nat)) (joinG q.length (fun i => RowT.enc (q.getD i (0 : Int))) (rowI [[AV.int false IntKind.i64 (↑k : Int)]] (0 : Nat))))]) (rmJ p s l o' q' k') = (
    some [(0 : Nat) = (0 : Nat), l.n = l.n, Cap.of (0 : Nat) = Cap.of (0 : Nat), (0 : Nat) = (0 : Nat), (0 : Nat) = (0 : Nat), (0 : Nat) = (0 : Nat), (0 : Nat) = (0 : Nat), (0 : Nat) =
    (0 : Nat), o.length + (1 : Nat) = o'.length, Cap.of (0 : Nat) = Cap.of (0 : Nat), (0 : Nat) = (0 : Nat), q.length + (1 : Nat) = q'.length, Cap.of (0 : Nat) = Cap.of (0 : Nat),
    IntKind.i64.wrap ((↑k : Int) + (1 : Int)) = (↑k' : Int), p.length = p.length, p.slack = p.slack, p.loose = p.loose, p.damp.lo = p.damp.lo, p.damp.hi = p.damp.hi, s.kind = s.kind,
    s.at_.lo = s.at_.lo, s.at_.hi = s.at_.hi, s.wide.lo = s.wide.lo, s.wide.hi = s.wide.hi, s.deep.lo = s.deep.lo, s.deep.hi = s.deep.hi, o'.length ≤ o.length + (1 : Nat), RowsEq (1 :
    Nat) o'.length (joinG o.length (fun i => RowT.enc (o.getD i (0 : Int))) (rowI [[AV.int false IntKind.i64 (↑k : Int)]] (0 : Nat))) fun i => RowT.enc (o'.getD i (0 : Int)), q'.length
    ≤ q.length + (1 : Nat), RowsEq (1 : Nat) q'.length (joinG q.length (fun i => RowT.enc (q.getD i (0 : Int))) (rowI [[AV.int false IntKind.i64 (↑k : Int)]] (0 : Nat))) fun i =>
    RowT.enc (q'.getD i (0 : Int)), l.n ≤ l.n, RowsEq (7 : Nat) l.n (fun i => RowT.enc (l.get i)) fun i => RowT.enc (l.get i)]) := by kernel_rfl
set_option maxRecDepth 100000 in
theorem rm_g2 (p : Play) (s : Edge) (l : Rw Edge) (o q o' q' : List Int) (k k' : Nat) : subE 8 [AV.slz (2 : Nat) (0 : Nat) l.n (Cap.of (0 : Nat)), AV.ptr (8 : Nat) (0 : Nat) (0 : Nat), AV.ptr (16 : Nat) (0 : Nat) (0 : Nat), AV.slz (24 : Nat) (0 : Nat) o.length (Cap.of (0 : Nat)), AV.slz (192 : Nat) (0 : Nat) (q.length + (1 : Nat)) (Cap.of (0 : Nat)), AV.int false IntKind.i64 (IntKind.i64.wrap ((↑k : Int) + (1 : Int)))] ([((2 : Nat), Blk.frz [CK.int IntKind.i64, CK.int IntKind.i64, CK.int IntKind.i64, CK.int IntKind.i64, CK.int IntKind.i64, CK.int IntKind.i64, CK.int IntKind.i64] l.n fun i => RowT.enc (l.get i)), ((8 : Nat), Blk.cells (0 : Nat) (25 : Nat) [AV.int false IntKind.i64 p.length, AV.int false IntKind.i64 p.slack, AV.int false IntKind.i64 p.loose, AV.int false IntKind.i64 p.damp.lo, AV.int false IntKind.i64 p.damp.hi]), ((16 : Nat), Blk.cells (0 : Nat) (27 : Nat) [AV.int false IntKind.i64 s.kind, AV.int false IntKind.i64 s.at_.lo, AV.int false IntKind.i64 s.at_.hi, AV.int false IntKind.i64 s.wide.lo, AV.int false IntKind.i64 s.wide.hi, AV.int false IntKind.i64 s.deep.lo, AV.int false IntKind.i64 s.deep.hi]), ((24 : Nat), Blk.rowz true (3 : Nat) [CK.int IntKind.i64] o.length fun i => RowT.enc (o.getD i (0 : Int))), ((192 : Nat), Blk.rowz true (3 : Nat) [CK.int IntKind.i64] (q.length + (1 : Nat)) (joinG q.length (fun i => RowT.enc (q.getD i (0 : Int))) (rowI [[AV.int false IntKind.i64 (↑k : Int)]] (0 : Nat))))]) (rmJ p s l o' q' k') = (
    some [(0 : Nat) = (0 : Nat), l.n = l.n, Cap.of (0 : Nat) = Cap.of (0 : Nat), (0 : Nat) = (0 : Nat), (0 : Nat) = (0 : Nat), (0 : Nat) = (0 : Nat), (0 : Nat) = (0 : Nat), (0 : Nat) =
    (0 : Nat), o.length = o'.length, Cap.of (0 : Nat) = Cap.of (0 : Nat), (0 : Nat) = (0 : Nat), q.length + (1 : Nat) = q'.length, Cap.of (0 : Nat) = Cap.of (0 : Nat), IntKind.i64.wrap
    ((↑k : Int) + (1 : Int)) = (↑k' : Int), p.length = p.length, p.slack = p.slack, p.loose = p.loose, p.damp.lo = p.damp.lo, p.damp.hi = p.damp.hi, s.kind = s.kind, s.at_.lo =
    s.at_.lo, s.at_.hi = s.at_.hi, s.wide.lo = s.wide.lo, s.wide.hi = s.wide.hi, s.deep.lo = s.deep.lo, s.deep.hi = s.deep.hi, o'.length ≤ o.length, RowsEq (1 : Nat) o'.length (fun i =>
    RowT.enc (o.getD i (0 : Int))) fun i => RowT.enc (o'.getD i (0 : Int)), q'.length ≤ q.length + (1 : Nat), RowsEq (1 : Nat) q'.length (joinG q.length (fun i => RowT.enc (q.getD i (0
    : Int))) (rowI [[AV.int false IntKind.i64 (↑k : Int)]] (0 : Nat))) fun i => RowT.enc (q'.getD i (0 : Int)), l.n ≤ l.n, RowsEq (7 : Nat) l.n (fun i => RowT.enc (l.get i)) fun i =>
    RowT.enc (l.get i)]) := by kernel_rfl
set_option maxRecDepth 100000 in
theorem rm_g3 (p : Play) (s : Edge) (l : Rw Edge) (o q o' q' : List Int) (k k' : Nat) : subE 8 [AV.slz (2 : Nat) (0 : Nat) l.n (Cap.of (0 : Nat)), AV.ptr (8 : Nat) (0 : Nat) (0 : Nat), AV.ptr (16 : Nat) (0 : Nat) (0 : Nat), AV.slz (24 : Nat) (0 : Nat) o.length (Cap.of (0 : Nat)), AV.slz (32 : Nat) (0 : Nat) q.length (Cap.of (0 : Nat)), AV.int false IntKind.i64 (IntKind.i64.wrap ((↑k : Int) + (1 : Int)))] ([((2 : Nat), Blk.frz [CK.int IntKind.i64, CK.int IntKind.i64, CK.int IntKind.i64, CK.int IntKind.i64, CK.int IntKind.i64, CK.int IntKind.i64, CK.int IntKind.i64] l.n fun i => RowT.enc (l.get i)), ((8 : Nat), Blk.cells (0 : Nat) (25 : Nat) [AV.int false IntKind.i64 p.length, AV.int false IntKind.i64 p.slack, AV.int false IntKind.i64 p.loose, AV.int false IntKind.i64 p.damp.lo, AV.int false IntKind.i64 p.damp.hi]), ((16 : Nat), Blk.cells (0 : Nat) (27 : Nat) [AV.int false IntKind.i64 s.kind, AV.int false IntKind.i64 s.at_.lo, AV.int false IntKind.i64 s.at_.hi, AV.int false IntKind.i64 s.wide.lo, AV.int false IntKind.i64 s.wide.hi, AV.int false IntKind.i64 s.deep.lo, AV.int false IntKind.i64 s.deep.hi]), ((24 : Nat), Blk.rowz true (3 : Nat) [CK.int IntKind.i64] o.length fun i => RowT.enc (o.getD i (0 : Int))), ((32 : Nat), Blk.rowz true (3 : Nat) [CK.int IntKind.i64] q.length fun i => RowT.enc (q.getD i (0 : Int)))]) (rmJ p s l o' q' k') = (
    some [(0 : Nat) = (0 : Nat), l.n = l.n, Cap.of (0 : Nat) = Cap.of (0 : Nat), (0 : Nat) = (0 : Nat), (0 : Nat) = (0 : Nat), (0 : Nat) = (0 : Nat), (0 : Nat) = (0 : Nat), (0 : Nat) =
    (0 : Nat), o.length = o'.length, Cap.of (0 : Nat) = Cap.of (0 : Nat), (0 : Nat) = (0 : Nat), q.length = q'.length, Cap.of (0 : Nat) = Cap.of (0 : Nat), IntKind.i64.wrap ((↑k : Int)
    + (1 : Int)) = (↑k' : Int), p.length = p.length, p.slack = p.slack, p.loose = p.loose, p.damp.lo = p.damp.lo, p.damp.hi = p.damp.hi, s.kind = s.kind, s.at_.lo = s.at_.lo, s.at_.hi =
    s.at_.hi, s.wide.lo = s.wide.lo, s.wide.hi = s.wide.hi, s.deep.lo = s.deep.lo, s.deep.hi = s.deep.hi, o'.length ≤ o.length, RowsEq (1 : Nat) o'.length (fun i => RowT.enc (o.getD i
    (0 : Int))) fun i => RowT.enc (o'.getD i (0 : Int)), q'.length ≤ q.length, RowsEq (1 : Nat) q'.length (fun i => RowT.enc (q.getD i (0 : Int))) fun i => RowT.enc (q'.getD i (0 :
    Int)), l.n ≤ l.n, RowsEq (7 : Nat) l.n (fun i => RowT.enc (l.get i)) fun i => RowT.enc (l.get i)]) := by kernel_rfl
set_option maxRecDepth 100000 in
theorem rm_e (o q o' q' : List Int) : subE 8 [AV.slz (24 : Nat) (0 : Nat) o.length (Cap.of (0 : Nat)), AV.slz (32 : Nat) (0 : Nat) q.length (Cap.of (0 : Nat))] ([((24 : Nat), Blk.rowz true (3 : Nat) [CK.int IntKind.i64] o.length fun i => RowT.enc (o.getD i (0 : Int))), ((32 : Nat), Blk.rowz true (3 : Nat) [CK.int IntKind.i64] q.length fun i => RowT.enc (q.getD i (0 : Int)))]) (rmE o' q') = (
    some [(0 : Nat) = (0 : Nat), o.length = o'.length, Cap.of (0 : Nat) = Cap.of (0 : Nat), (0 : Nat) = (0 : Nat), q.length = q'.length, Cap.of (0 : Nat) = Cap.of (0 : Nat), o'.length ≤
    o.length, RowsEq (1 : Nat) o'.length (fun i => RowT.enc (o.getD i (0 : Int))) fun i => RowT.enc (o'.getD i (0 : Int)), q'.length ≤ q.length, RowsEq (1 : Nat) q'.length (fun i =>
    RowT.enc (q.getD i (0 : Int))) fun i => RowT.enc (q'.getD i (0 : Int))]) := by kernel_rfl
end Go.Proofs.Ytdaanchagjamfaa
/- The reference: Matches, its contract (layer 2). -/
namespace Go.Proofs.Ytdaanchagjamfaa
open Go.SX
def pk (p : Play) (s : Edge) (l : Rw Edge) (least : Int) (k : Nat) : List Int := picks (pickQ p s least l) k
theorem pk_yes {p : Play} {s : Edge} {l : Rw Edge} {least : Int} {k : Nat} (h : pickQ p s least l k = true) : pk p s l least (k + 1) = pk p s l least k ++ [(k : Int)] := by
  simp only [pk, picks, h]
theorem pk_no {p : Play} {s : Edge} {l : Rw Edge} {least : Int} {k : Nat} (h : pickQ p s least l k = false) : pk p s l least (k + 1) = pk p s l least k := by
  simp only [pk, picks, h]
set_option maxRecDepth 100000 in
theorem rm_round (p : Play) (s : Edge) (l : Rw Edge) (hl : pickPre p s l) : RoundW (fun k => rmJ p s l (pk p s l 2 k) (pk p s l 1 k) k) (fun k => k ≤ l.n) (fun k => l.n - k) (fun _ e J => e = .exit 0 ∧ J = rmE (pk p s l 2 l.n) (pk p s l 1 l.n)) 8 rmLs [] (mkE Try.prog tab_rhas) (fun _ => hnd (mkE Try.prog tab_rhas) 0) (bodyK Try.f25 0) := by
  obtain ⟨h1, h2, h3, h4⟩ := hl
  refine ⟨fun k g hk => denOk_of' (rm_r p s l _ _ k g) ?_⟩
  have hlen2 := picks_len (pickQ p s 2 l) k
  have hlen1 := picks_len (pickQ p s 1 l) k
  have hlen2 : (pk p s l 2 k).length ≤ k := hlen2
  have hlen1 : (pk p s l 1 k).length ≤ k := hlen1
  refine den_br (fun h => ?_) (fun h => ?_)
  · have h : k < l.n := by have := of_decide_eq_true h; omega
    have hw : IntKind.i64.wrap ((k : Int) + 1) = ((k + 1 : Nat) : Int) := (w64 (by omega) (by omega)).trans (by omega)
    have e2 : pickQ p s 2 l k = decide (fitsF p s (l.get k) ≥ 2) := rfl
    have e1 : pickQ p s 1 l k = decide (fitsF p s (l.get k) ≥ 1) := rfl
    have hv := fitsF_cases p s (l.get k)
    refine den_need (by simp; omega) (den_need (by simp; omega) (den_need (by simp only [okP, h1, h2, allN_get h3 h]; rfl) (den_br (fun hb => ?_) (fun hb => ?_))))
    · have hb : fitsF p s (l.get k) = 2 := by simpa using hb
      have q2 : pickQ p s 2 l k = true := by rw [e2, hb]; rfl
      have q1 : pickQ p s 1 l k = true := by rw [e1, hb]; rfl
      refine den_need (by simp; omega) (den_br (fun _ => den_need (by simp; omega) ⟨k + 1, h, by show l.n - (k + 1) < l.n - k; omega, fun _ _ h => h, rfl, rfl, _, rm_g0 p s l _ _ (pk p s l 2 (k + 1)) (pk p s l 1 (k + 1)) k (k + 1), ?_⟩) (fun hc => by rw [hb] at hc; cases hc))
      rw [pk_yes q2, pk_yes q1]
      repeat' first | exact trivial | with_reducible rfl | exact Nat.le_refl _ | exact RowsEq.refl _ _ _ | exact hw | exact rows_snoc _ _ | refine And.intro ?_ ?_
      all_goals simp
    · have hb : fitsF p s (l.get k) ≠ 2 := by simpa using hb
      have q2 : pickQ p s 2 l k = false := by rw [e2]; exact decide_eq_false (by omega)
      refine den_br (fun hc => ?_) (fun hc => ?_)
      · have hc : fitsF p s (l.get k) ≠ 0 := by simpa using hc
        have q1 : pickQ p s 1 l k = true := by rw [e1]; exact decide_eq_true (by omega)
        refine den_need (by simp; omega) ⟨k + 1, h, by show l.n - (k + 1) < l.n - k; omega, fun _ _ h => h, rfl, rfl, _, rm_g2 p s l _ _ (pk p s l 2 (k + 1)) (pk p s l 1 (k + 1)) k (k + 1), ?_⟩
        rw [pk_no q2, pk_yes q1]
        repeat' first | exact trivial | with_reducible rfl | exact Nat.le_refl _ | exact RowsEq.refl _ _ _ | exact hw | exact rows_snoc _ _ | refine And.intro ?_ ?_
        all_goals simp
      · have hc : fitsF p s (l.get k) = 0 := by simpa using hc
        have q1 : pickQ p s 1 l k = false := by rw [e1, hc]; rfl
        refine ⟨k + 1, h, by show l.n - (k + 1) < l.n - k; omega, fun _ _ h => h, rfl, rfl, _, rm_g3 p s l _ _ (pk p s l 2 (k + 1)) (pk p s l 1 (k + 1)) k (k + 1), ?_⟩
        rw [pk_no q2, pk_no q1]
        repeat' first | exact trivial | with_reducible rfl | exact Nat.le_refl _ | exact RowsEq.refl _ _ _ | exact hw | refine And.intro ?_ ?_
  · have : k = l.n := by have := of_decide_eq_false h; omega
    subst this
    refine ⟨_, ⟨rfl, rfl⟩, rfl, rfl, _, rm_e _ _ _ _, ?_⟩
    repeat' first | exact trivial | with_reducible rfl | exact Nat.le_refl _ | exact RowsEq.refl _ _ _ | refine And.intro ?_ ?_
abbrev rmH (P : Program) (p : Play) (s : Edge) (l : Rw Edge) : Hnd := { hnd (mkE P tab_rhas) 1 with loop := fun _ => askH (pickPre p s l) (loopT 8 [] (rmJ p s l [] [] (0 : Nat)) [(True, .exit 0, rmE (pk p s l 2 l.n) (pk p s l 1 l.n))]) }
theorem rm_hnd (p : Play) (s : Edge) (l : Rw Edge) (G : Ctx) (hrd : G.rd = none) (hG : G.n = 8) : HndOk (mkE Try.prog tab_rhas) G (rmH Try.prog p s l) (bodyOf Try.f25) := by
  refine one_loop (body := bodyK Try.f25 0) (mkE_ok tab_rhas_ok) hrd (by kernel_rfl) ?_
  refine askH_ok fun hl => ?_
  refine loopT_ok (n0 := 8) (mkE_ok tab_rhas_ok) (by omega) (fun s hs => hnd_hndOk (mkE_ok tab_rhas_ok) 0 G _ hrd) (fun s hs => (by decide : 8 ≤ 40)) ?_ (rm_round p s l hl) (s0 := 0) (Nat.zero_le _) ?_
  · rintro s e J ⟨_, rfl⟩; exact (by decide : 8 ≤ 40)
  · rintro e J ⟨rfl, rfl⟩
    exact ⟨_, List.mem_cons_self, trivial, rfl, rfl⟩
set_option maxRecDepth 100000 in
theorem rmat_no (e f : Int) (o q : List Int) : subE 8 [.tup [.nils, .nils, .int true .i64 e]] [] (resJ 8 (.tup [.slz 0 0 o.length (.of 0), .slz 1 0 q.length (.of 0), .int false .i64 f]) [newL 3 0 o 0, newL 3 1 q 0]) = (
    some [o.length = (0 : Nat), q.length = (0 : Nat), e = f, o.length = (0 : Nat), q.length = (0 : Nat)]) := by kernel_rfl
set_option maxRecDepth 100000 in
theorem rmat_yes (e f : Int) (o q o' q' : List Int) : subE 8 [.tup [.slz 24 0 o.length (.of 0), .slz 32 0 q.length (.of 0), .int true .i64 e]] [newL 3 24 o 0, newL 3 32 q 0] (resJ 8 (.tup [.slz 0 0 o'.length (.of 0), .slz 1 0 q'.length (.of 0), .int false .i64 f]) [newL 3 0 o' 0, newL 3 1 q' 0]) = (
    some [(0 : Nat) = (0 : Nat), o.length = o'.length, Cap.of (0 : Nat) = Cap.of (0 : Nat), (0 : Nat) = (0 : Nat), q.length = q'.length, Cap.of (0 : Nat) = Cap.of (0 : Nat), e = f,
    o'.length ≤ o.length, RowsEq (1 : Nat) o'.length (fun i => RowT.enc (o.getD i (0 : Int))) fun i => RowT.enc (o'.getD i (0 : Int)), q'.length ≤ q.length, RowsEq (1 : Nat) q'.length
    (fun i => RowT.enc (q.getD i (0 : Int))) fun i => RowT.enc (q'.getD i (0 : Int))]) := by kernel_rfl
def rmatF : WF (Play × Edge × (Rw Edge) × Unit) := fun | (p, (s, (l, _))) => (decide (l.n ≤ 1000), .tup [.slz 0 0 (matL p s 2 l).length (.of 0), .slz 1 0 (matL p s 1 l).length (.of 0), .int false .i64 (matE p s l)], [newL 3 0 (matL p s 2 l) 0, newL 3 1 (matL p s 1 l) 0])
def rmatC : FC := wFC rmatF
set_option maxRecDepth 100000 in
theorem rmat_t (p : Play) (s : Edge) (l : (Rw Edge)) : execW (mkE Try.prog tab_rhas) (rmH Try.prog p s l) Try.f25 (ArgsE.vals 0 ((p, s, l, ()) : Play × Edge × (Rw Edge) × Unit)) (ArgsE.blks 0 ((p, s, l, ()) : Play × Edge × (Rw Edge) × Unit)) 8 =
    Tree.need (true) (Tree.br (!p.ok) (Tree.leaf (AV.tup [AV.nils, AV.nils, AV.int true IntKind.i64 (1 : Int)]) ([])) (Tree.need (true) (Tree.br (!s.ok) (Tree.leaf (AV.tup [AV.nils,
    AV.nils, AV.int true IntKind.i64 (1 : Int)]) ([])) (Tree.need (decide (l.n ≤ l.n) && true && decide (l.n ≤ (1000 : Nat))) (Tree.br (!allN (fun i => (l.get i).ok) l.n) (Tree.leaf
    (AV.tup [AV.nils, AV.nils, AV.int true IntKind.i64 (1 : Int)]) ([])) (Tree.br (decide ((↑l.n : Int) > (40 : Int))) (Tree.leaf (AV.tup [AV.nils, AV.nils, AV.int true IntKind.i64 (3 :
    Int)]) ([])) (Tree.ask (pickPre p s l) (Tree.ask ((0 : Nat) = (0 : Nat)) (Tree.ask (l.n = l.n) (Tree.ask (Cap.of (0 : Nat) = Cap.of (0 : Nat)) (Tree.ask ((0 : Nat) = (0 : Nat))
    (Tree.ask ((0 : Nat) = (0 : Nat)) (Tree.ask ((0 : Nat) = (0 : Nat)) (Tree.ask ((0 : Nat) = (0 : Nat)) (Tree.ask ((0 : Nat) = (0 : Nat)) (Tree.ask ((0 : Nat) = (0 : Nat)) (Tree.ask
    ((0 : Int) = (0 : Int)) (Tree.ask (p.length = p.length) (Tree.ask (p.slack = p.slack) (Tree.ask (p.loose = p.loose) (Tree.ask (p.damp.lo = p.damp.lo) (Tree.ask (p.damp.hi =
    p.damp.hi) (Tree.ask (s.kind = s.kind) (Tree.ask (s.at_.lo = s.at_.lo) (Tree.ask (s.at_.hi = s.at_.hi) (Tree.ask (s.wide.lo = s.wide.lo) (Tree.ask (s.wide.hi = s.wide.hi) (Tree.ask
    (s.deep.lo = s.deep.lo) (Tree.ask (s.deep.hi = s.deep.hi) (Tree.ask ((0 : Nat) = (0 : Nat)) (Tree.ask ((0 : Nat) = (0 : Nat)) (Tree.ask (l.n ≤ l.n) (Tree.ask (RowsEq (7 : Nat) l.n
    (fun i => RowT.enc (l.get i)) fun i => RowT.enc (l.get i)) (Tree.asm (True) (Tree.all (fun (g0 : Nat → Value) => Tree.leaf (AV.tup [AV.slz (24 : Nat) (0 : Nat) (pk p s l (2 : Int)
    l.n).length (Cap.of (0 : Nat)), AV.slz (32 : Nat) (0 : Nat) (pk p s l (1 : Int) l.n).length (Cap.of (0 : Nat)), AV.int true IntKind.i64 (0 : Int)]) ([((24 : Nat), Blk.rowz true (3 :
    Nat) [CK.int IntKind.i64] (pk p s l (2 : Int) l.n).length fun i => RowT.enc ((pk p s l (2 : Int) l.n).getD i (0 : Int))), ((32 : Nat), Blk.rowz true (3 : Nat) [CK.int IntKind.i64]
    (pk p s l (1 : Int) l.n).length fun i => RowT.enc ((pk p s l (1 : Int) l.n).getD i (0 : Int)))]))))))))))))))))))))))))))))))))))))) := by kernel_rfl
theorem rmat_hs : WHnd (mkE Try.prog tab_rhas) (bodyOf Try.f25) 8 rmatF (fun x_ => (rmH Try.prog x_.1 x_.2.1 x_.2.2.1)) := by
  refine ⟨?_⟩
  rintro ⟨p, ⟨s, ⟨l, ⟨⟩⟩⟩⟩ hp G h1 h2
  exact rm_hnd p s l G h1 h2
theorem rmat_run : WRun (mkE Try.prog tab_rhas) Try.f25 8 rmatF (fun x_ => (rmH Try.prog x_.1 x_.2.1 x_.2.2.1)) := by
  refine ⟨?_⟩
  rintro ⟨p, ⟨s, ⟨l, ⟨⟩⟩⟩⟩ hp
  refine ⟨⟨rfl, by simp [rmatF, newL, Blk.own, Blk.all], rfl⟩, ⟨?_⟩⟩
  rw [rmat_t p s l]
  simp only [rmatF] at hp
  have hn : l.n ≤ 1000 := of_decide_eq_true hp
  have no : ∀ e : Int, matL p s 2 l = [] → matL p s 1 l = [] → matE p s l = e → (Tree.leaf (AV.tup [AV.nils, AV.nils, AV.int true IntKind.i64 e]) []).den (EndOk 8 (rmatF (p, s, l, ())).2.1 (rmatF (p, s, l, ())).2.2) := by
    intro e h1 h2 h3
    refine ⟨rfl, rfl, _, rmat_no _ _ _ _, ?_⟩
    rw [h1, h2, h3]
    exact ⟨rfl, rfl, rfl, rfl, rfl, trivial⟩
  refine den_need rfl (den_br (fun h => ?_) (fun h => den_need rfl (den_br (fun h2 => ?_) (fun h2 => den_need (by simpa using hn) (den_br (fun h3 => ?_) (fun h3 => den_br (fun h4 => ?_) (fun h4 => ?_)))))))
  · have e : matO p s l = false := by simp [matO] at h ⊢; simp [h]
    exact no 1 (by simp [matL, e]) (by simp [matL, e]) (by simp [matE, e])
  · have e : matO p s l = false := by simp [matO] at h2 ⊢; simp [h2]
    exact no 1 (by simp [matL, e]) (by simp [matL, e]) (by simp [matE, e])
  · have e : matO p s l = false := by simp [matO] at h3 ⊢; simp [h3]
    exact no 1 (by simp [matL, e]) (by simp [matL, e]) (by simp [matE, e])
  · have h4 : l.n > 40 := by have := of_decide_eq_true h4; omega
    have e1 : decide (l.n > 40) = true := decide_eq_true h4
    have e2 : decide (l.n ≤ 40) = false := decide_eq_false (by omega)
    have e : matO p s l = true := by simp [matO] at h h2 h3 ⊢; exact ⟨h, h2, h3⟩
    exact no 3 (by simp only [matL, e, e2]; rfl) (by simp only [matL, e, e2]; rfl) (by simp only [matE, e, e1])
  · have h4 : ¬ l.n > 40 := by have := of_decide_eq_false h4; omega
    have e1 : decide (l.n > 40) = false := decide_eq_false h4
    have e2 : decide (l.n ≤ 40) = true := decide_eq_true (by omega)
    have e : matO p s l = true := by simp [matO] at h h2 h3 ⊢; exact ⟨h, h2, h3⟩
    have k2 : matL p s 2 l = pk p s l 2 l.n := by simp only [matL, e, e2]; rfl
    have k1 : matL p s 1 l = pk p s l 1 l.n := by simp only [matL, e, e2]; rfl
    have k3 : matE p s l = 0 := by simp only [matE, e, e1]
    have hpre : pickPre p s l := by
      simp at h h2 h3
      exact ⟨h, h2, h3, hn⟩
    refine den_ask hpre ?_
    repeat' first | refine den_ask (show _ = _ by with_reducible rfl) ?_ | refine den_ask (show _ ≤ _ from Nat.le_refl _) ?_ | refine den_ask (show RowsEq _ _ _ _ from RowsEq.refl _ _ _) ?_
    refine den_asm fun _ => den_all fun g => ⟨rfl, rfl, _, rmat_yes _ _ _ _ _ _, ?_⟩
    rw [k1, k2, k3]
    repeat' first | exact trivial | with_reducible rfl | exact Nat.le_refl _ | exact RowsEq.refl _ _ _ | refine And.intro ?_ ?_
theorem rmat_s : FSound Try.prog 25 rmatC :=
  fn_W (mkE_ok tab_rhas_ok) Try.func25 (by kernel_rfl) (by kernel_rfl) (by decide) rmat_hs rmat_run
def tab_rmat : Tab := addF tab_rhas 25 rmatC
theorem tab_rmat_ok : TabOk tab_rmat := tab_rhas_ok.add rmat_s
end Go.Proofs.Ytdaanchagjamfaa
