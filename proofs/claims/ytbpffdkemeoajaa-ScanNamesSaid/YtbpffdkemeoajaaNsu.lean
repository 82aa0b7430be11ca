/- Check: is a drawing right? (layer 7) -/
import Derived.Test.YtbpffdkemeoajaaNst
namespace Go.Proofs.Ytbpffdkemeoajaa
open Go.SX
def puzC (d : Puz) : List AV := [.int false .i64 d.play.length, .int false .i64 d.play.slack, .int false .i64 d.play.loose, .int false .i64 d.play.damp.lo, .int false .i64 d.play.damp.hi, .int false .i64 d.wide, .int false .i64 d.high, .bool false d.turn, .slz 0 0 d.ps.n (.of 0)]
def chkJ (d : Puz) (c : Nat) : JSt := ⟨62, [(1, .ptr 8 0 0), (16, .slz 0 0 d.ps.n (.of 0)), (17, .int false .i64 d.ps.n), (18, .int false .i64 c)], [(8, .cells 0 28 (puzC d))] ++ ArgE.blk 0 d.ps, 96⟩
def chkLs : Ex → List Nat
  | .normal => [1, 16, 17, 18]
  | .exit _ => []
  | .ret => [2, 3, 4]
set_option maxRecDepth 100000 in
theorem chk_r (d : Puz) (c : Nat) (g : Nat → Value) : exec (mkE Try.prog tab_beside) (hnd (mkE Try.prog tab_beside) 6) (bodyK Try.f13 0) (JSt.inst (chkJ d c) g) (leafW [] chkLs) =
    Tree.br (decide ((↑c : Int) < (↑d.ps.n : Int))) (Tree.need (decide ((0 : Int) ≤ (↑c : Int) ∧ (↑c : Int) < (↑d.ps.n : Int)) && decide (d.ps.n ≤ d.ps.n)) (Tree.need (decide (c <
    d.ps.n)) (Tree.need (decide (d.ps.n ≤ d.ps.n) && (true && (true && true)) && decide (((1 : Int) ≤ d.wide ∧ d.wide ≤ (100 : Int)) ∧ ((1 : Int) ≤ d.high ∧ d.high ≤ (100 : Int)) ∧ (0 :
    Int) ≤ (↑c : Int) ∧ (↑c : Int) ≤ (100 : Int))) (Tree.br (besF d.wide d.high (↑c : Int) (0 : Int) == (-1 : Int)) (Tree.br ((d.ps.get c).up.kind != (0 : Int)) (Tree.leaf (AV.tup
    [AV.nili, AV.ptr (62 : Nat) (0 : Nat) (0 : Nat), AV.int false IntKind.i64 (↑c : Int), AV.int true IntKind.i64 (0 : Int), AV.int true IntKind.i64 (0 : Int)]) ([])) (Tree.need (decide
    (d.ps.n ≤ d.ps.n) && (true && (true && true)) && decide (((1 : Int) ≤ d.wide ∧ d.wide ≤ (100 : Int)) ∧ ((1 : Int) ≤ d.high ∧ d.high ≤ (100 : Int)) ∧ (0 : Int) ≤ (↑c : Int) ∧ (↑c :
    Int) ≤ (100 : Int))) (Tree.br (besF d.wide d.high (↑c : Int) (1 : Int) == (-1 : Int)) (Tree.br ((d.ps.get c).right.kind != (0 : Int)) (Tree.leaf (AV.tup [AV.nili, AV.ptr (62 : Nat)
    (0 : Nat) (0 : Nat), AV.int false IntKind.i64 (↑c : Int), AV.int true IntKind.i64 (1 : Int), AV.int true IntKind.i64 (0 : Int)]) ([])) (Tree.need (decide (d.ps.n ≤ d.ps.n) && (true
    && (true && true)) && decide (((1 : Int) ≤ d.wide ∧ d.wide ≤ (100 : Int)) ∧ ((1 : Int) ≤ d.high ∧ d.high ≤ (100 : Int)) ∧ (0 : Int) ≤ (↑c : Int) ∧ (↑c : Int) ≤ (100 : Int)))
    (Tree.br (besF d.wide d.high (↑c : Int) (2 : Int) == (-1 : Int)) (Tree.br ((d.ps.get c).down.kind != (0 : Int)) (Tree.leaf (AV.tup [AV.nili, AV.ptr (62 : Nat) (0 : Nat) (0 : Nat),
    AV.int false IntKind.i64 (↑c : Int), AV.int true IntKind.i64 (2 : Int), AV.int true IntKind.i64 (0 : Int)]) ([])) (Tree.need (decide (d.ps.n ≤ d.ps.n) && (true && (true && true)) &&
    decide (((1 : Int) ≤ d.wide ∧ d.wide ≤ (100 : Int)) ∧ ((1 : Int) ≤ d.high ∧ d.high ≤ (100 : Int)) ∧ (0 : Int) ≤ (↑c : Int) ∧ (↑c : Int) ≤ (100 : Int))) (Tree.br (besF d.wide d.high
    (↑c : Int) (3 : Int) == (-1 : Int)) (Tree.br ((d.ps.get c).left.kind != (0 : Int)) (Tree.leaf (AV.tup [AV.nili, AV.ptr (62 : Nat) (0 : Nat) (0 : Nat), AV.int false IntKind.i64 (↑c :
    Int), AV.int true IntKind.i64 (3 : Int), AV.int true IntKind.i64 (0 : Int)]) ([])) (Tree.leaf (AV.tup [AV.nilp, AV.ptr (62 : Nat) (0 : Nat) (0 : Nat), AV.ptr (8 : Nat) (0 : Nat) (0
    : Nat), AV.slz (0 : Nat) (0 : Nat) d.ps.n (Cap.of (0 : Nat)), AV.int false IntKind.i64 (↑d.ps.n : Int), AV.int false IntKind.i64 (IntKind.i64.wrap ((↑c : Int) + (1 : Int)))]) ([((8
    : Nat), Blk.cells (0 : Nat) (28 : Nat) [AV.int false IntKind.i64 d.play.length, AV.int false IntKind.i64 d.play.slack, AV.int false IntKind.i64 d.play.loose, AV.int false
    IntKind.i64 d.play.damp.lo, AV.int false IntKind.i64 d.play.damp.hi, AV.int false IntKind.i64 d.wide, AV.int false IntKind.i64 d.high, AV.bool false d.turn, AV.slz (0 : Nat) (0 :
    Nat) d.ps.n (Cap.of (0 : Nat))]), ((0 : Nat), Blk.frz [CK.int IntKind.i64, CK.int IntKind.i64, CK.int IntKind.i64, CK.int IntKind.i64, CK.int IntKind.i64, CK.int IntKind.i64, CK.int
    IntKind.i64, CK.int IntKind.i64, CK.int IntKind.i64, CK.int IntKind.i64, CK.int IntKind.i64, CK.int IntKind.i64, CK.int IntKind.i64, CK.int IntKind.i64, CK.int IntKind.i64, CK.int
    IntKind.i64, CK.int IntKind.i64, CK.int IntKind.i64, CK.int IntKind.i64, CK.int IntKind.i64, CK.int IntKind.i64, CK.int IntKind.i64, CK.int IntKind.i64, CK.int IntKind.i64, CK.int
    IntKind.i64, CK.int IntKind.i64, CK.int IntKind.i64, CK.int IntKind.i64] d.ps.n fun i => RowT.enc (d.ps.get i))]))) (Tree.need (decide ((0 : Int) ≤ besF d.wide d.high (↑c : Int) (3
    : Int) ∧ besF d.wide d.high (↑c : Int) (3 : Int) < (↑d.ps.n : Int)) && decide (d.ps.n ≤ d.ps.n)) (Tree.need (decide ((besF d.wide d.high (↑c : Int) (3 : Int)).toNat < d.ps.n))
    (Tree.need (true) (Tree.br ((FitF d.play (d.ps.get c).left (d.ps.get (besF d.wide d.high (↑c : Int) (3 : Int)).toNat).right).1 != (2 : Int)) (Tree.leaf (AV.tup [AV.nili, AV.ptr (62
    : Nat) (0 : Nat) (0 : Nat), AV.int false IntKind.i64 (↑c : Int), AV.int true IntKind.i64 (3 : Int), AV.int true IntKind.i64 (0 : Int)]) ([])) (Tree.leaf (AV.tup [AV.nilp, AV.ptr (62
    : Nat) (0 : Nat) (0 : Nat), AV.ptr (8 : Nat) (0 : Nat) (0 : Nat), AV.slz (0 : Nat) (0 : Nat) d.ps.n (Cap.of (0 : Nat)), AV.int false IntKind.i64 (↑d.ps.n : Int), AV.int false
    IntKind.i64 (IntKind.i64.wrap ((↑c : Int) + (1 : Int)))]) ([((8 : Nat), Blk.cells (0 : Nat) (28 : Nat) [AV.int false IntKind.i64 d.play.length, AV.int false IntKind.i64
    d.play.slack, AV.int false IntKind.i64 d.play.loose, AV.int false IntKind.i64 d.play.damp.lo, AV.int false IntKind.i64 d.play.damp.hi, AV.int false IntKind.i64 d.wide, AV.int false
    IntKind.i64 d.high, AV.bool false d.turn, AV.slz (0 : Nat) (0 : Nat) d.ps.n (Cap.of (0 : Nat))]), ((0 : Nat), Blk.frz [CK.int IntKind.i64, CK.int IntKind.i64, CK.int IntKind.i64,
    CK.int IntKind.i64, CK.int IntKind.i64, CK.int IntKind.i64, CK.int IntKind.i64, CK.int IntKind.i64, CK.int IntKind.i64, CK.int IntKind.i64, CK.int IntKind.i64, CK.int IntKind.i64,
    CK.int IntKind.i64, CK.int IntKind.i64, CK.int IntKind.i64, CK.int IntKind.i64, CK.int IntKind.i64, CK.int IntKind.i64, CK.int IntKind.i64, CK.int IntKind.i64, CK.int IntKind.i64,
    CK.int IntKind.i64, CK.int IntKind.i64, CK.int IntKind.i64, CK.int IntKind.i64, CK.int IntKind.i64, CK.int IntKind.i64, CK.int IntKind.i64] d.ps.n fun i => RowT.enc (d.ps.get
    i))]))))))))) (Tree.need (decide ((0 : Int) ≤ besF d.wide d.high (↑c : Int) (2 : Int) ∧ besF d.wide d.high (↑c : Int) (2 : Int) < (↑d.ps.n : Int)) && decide (d.ps.n ≤ d.ps.n))
    (Tree.need (decide ((besF d.wide d.high (↑c : Int) (2 : Int)).toNat < d.ps.n)) (Tree.need (true) (Tree.br ((FitF d.play (d.ps.get c).down (d.ps.get (besF d.wide d.high (↑c : Int) (2
    : Int)).toNat).up).1 != (2 : Int)) (Tree.leaf (AV.tup [AV.nili, AV.ptr (62 : Nat) (0 : Nat) (0 : Nat), AV.int false IntKind.i64 (↑c : Int), AV.int true IntKind.i64 (2 : Int), AV.int
    true IntKind.i64 (0 : Int)]) ([])) (Tree.need (decide (d.ps.n ≤ d.ps.n) && (true && (true && true)) && decide (((1 : Int) ≤ d.wide ∧ d.wide ≤ (100 : Int)) ∧ ((1 : Int) ≤ d.high ∧
    d.high ≤ (100 : Int)) ∧ (0 : Int) ≤ (↑c : Int) ∧ (↑c : Int) ≤ (100 : Int))) (Tree.br (besF d.wide d.high (↑c : Int) (3 : Int) == (-1 : Int)) (Tree.br ((d.ps.get c).left.kind != (0 :
    Int)) (Tree.leaf (AV.tup [AV.nili, AV.ptr (62 : Nat) (0 : Nat) (0 : Nat), AV.int false IntKind.i64 (↑c : Int), AV.int true IntKind.i64 (3 : Int), AV.int true IntKind.i64 (0 : Int)])
    ([])) (Tree.leaf (AV.tup [AV.nilp, AV.ptr (62 : Nat) (0 : Nat) (0 : Nat), AV.ptr (8 : Nat) (0 : Nat) (0 : Nat), AV.slz (0 : Nat) (0 : Nat) d.ps.n (Cap.of (0 : Nat)), AV.int false
    IntKind.i64 (↑d.ps.n : Int), AV.int false IntKind.i64 (IntKind.i64.wrap ((↑c : Int) + (1 : Int)))]) ([((8 : Nat), Blk.cells (0 : Nat) (28 : Nat) [AV.int false IntKind.i64
    d.play.length, AV.int false IntKind.i64 d.play.slack, AV.int false IntKind.i64 d.play.loose, AV.int false IntKind.i64 d.play.damp.lo, AV.int false IntKind.i64 d.play.damp.hi, AV.int
    false IntKind.i64 d.wide, AV.int false IntKind.i64 d.high, AV.bool false d.turn, AV.slz (0 : Nat) (0 : Nat) d.ps.n (Cap.of (0 : Nat))]), ((0 : Nat), Blk.frz [CK.int IntKind.i64,
    CK.int IntKind.i64, CK.int IntKind.i64, CK.int IntKind.i64, CK.int IntKind.i64, CK.int IntKind.i64, CK.int IntKind.i64, CK.int IntKind.i64, CK.int IntKind.i64, CK.int IntKind.i64,
    CK.int IntKind.i64, CK.int IntKind.i64, CK.int IntKind.i64, CK.int IntKind.i64, CK.int IntKind.i64, CK.int IntKind.i64, CK.int IntKind.i64, CK.int IntKind.i64, CK.int IntKind.i64,
    CK.int IntKind.i64, CK.int IntKind.i64, CK.int IntKind.i64, CK.int IntKind.i64, CK.int IntKind.i64, CK.int IntKind.i64, CK.int IntKind.i64, CK.int IntKind.i64, CK.int IntKind.i64]
    d.ps.n fun i => RowT.enc (d.ps.get i))]))) (Tree.need (decide ((0 : Int) ≤ besF d.wide d.high (↑c : Int) (3 : Int) ∧ besF d.wide d.high (↑c : Int) (3 : Int) < (↑d.ps.n : Int)) &&
    decide (d.ps.n ≤ d.ps.n)) (Tree.need (decide ((besF d.wide d.high (↑c : Int) (3 : Int)).toNat < d.ps.n)) (Tree.need (true) (Tree.br ((FitF d.play (d.ps.get c).left (d.ps.get (besF
    d.wide d.high (↑c : Int) (3 : Int)).toNat).right).1 != (2 : Int)) (Tree.leaf (AV.tup [AV.nili, AV.ptr (62 : Nat) (0 : Nat) (0 : Nat), AV.int false IntKind.i64 (↑c : Int), AV.int
    true IntKind.i64 (3 : Int), AV.int true IntKind.i64 (0 : Int)]) ([])) (Tree.leaf (AV.tup [AV.nilp, AV.ptr (62 : Nat) (0 : Nat) (0 : Nat), AV.ptr (8 : Nat) (0 : Nat) (0 : Nat),
    AV.slz (0 : Nat) (0 : Nat) d.ps.n (Cap.of (0 : Nat)), AV.int false IntKind.i64 (↑d.ps.n : Int), AV.int false IntKind.i64 (IntKind.i64.wrap ((↑c : Int) + (1 : Int)))]) ([((8 : Nat),
    Blk.cells (0 : Nat) (28 : Nat) [AV.int false IntKind.i64 d.play.length, AV.int false IntKind.i64 d.play.slack, AV.int false IntKind.i64 d.play.loose, AV.int false IntKind.i64
    d.play.damp.lo, AV.int false IntKind.i64 d.play.damp.hi, AV.int false IntKind.i64 d.wide, AV.int false IntKind.i64 d.high, AV.bool false d.turn, AV.slz (0 : Nat) (0 : Nat) d.ps.n
    (Cap.of (0 : Nat))]), ((0 : Nat), Blk.frz [CK.int IntKind.i64, CK.int IntKind.i64, CK.int IntKind.i64, CK.int IntKind.i64, CK.int IntKind.i64, CK.int IntKind.i64, CK.int
    IntKind.i64, CK.int IntKind.i64, CK.int IntKind.i64, CK.int IntKind.i64, CK.int IntKind.i64, CK.int IntKind.i64, CK.int IntKind.i64, CK.int IntKind.i64, CK.int IntKind.i64, CK.int
    IntKind.i64, CK.int IntKind.i64, CK.int IntKind.i64, CK.int IntKind.i64, CK.int IntKind.i64, CK.int IntKind.i64, CK.int IntKind.i64, CK.int IntKind.i64, CK.int IntKind.i64, CK.int
    IntKind.i64, CK.int IntKind.i64, CK.int IntKind.i64, CK.int IntKind.i64] d.ps.n fun i => RowT.enc (d.ps.get i))]))))))))))))))) (Tree.need (decide ((0 : Int) ≤ besF d.wide d.high
    (↑c : Int) (1 : Int) ∧ besF d.wide d.high (↑c : Int) (1 : Int) < (↑d.ps.n : Int)) && decide (d.ps.n ≤ d.ps.n)) (Tree.need (decide ((besF d.wide d.high (↑c : Int) (1 : Int)).toNat <
    d.ps.n)) (Tree.need (true) (Tree.br ((FitF d.play (d.ps.get c).right (d.ps.get (besF d.wide d.high (↑c : Int) (1 : Int)).toNat).left).1 != (2 : Int)) (Tree.leaf (AV.tup [AV.nili,
    AV.ptr (62 : Nat) (0 : Nat) (0 : Nat), AV.int false IntKind.i64 (↑c : Int), AV.int true IntKind.i64 (1 : Int), AV.int true IntKind.i64 (0 : Int)]) ([])) (Tree.need (decide (d.ps.n ≤
    d.ps.n) && (true && (true && true)) && decide (((1 : Int) ≤ d.wide ∧ d.wide ≤ (100 : Int)) ∧ ((1 : Int) ≤ d.high ∧ d.high ≤ (100 : Int)) ∧ (0 : Int) ≤ (↑c : Int) ∧ (↑c : Int) ≤ (100
    : Int))) (Tree.br (besF d.wide d.high (↑c : Int) (2 : Int) == (-1 : Int)) (Tree.br ((d.ps.get c).down.kind != (0 : Int)) (Tree.leaf (AV.tup [AV.nili, AV.ptr (62 : Nat) (0 : Nat) (0
    : Nat), AV.int false IntKind.i64 (↑c : Int), AV.int true IntKind.i64 (2 : Int), AV.int true IntKind.i64 (0 : Int)]) ([])) (Tree.need (decide (d.ps.n ≤ d.ps.n) && (true && (true &&
    true)) && decide (((1 : Int) ≤ d.wide ∧ d.wide ≤ (100 : Int)) ∧ ((1 : Int) ≤ d.high ∧ d.high ≤ (100 : Int)) ∧ (0 : Int) ≤ (↑c : Int) ∧ (↑c : Int) ≤ (100 : Int))) (Tree.br (besF
    d.wide d.high (↑c : Int) (3 : Int) == (-1 : Int)) (Tree.br ((d.ps.get c).left.kind != (0 : Int)) (Tree.leaf (AV.tup [AV.nili, AV.ptr (62 : Nat) (0 : Nat) (0 : Nat), AV.int false
    IntKind.i64 (↑c : Int), AV.int true IntKind.i64 (3 : Int), AV.int true IntKind.i64 (0 : Int)]) ([])) (Tree.leaf (AV.tup [AV.nilp, AV.ptr (62 : Nat) (0 : Nat) (0 : Nat), AV.ptr (8 :
    Nat) (0 : Nat) (0 : Nat), AV.slz (0 : Nat) (0 : Nat) d.ps.n (Cap.of (0 : Nat)), AV.int false IntKind.i64 (↑d.ps.n : Int), AV.int false IntKind.i64 (IntKind.i64.wrap ((↑c : Int) + (1
    : Int)))]) ([((8 : Nat), Blk.cells (0 : Nat) (28 : Nat) [AV.int false IntKind.i64 d.play.length, AV.int false IntKind.i64 d.play.slack, AV.int false IntKind.i64 d.play.loose, AV.int
    false IntKind.i64 d.play.damp.lo, AV.int false IntKind.i64 d.play.damp.hi, AV.int false IntKind.i64 d.wide, AV.int false IntKind.i64 d.high, AV.bool false d.turn, AV.slz (0 : Nat)
    (0 : Nat) d.ps.n (Cap.of (0 : Nat))]), ((0 : Nat), Blk.frz [CK.int IntKind.i64, CK.int IntKind.i64, CK.int IntKind.i64, CK.int IntKind.i64, CK.int IntKind.i64, CK.int IntKind.i64,
    CK.int IntKind.i64, CK.int IntKind.i64, CK.int IntKind.i64, CK.int IntKind.i64, CK.int IntKind.i64, CK.int IntKind.i64, CK.int IntKind.i64, CK.int IntKind.i64, CK.int IntKind.i64,
    CK.int IntKind.i64, CK.int IntKind.i64, CK.int IntKind.i64, CK.int IntKind.i64, CK.int IntKind.i64, CK.int IntKind.i64, CK.int IntKind.i64, CK.int IntKind.i64, CK.int IntKind.i64,
    CK.int IntKind.i64, CK.int IntKind.i64, CK.int IntKind.i64, CK.int IntKind.i64] d.ps.n fun i => RowT.enc (d.ps.get i))]))) (Tree.need (decide ((0 : Int) ≤ besF d.wide d.high (↑c :
    Int) (3 : Int) ∧ besF d.wide d.high (↑c : Int) (3 : Int) < (↑d.ps.n : Int)) && decide (d.ps.n ≤ d.ps.n)) (Tree.need (decide ((besF d.wide d.high (↑c : Int) (3 : Int)).toNat <
    d.ps.n)) (Tree.need (true) (Tree.br ((FitF d.play (d.ps.get c).left (d.ps.get (besF d.wide d.high (↑c : Int) (3 : Int)).toNat).right).1 != (2 : Int)) (Tree.leaf (AV.tup [AV.nili,
    AV.ptr (62 : Nat) (0 : Nat) (0 : Nat), AV.int false IntKind.i64 (↑c : Int), AV.int true IntKind.i64 (3 : Int), AV.int true IntKind.i64 (0 : Int)]) ([])) (Tree.leaf (AV.tup [AV.nilp,
    AV.ptr (62 : Nat) (0 : Nat) (0 : Nat), AV.ptr (8 : Nat) (0 : Nat) (0 : Nat), AV.slz (0 : Nat) (0 : Nat) d.ps.n (Cap.of (0 : Nat)), AV.int false IntKind.i64 (↑d.ps.n : Int), AV.int
    false IntKind.i64 (IntKind.i64.wrap ((↑c : Int) + (1 : Int)))]) ([((8 : Nat), Blk.cells (0 : Nat) (28 : Nat) [AV.int false IntKind.i64 d.play.length, AV.int false IntKind.i64
    d.play.slack, AV.int false IntKind.i64 d.play.loose, AV.int false IntKind.i64 d.play.damp.lo, AV.int false IntKind.i64 d.play.damp.hi, AV.int false IntKind.i64 d.wide, AV.int false
    IntKind.i64 d.high, AV.bool false d.turn, AV.slz (0 : Nat) (0 : Nat) d.ps.n (Cap.of (0 : Nat))]), ((0 : Nat), Blk.frz [CK.int IntKind.i64, CK.int IntKind.i64, CK.int IntKind.i64,
    CK.int IntKind.i64, CK.int IntKind.i64, CK.int IntKind.i64, CK.int IntKind.i64, CK.int IntKind.i64, CK.int IntKind.i64, CK.int IntKind.i64, CK.int IntKind.i64, CK.int IntKind.i64,
    CK.int IntKind.i64, CK.int IntKind.i64, CK.int IntKind.i64, CK.int IntKind.i64, CK.int IntKind.i64, CK.int IntKind.i64, CK.int IntKind.i64, CK.int IntKind.i64, CK.int IntKind.i64,
    CK.int IntKind.i64, CK.int IntKind.i64, CK.int IntKind.i64, CK.int IntKind.i64, CK.int IntKind.i64, CK.int IntKind.i64, CK.int IntKind.i64] d.ps.n fun i => RowT.enc (d.ps.get
    i))]))))))))) (Tree.need (decide ((0 : Int) ≤ besF d.wide d.high (↑c : Int) (2 : Int) ∧ besF d.wide d.high (↑c : Int) (2 : Int) < (↑d.ps.n : Int)) && decide (d.ps.n ≤ d.ps.n))
    (Tree.need (decide ((besF d.wide d.high (↑c : Int) (2 : Int)).toNat < d.ps.n)) (Tree.need (true) (Tree.br ((FitF d.play (d.ps.get c).down (d.ps.get (besF d.wide d.high (↑c : Int) (2
    : Int)).toNat).up).1 != (2 : Int)) (Tree.leaf (AV.tup [AV.nili, AV.ptr (62 : Nat) (0 : Nat) (0 : Nat), AV.int false IntKind.i64 (↑c : Int), AV.int true IntKind.i64 (2 : Int), AV.int
    true IntKind.i64 (0 : Int)]) ([])) (Tree.need (decide (d.ps.n ≤ d.ps.n) && (true && (true && true)) && decide (((1 : Int) ≤ d.wide ∧ d.wide ≤ (100 : Int)) ∧ ((1 : Int) ≤ d.high ∧
    d.high ≤ (100 : Int)) ∧ (0 : Int) ≤ (↑c : Int) ∧ (↑c : Int) ≤ (100 : Int))) (Tree.br (besF d.wide d.high (↑c : Int) (3 : Int) == (-1 : Int)) (Tree.br ((d.ps.get c).left.kind != (0 :
    Int)) (Tree.leaf (AV.tup [AV.nili, AV.ptr (62 : Nat) (0 : Nat) (0 : Nat), AV.int false IntKind.i64 (↑c : Int), AV.int true IntKind.i64 (3 : Int), AV.int true IntKind.i64 (0 : Int)])
    ([])) (Tree.leaf (AV.tup [AV.nilp, AV.ptr (62 : Nat) (0 : Nat) (0 : Nat), AV.ptr (8 : Nat) (0 : Nat) (0 : Nat), AV.slz (0 : Nat) (0 : Nat) d.ps.n (Cap.of (0 : Nat)), AV.int false
    IntKind.i64 (↑d.ps.n : Int), AV.int false IntKind.i64 (IntKind.i64.wrap ((↑c : Int) + (1 : Int)))]) ([((8 : Nat), Blk.cells (0 : Nat) (28 : Nat) [AV.int false IntKind.i64
    d.play.length, AV.int false IntKind.i64 d.play.slack, AV.int false IntKind.i64 d.play.loose, AV.int false IntKind.i64 d.play.damp.lo, AV.int false IntKind.i64 d.play.damp.hi, AV.int
    false IntKind.i64 d.wide, AV.int false IntKind.i64 d.high, AV.bool false d.turn, AV.slz (0 : Nat) (0 : Nat) d.ps.n (Cap.of (0 : Nat))]), ((0 : Nat), Blk.frz [CK.int IntKind.i64,
    CK.int IntKind.i64, CK.int IntKind.i64, CK.int IntKind.i64, CK.int IntKind.i64, CK.int IntKind.i64, CK.int IntKind.i64, CK.int IntKind.i64, CK.int IntKind.i64, CK.int IntKind.i64,
    CK.int IntKind.i64, CK.int IntKind.i64, CK.int IntKind.i64, CK.int IntKind.i64, CK.int IntKind.i64, CK.int IntKind.i64, CK.int IntKind.i64, CK.int IntKind.i64, CK.int IntKind.i64,
    CK.int IntKind.i64, CK.int IntKind.i64, CK.int IntKind.i64, CK.int IntKind.i64, CK.int IntKind.i64, CK.int IntKind.i64, CK.int IntKind.i64, CK.int IntKind.i64, CK.int IntKind.i64]
    d.ps.n fun i => RowT.enc (d.ps.get i))]))) (Tree.need (decide ((0 : Int) ≤ besF d.wide d.high (↑c : Int) (3 : Int) ∧ besF d.wide d.high (↑c : Int) (3 : Int) < (↑d.ps.n : Int)) &&
    decide (d.ps.n ≤ d.ps.n)) (Tree.need (decide ((besF d.wide d.high (↑c : Int) (3 : Int)).toNat < d.ps.n)) (Tree.need (true) (Tree.br ((FitF d.play (d.ps.get c).left (d.ps.get (besF
    d.wide d.high (↑c : Int) (3 : Int)).toNat).right).1 != (2 : Int)) (Tree.leaf (AV.tup [AV.nili, AV.ptr (62 : Nat) (0 : Nat) (0 : Nat), AV.int false IntKind.i64 (↑c : Int), AV.int
    true IntKind.i64 (3 : Int), AV.int true IntKind.i64 (0 : Int)]) ([])) (Tree.leaf (AV.tup [AV.nilp, AV.ptr (62 : Nat) (0 : Nat) (0 : Nat), AV.ptr (8 : Nat) (0 : Nat) (0 : Nat),
    AV.slz (0 : Nat) (0 : Nat) d.ps.n (Cap.of (0 : Nat)), AV.int false IntKind.i64 (↑d.ps.n : Int), AV.int false IntKind.i64 (IntKind.i64.wrap ((↑c : Int) + (1 : Int)))]) ([((8 : Nat),
    Blk.cells (0 : Nat) (28 : Nat) [AV.int false IntKind.i64 d.play.length, AV.int false IntKind.i64 d.play.slack, AV.int false IntKind.i64 d.play.loose, AV.int false IntKind.i64
    d.play.damp.lo, AV.int false IntKind.i64 d.play.damp.hi, AV.int false IntKind.i64 d.wide, AV.int false IntKind.i64 d.high, AV.bool false d.turn, AV.slz (0 : Nat) (0 : Nat) d.ps.n
    (Cap.of (0 : Nat))]), ((0 : Nat), Blk.frz [CK.int IntKind.i64, CK.int IntKind.i64, CK.int IntKind.i64, CK.int IntKind.i64, CK.int IntKind.i64, CK.int IntKind.i64, CK.int
    IntKind.i64, CK.int IntKind.i64, CK.int IntKind.i64, CK.int IntKind.i64, CK.int IntKind.i64, CK.int IntKind.i64, CK.int IntKind.i64, CK.int IntKind.i64, CK.int IntKind.i64, CK.int
    IntKind.i64, CK.int IntKind.i64, CK.int IntKind.i64, CK.int IntKind.i64, CK.int IntKind.i64, CK.int IntKind.i64, CK.int IntKind.i64, CK.int IntKind.i64, CK.int IntKind.i64, CK.int
    IntKind.i64, CK.int IntKind.i64, CK.int IntKind.i64, CK.int IntKind.i64] d.ps.n fun i => RowT.enc (d.ps.get i))]))))))))))))))))))))) (Tree.need (decide ((0 : Int) ≤ besF d.wide
    d.high (↑c : Int) (0 : Int) ∧ besF d.wide d.high (↑c : Int) (0 : Int) < (↑d.ps.n : Int)) && decide (d.ps.n ≤ d.ps.n)) (Tree.need (decide ((besF d.wide d.high (↑c : Int) (0 :
    Int)).toNat < d.ps.n)) (Tree.need (true) (Tree.br ((FitF d.play (d.ps.get c).up (d.ps.get (besF d.wide d.high (↑c : Int) (0 : Int)).toNat).down).1 != (2 : Int)) (Tree.leaf (AV.tup
    [AV.nili, AV.ptr (62 : Nat) (0 : Nat) (0 : Nat), AV.int false IntKind.i64 (↑c : Int), AV.int true IntKind.i64 (0 : Int), AV.int true IntKind.i64 (0 : Int)]) ([])) (Tree.need (decide
    (d.ps.n ≤ d.ps.n) && (true && (true && true)) && decide (((1 : Int) ≤ d.wide ∧ d.wide ≤ (100 : Int)) ∧ ((1 : Int) ≤ d.high ∧ d.high ≤ (100 : Int)) ∧ (0 : Int) ≤ (↑c : Int) ∧ (↑c :
    Int) ≤ (100 : Int))) (Tree.br (besF d.wide d.high (↑c : Int) (1 : Int) == (-1 : Int)) (Tree.br ((d.ps.get c).right.kind != (0 : Int)) (Tree.leaf (AV.tup [AV.nili, AV.ptr (62 : Nat)
    (0 : Nat) (0 : Nat), AV.int false IntKind.i64 (↑c : Int), AV.int true IntKind.i64 (1 : Int), AV.int true IntKind.i64 (0 : Int)]) ([])) (Tree.need (decide (d.ps.n ≤ d.ps.n) && (true
    && (true && true)) && decide (((1 : Int) ≤ d.wide ∧ d.wide ≤ (100 : Int)) ∧ ((1 : Int) ≤ d.high ∧ d.high ≤ (100 : Int)) ∧ (0 : Int) ≤ (↑c : Int) ∧ (↑c : Int) ≤ (100 : Int)))
    (Tree.br (besF d.wide d.high (↑c : Int) (2 : Int) == (-1 : Int)) (Tree.br ((d.ps.get c).down.kind != (0 : Int)) (Tree.leaf (AV.tup [AV.nili, AV.ptr (62 : Nat) (0 : Nat) (0 : Nat),
    AV.int false IntKind.i64 (↑c : Int), AV.int true IntKind.i64 (2 : Int), AV.int true IntKind.i64 (0 : Int)]) ([])) (Tree.need (decide (d.ps.n ≤ d.ps.n) && (true && (true && true)) &&
    decide (((1 : Int) ≤ d.wide ∧ d.wide ≤ (100 : Int)) ∧ ((1 : Int) ≤ d.high ∧ d.high ≤ (100 : Int)) ∧ (0 : Int) ≤ (↑c : Int) ∧ (↑c : Int) ≤ (100 : Int))) (Tree.br (besF d.wide d.high
    (↑c : Int) (3 : Int) == (-1 : Int)) (Tree.br ((d.ps.get c).left.kind != (0 : Int)) (Tree.leaf (AV.tup [AV.nili, AV.ptr (62 : Nat) (0 : Nat) (0 : Nat), AV.int false IntKind.i64 (↑c :
    Int), AV.int true IntKind.i64 (3 : Int), AV.int true IntKind.i64 (0 : Int)]) ([])) (Tree.leaf (AV.tup [AV.nilp, AV.ptr (62 : Nat) (0 : Nat) (0 : Nat), AV.ptr (8 : Nat) (0 : Nat) (0
    : Nat), AV.slz (0 : Nat) (0 : Nat) d.ps.n (Cap.of (0 : Nat)), AV.int false IntKind.i64 (↑d.ps.n : Int), AV.int false IntKind.i64 (IntKind.i64.wrap ((↑c : Int) + (1 : Int)))]) ([((8
    : Nat), Blk.cells (0 : Nat) (28 : Nat) [AV.int false IntKind.i64 d.play.length, AV.int false IntKind.i64 d.play.slack, AV.int false IntKind.i64 d.play.loose, AV.int false
    IntKind.i64 d.play.damp.lo, AV.int false IntKind.i64 d.play.damp.hi, AV.int false IntKind.i64 d.wide, AV.int false IntKind.i64 d.high, AV.bool false d.turn, AV.slz (0 : Nat) (0 :
    Nat) d.ps.n (Cap.of (0 : Nat))]), ((0 : Nat), Blk.frz [CK.int IntKind.i64, CK.int IntKind.i64, CK.int IntKind.i64, CK.int IntKind.i64, CK.int IntKind.i64, CK.int IntKind.i64, CK.int
    IntKind.i64, CK.int IntKind.i64, CK.int IntKind.i64, CK.int IntKind.i64, CK.int IntKind.i64, CK.int IntKind.i64, CK.int IntKind.i64, CK.int IntKind.i64, CK.int IntKind.i64, CK.int
    IntKind.i64, CK.int IntKind.i64, CK.int IntKind.i64, CK.int IntKind.i64, CK.int IntKind.i64, CK.int IntKind.i64, CK.int IntKind.i64, CK.int IntKind.i64, CK.int IntKind.i64, CK.int
    IntKind.i64, CK.int IntKind.i64, CK.int IntKind.i64, CK.int IntKind.i64] d.ps.n fun i => RowT.enc (d.ps.get i))]))) (Tree.need (decide ((0 : Int) ≤ besF d.wide d.high (↑c : Int) (3
    : Int) ∧ besF d.wide d.high (↑c : Int) (3 : Int) < (↑d.ps.n : Int)) && decide (d.ps.n ≤ d.ps.n)) (Tree.need (decide ((besF d.wide d.high (↑c : Int) (3 : Int)).toNat < d.ps.n))
    (Tree.need (true) (Tree.br ((FitF d.play (d.ps.get c).left (d.ps.get (besF d.wide d.high (↑c : Int) (3 : Int)).toNat).right).1 != (2 : Int)) (Tree.leaf (AV.tup [AV.nili, AV.ptr (62
    : Nat) (0 : Nat) (0 : Nat), AV.int false IntKind.i64 (↑c : Int), AV.int true IntKind.i64 (3 : Int), AV.int true IntKind.i64 (0 : Int)]) ([])) (Tree.leaf (AV.tup [AV.nilp, AV.ptr (62
    : Nat) (0 : Nat) (0 : Nat), AV.ptr (8 : Nat) (0 : Nat) (0 : Nat), AV.slz (0 : Nat) (0 : Nat) d.ps.n (Cap.of (0 : Nat)), AV.int false IntKind.i64 (↑d.ps.n : Int), AV.int false
    IntKind.i64 (IntKind.i64.wrap ((↑c : Int) + (1 : Int)))]) ([((8 : Nat), Blk.cells (0 : Nat) (28 : Nat) [AV.int false IntKind.i64 d.play.length, AV.int false IntKind.i64
    d.play.slack, AV.int false IntKind.i64 d.play.loose, AV.int false IntKind.i64 d.play.damp.lo, AV.int false IntKind.i64 d.play.damp.hi, AV.int false IntKind.i64 d.wide, AV.int false
    IntKind.i64 d.high, AV.bool false d.turn, AV.slz (0 : Nat) (0 : Nat) d.ps.n (Cap.of (0 : Nat))]), ((0 : Nat), Blk.frz [CK.int IntKind.i64, CK.int IntKind.i64, CK.int IntKind.i64,
    CK.int IntKind.i64, CK.int IntKind.i64, CK.int IntKind.i64, CK.int IntKind.i64, CK.int IntKind.i64, CK.int IntKind.i64, CK.int IntKind.i64, CK.int IntKind.i64, CK.int IntKind.i64,
    CK.int IntKind.i64, CK.int IntKind.i64, CK.int IntKind.i64, CK.int IntKind.i64, CK.int IntKind.i64, CK.int IntKind.i64, CK.int IntKind.i64, CK.int IntKind.i64, CK.int IntKind.i64,
    CK.int IntKind.i64, CK.int IntKind.i64, CK.int IntKind.i64, CK.int IntKind.i64, CK.int IntKind.i64, CK.int IntKind.i64, CK.int IntKind.i64] d.ps.n fun i => RowT.enc (d.ps.get
    i))]))))))))) (Tree.need (decide ((0 : Int) ≤ besF d.wide d.high (↑c : Int) (2 : Int) ∧ besF d.wide d.high (↑c : Int) (2 : Int) < (↑d.ps.n : Int)) && decide (d.ps.n ≤ d.ps.n))
    (Tree.need (decide ((besF d.wide d.high (↑c : Int) (2 : Int)).toNat < d.ps.n)) (Tree.need (true) (Tree.br ((FitF d.play (d.ps.get c).down (d.ps.get (besF d.wide d.high (↑c : Int) (2
    : Int)).toNat).up).1 != (2 : Int)) (Tree.leaf (AV.tup [AV.nili, AV.ptr (62 : Nat) (0 : Nat) (0 : Nat), AV.int false IntKind.i64 (↑c : Int), AV.int true IntKind.i64 (2 : Int), AV.int
    true IntKind.i64 (0 : Int)]) ([])) (Tree.need (decide (d.ps.n ≤ d.ps.n) && (true && (true && true)) && decide (((1 : Int) ≤ d.wide ∧ d.wide ≤ (100 : Int)) ∧ ((1 : Int) ≤ d.high ∧
    d.high ≤ (100 : Int)) ∧ (0 : Int) ≤ (↑c : Int) ∧ (↑c : Int) ≤ (100 : Int))) (Tree.br (besF d.wide d.high (↑c : Int) (3 : Int) == (-1 : Int)) (Tree.br ((d.ps.get c).left.kind != (0 :
    Int)) (Tree.leaf (AV.tup [AV.nili, AV.ptr (62 : Nat) (0 : Nat) (0 : Nat), AV.int false IntKind.i64 (↑c : Int), AV.int true IntKind.i64 (3 : Int), AV.int true IntKind.i64 (0 : Int)])
    ([])) (Tree.leaf (AV.tup [AV.nilp, AV.ptr (62 : Nat) (0 : Nat) (0 : Nat), AV.ptr (8 : Nat) (0 : Nat) (0 : Nat), AV.slz (0 : Nat) (0 : Nat) d.ps.n (Cap.of (0 : Nat)), AV.int false
    IntKind.i64 (↑d.ps.n : Int), AV.int false IntKind.i64 (IntKind.i64.wrap ((↑c : Int) + (1 : Int)))]) ([((8 : Nat), Blk.cells (0 : Nat) (28 : Nat) [AV.int false IntKind.i64
    d.play.length, AV.int false IntKind.i64 d.play.slack, AV.int false IntKind.i64 d.play.loose, AV.int false IntKind.i64 d.play.damp.lo, AV.int false IntKind.i64 d.play.damp.hi, AV.int
    false IntKind.i64 d.wide, AV.int false IntKind.i64 d.high, AV.bool false d.turn, AV.slz (0 : Nat) (0 : Nat) d.ps.n (Cap.of (0 : Nat))]), ((0 : Nat), Blk.frz [CK.int IntKind.i64,
    CK.int IntKind.i64, CK.int IntKind.i64, CK.int IntKind.i64, CK.int IntKind.i64, CK.int IntKind.i64, CK.int IntKind.i64, CK.int IntKind.i64, CK.int IntKind.i64, CK.int IntKind.i64,
    CK.int IntKind.i64, CK.int IntKind.i64, CK.int IntKind.i64, CK.int IntKind.i64, CK.int IntKind.i64, CK.int IntKind.i64, CK.int IntKind.i64, CK.int IntKind.i64, CK.int IntKind.i64,
    CK.int IntKind.i64, CK.int IntKind.i64, CK.int IntKind.i64, CK.int IntKind.i64, CK.int IntKind.i64, CK.int IntKind.i64, CK.int IntKind.i64, CK.int IntKind.i64, CK.int IntKind.i64]
    d.ps.n fun i => RowT.enc (d.ps.get i))]))) (Tree.need (decide ((0 : Int) ≤ besF d.wide d.high (↑c : Int) (3 : Int) ∧ besF d.wide d.high (↑c : Int) (3 : Int) < (↑d.ps.n : Int)) &&
    decide (d.ps.n ≤ d.ps.n)) (Tree.need (decide ((besF d.wide d.high (↑c : Int) (3 : Int)).toNat < d.ps.n)) (Tree.need (true) (Tree.br ((FitF d.play (d.ps.get c).left (d.ps.get (besF
    d.wide d.high (↑c : Int) (3 : Int)).toNat).right).1 != (2 : Int)) (Tree.leaf (AV.tup [AV.nili, AV.ptr (62 : Nat) (0 : Nat) (0 : Nat), AV.int false IntKind.i64 (↑c : Int), AV.int
    true IntKind.i64 (3 : Int), AV.int true IntKind.i64 (0 : Int)]) ([])) (Tree.leaf (AV.tup [AV.nilp, AV.ptr (62 : Nat) (0 : Nat) (0 : Nat), AV.ptr (8 : Nat) (0 : Nat) (0 : Nat),
    AV.slz (0 : Nat) (0 : Nat) d.ps.n (Cap.of (0 : Nat)), AV.int false IntKind.i64 (↑d.ps.n : Int), AV.int false IntKind.i64 (IntKind.i64.wrap ((↑c : Int) + (1 : Int)))]) ([((8 : Nat),
    Blk.cells (0 : Nat) (28 : Nat) [AV.int false IntKind.i64 d.play.length, AV.int false IntKind.i64 d.play.slack, AV.int false IntKind.i64 d.play.loose, AV.int false IntKind.i64
    d.play.damp.lo, AV.int false IntKind.i64 d.play.damp.hi, AV.int false IntKind.i64 d.wide, AV.int false IntKind.i64 d.high, AV.bool false d.turn, AV.slz (0 : Nat) (0 : Nat) d.ps.n
    (Cap.of (0 : Nat))]), ((0 : Nat), Blk.frz [CK.int IntKind.i64, CK.int IntKind.i64, CK.int IntKind.i64, CK.int IntKind.i64, CK.int IntKind.i64, CK.int IntKind.i64, CK.int
    IntKind.i64, CK.int IntKind.i64, CK.int IntKind.i64, CK.int IntKind.i64, CK.int IntKind.i64, CK.int IntKind.i64, CK.int IntKind.i64, CK.int IntKind.i64, CK.int IntKind.i64, CK.int
    IntKind.i64, CK.int IntKind.i64, CK.int IntKind.i64, CK.int IntKind.i64, CK.int IntKind.i64, CK.int IntKind.i64, CK.int IntKind.i64, CK.int IntKind.i64, CK.int IntKind.i64, CK.int
    IntKind.i64, CK.int IntKind.i64, CK.int IntKind.i64, CK.int IntKind.i64] d.ps.n fun i => RowT.enc (d.ps.get i))]))))))))))))))) (Tree.need (decide ((0 : Int) ≤ besF d.wide d.high
    (↑c : Int) (1 : Int) ∧ besF d.wide d.high (↑c : Int) (1 : Int) < (↑d.ps.n : Int)) && decide (d.ps.n ≤ d.ps.n)) (Tree.need (decide ((besF d.wide d.high (↑c : Int) (1 : Int)).toNat <
    d.ps.n)) (Tree.need (true) (Tree.br ((FitF d.play (d.ps.get c).right (d.ps.get (besF d.wide d.high (↑c : Int) (1 : Int)).toNat).left).1 != (2 : Int)) (Tree.leaf (AV.tup [AV.nili,
    AV.ptr (62 : Nat) (0 : Nat) (0 : Nat), AV.int false IntKind.i64 (↑c : Int), AV.int true IntKind.i64 (1 : Int), AV.int true IntKind.i64 (0 : Int)]) ([])) (Tree.need (decide (d.ps.n ≤
    d.ps.n) && (true && (true && true)) && decide (((1 : Int) ≤ d.wide ∧ d.wide ≤ (100 : Int)) ∧ ((1 : Int) ≤ d.high ∧ d.high ≤ (100 : Int)) ∧ (0 : Int) ≤ (↑c : Int) ∧ (↑c : Int) ≤ (100
    : Int))) (Tree.br (besF d.wide d.high (↑c : Int) (2 : Int) == (-1 : Int)) (Tree.br ((d.ps.get c).down.kind != (0 : Int)) (Tree.leaf (AV.tup [AV.nili, AV.ptr (62 : Nat) (0 : Nat) (0
    : Nat), AV.int false IntKind.i64 (↑c : Int), AV.int true IntKind.i64 (2 : Int), AV.int true IntKind.i64 (0 : Int)]) ([])) (Tree.need (decide (d.ps.n ≤ d.ps.n) && (true && (true &&
    true)) && decide (((1 : Int) ≤ d.wide ∧ d.wide ≤ (100 : Int)) ∧ ((1 : Int) ≤ d.high ∧ d.high ≤ (100 : Int)) ∧ (0 : Int) ≤ (↑c : Int) ∧ (↑c : Int) ≤ (100 : Int))) (Tree.br (besF
    d.wide d.high (↑c : Int) (3 : Int) == (-1 : Int)) (Tree.br ((d.ps.get c).left.kind != (0 : Int)) (Tree.leaf (AV.tup [AV.nili, AV.ptr (62 : Nat) (0 : Nat) (0 : Nat), AV.int false
    IntKind.i64 (↑c : Int), AV.int true IntKind.i64 (3 : Int), AV.int true IntKind.i64 (0 : Int)]) ([])) (Tree.leaf (AV.tup [AV.nilp, AV.ptr (62 : Nat) (0 : Nat) (0 : Nat), AV.ptr (8 :
    Nat) (0 : Nat) (0 : Nat), AV.slz (0 : Nat) (0 : Nat) d.ps.n (Cap.of (0 : Nat)), AV.int false IntKind.i64 (↑d.ps.n : Int), AV.int false IntKind.i64 (IntKind.i64.wrap ((↑c : Int) + (1
    : Int)))]) ([((8 : Nat), Blk.cells (0 : Nat) (28 : Nat) [AV.int false IntKind.i64 d.play.length, AV.int false IntKind.i64 d.play.slack, AV.int false IntKind.i64 d.play.loose, AV.int
    false IntKind.i64 d.play.damp.lo, AV.int false IntKind.i64 d.play.damp.hi, AV.int false IntKind.i64 d.wide, AV.int false IntKind.i64 d.high, AV.bool false d.turn, AV.slz (0 : Nat)
    (0 : Nat) d.ps.n (Cap.of (0 : Nat))]), ((0 : Nat), Blk.frz [CK.int IntKind.i64, CK.int IntKind.i64, CK.int IntKind.i64, CK.int IntKind.i64, CK.int IntKind.i64, CK.int IntKind.i64,
    CK.int IntKind.i64, CK.int IntKind.i64, CK.int IntKind.i64, CK.int IntKind.i64, CK.int IntKind.i64, CK.int IntKind.i64, CK.int IntKind.i64, CK.int IntKind.i64, CK.int IntKind.i64,
    CK.int IntKind.i64, CK.int IntKind.i64, CK.int IntKind.i64, CK.int IntKind.i64, CK.int IntKind.i64, CK.int IntKind.i64, CK.int IntKind.i64, CK.int IntKind.i64, CK.int IntKind.i64,
    CK.int IntKind.i64, CK.int IntKind.i64, CK.int IntKind.i64, CK.int IntKind.i64] d.ps.n fun i => RowT.enc (d.ps.get i))]))) (Tree.need (decide ((0 : Int) ≤ besF d.wide d.high (↑c :
    Int) (3 : Int) ∧ besF d.wide d.high (↑c : Int) (3 : Int) < (↑d.ps.n : Int)) && decide (d.ps.n ≤ d.ps.n)) (Tree.need (decide ((besF d.wide d.high (↑c : Int) (3 : Int)).toNat <
    d.ps.n)) (Tree.need (true) (Tree.br ((FitF d.play (d.ps.get c).left (d.ps.get (besF d.wide d.high (↑c : Int) (3 : Int)).toNat).right).1 != (2 : Int)) (Tree.leaf (AV.tup [AV.nili,
    AV.ptr (62 : Nat) (0 : Nat) (0 : Nat), AV.int false IntKind.i64 (↑c : Int), AV.int true IntKind.i64 (3 : Int), AV.int true IntKind.i64 (0 : Int)]) ([])) (Tree.leaf (AV.tup [AV.nilp,
    AV.ptr (62 : Nat) (0 : Nat) (0 : Nat), AV.ptr (8 : Nat) (0 : Nat) (0 : Nat), AV.slz (0 : Nat) (0 : Nat) d.ps.n (Cap.of (0 : Nat)), AV.int false IntKind.i64 (↑d.ps.n : Int), AV.int
    false IntKind.i64 (IntKind.i64.wrap ((↑c : Int) + (1 : Int)))]) ([((8 : Nat), Blk.cells (0 : Nat) (28 : Nat) [AV.int false IntKind.i64 d.play.length, AV.int false IntKind.i64
    d.play.slack, AV.int false IntKind.i64 d.play.loose, AV.int false IntKind.i64 d.play.damp.lo, AV.int false IntKind.i64 d.play.damp.hi, AV.int false IntKind.i64 d.wide, AV.int false
    IntKind.i64 d.high, AV.bool false d.turn, AV.slz (0 : Nat) (0 : Nat) d.ps.n (Cap.of (0 : Nat))]), ((0 : Nat), Blk.frz [CK.int IntKind.i64, CK.int IntKind.i64, CK.int IntKind.i64,
    CK.int IntKind.i64, CK.int IntKind.i64, CK.int IntKind.i64, CK.int IntKind.i64, CK.int IntKind.i64, CK.int IntKind.i64, CK.int IntKind.i64, CK.int IntKind.i64, CK.int IntKind.i64,
    CK.int IntKind.i64, CK.int IntKind.i64, CK.int IntKind.i64, CK.int IntKind.i64, CK.int IntKind.i64, CK.int IntKind.i64, CK.int IntKind.i64, CK.int IntKind.i64, CK.int IntKind.i64,
    CK.int IntKind.i64, CK.int IntKind.i64, CK.int IntKind.i64, CK.int IntKind.i64, CK.int IntKind.i64, CK.int IntKind.i64, CK.int IntKind.i64] d.ps.n fun i => RowT.enc (d.ps.get
    i))]))))))))) (Tree.need (decide ((0 : Int) ≤ besF d.wide d.high (↑c : Int) (2 : Int) ∧ besF d.wide d.high (↑c : Int) (2 : Int) < (↑d.ps.n : Int)) && decide (d.ps.n ≤ d.ps.n))
    (Tree.need (decide ((besF d.wide d.high (↑c : Int) (2 : Int)).toNat < d.ps.n)) (Tree.need (true) (Tree.br ((FitF d.play (d.ps.get c).down (d.ps.get (besF d.wide d.high (↑c : Int) (2
    : Int)).toNat).up).1 != (2 : Int)) (Tree.leaf (AV.tup [AV.nili, AV.ptr (62 : Nat) (0 : Nat) (0 : Nat), AV.int false IntKind.i64 (↑c : Int), AV.int true IntKind.i64 (2 : Int), AV.int
    true IntKind.i64 (0 : Int)]) ([])) (Tree.need (decide (d.ps.n ≤ d.ps.n) && (true && (true && true)) && decide (((1 : Int) ≤ d.wide ∧ d.wide ≤ (100 : Int)) ∧ ((1 : Int) ≤ d.high ∧
    d.high ≤ (100 : Int)) ∧ (0 : Int) ≤ (↑c : Int) ∧ (↑c : Int) ≤ (100 : Int))) (Tree.br (besF d.wide d.high (↑c : Int) (3 : Int) == (-1 : Int)) (Tree.br ((d.ps.get c).left.kind != (0 :
    Int)) (Tree.leaf (AV.tup [AV.nili, AV.ptr (62 : Nat) (0 : Nat) (0 : Nat), AV.int false IntKind.i64 (↑c : Int), AV.int true IntKind.i64 (3 : Int), AV.int true IntKind.i64 (0 : Int)])
    ([])) (Tree.leaf (AV.tup [AV.nilp, AV.ptr (62 : Nat) (0 : Nat) (0 : Nat), AV.ptr (8 : Nat) (0 : Nat) (0 : Nat), AV.slz (0 : Nat) (0 : Nat) d.ps.n (Cap.of (0 : Nat)), AV.int false
    IntKind.i64 (↑d.ps.n : Int), AV.int false IntKind.i64 (IntKind.i64.wrap ((↑c : Int) + (1 : Int)))]) ([((8 : Nat), Blk.cells (0 : Nat) (28 : Nat) [AV.int false IntKind.i64
    d.play.length, AV.int false IntKind.i64 d.play.slack, AV.int false IntKind.i64 d.play.loose, AV.int false IntKind.i64 d.play.damp.lo, AV.int false IntKind.i64 d.play.damp.hi, AV.int
    false IntKind.i64 d.wide, AV.int false IntKind.i64 d.high, AV.bool false d.turn, AV.slz (0 : Nat) (0 : Nat) d.ps.n (Cap.of (0 : Nat))]), ((0 : Nat), Blk.frz [CK.int IntKind.i64,
    CK.int IntKind.i64, CK.int IntKind.i64, CK.int IntKind.i64, CK.int IntKind.i64, CK.int IntKind.i64, CK.int IntKind.i64, CK.int IntKind.i64, CK.int IntKind.i64, CK.int IntKind.i64,
    CK.int IntKind.i64, CK.int IntKind.i64, CK.int IntKind.i64, CK.int IntKind.i64, CK.int IntKind.i64, CK.int IntKind.i64, CK.int IntKind.i64, CK.int IntKind.i64, CK.int IntKind.i64,
    CK.int IntKind.i64, CK.int IntKind.i64, CK.int IntKind.i64, CK.int IntKind.i64, CK.int IntKind.i64, CK.int IntKind.i64, CK.int IntKind.i64, CK.int IntKind.i64, CK.int IntKind.i64]
    d.ps.n fun i => RowT.enc (d.ps.get i))]))) (Tree.need (decide ((0 : Int) ≤ besF d.wide d.high (↑c : Int) (3 : Int) ∧ besF d.wide d.high (↑c : Int) (3 : Int) < (↑d.ps.n : Int)) &&
    decide (d.ps.n ≤ d.ps.n)) (Tree.need (decide ((besF d.wide d.high (↑c : Int) (3 : Int)).toNat < d.ps.n)) (Tree.need (true) (Tree.br ((FitF d.play (d.ps.get c).left (d.ps.get (besF
    d.wide d.high (↑c : Int) (3 : Int)).toNat).right).1 != (2 : Int)) (Tree.leaf (AV.tup [AV.nili, AV.ptr (62 : Nat) (0 : Nat) (0 : Nat), AV.int false IntKind.i64 (↑c : Int), AV.int
    true IntKind.i64 (3 : Int), AV.int true IntKind.i64 (0 : Int)]) ([])) (Tree.leaf (AV.tup [AV.nilp, AV.ptr (62 : Nat) (0 : Nat) (0 : Nat), AV.ptr (8 : Nat) (0 : Nat) (0 : Nat),
    AV.slz (0 : Nat) (0 : Nat) d.ps.n (Cap.of (0 : Nat)), AV.int false IntKind.i64 (↑d.ps.n : Int), AV.int false IntKind.i64 (IntKind.i64.wrap ((↑c : Int) + (1 : Int)))]) ([((8 : Nat),
    Blk.cells (0 : Nat) (28 : Nat) [AV.int false IntKind.i64 d.play.length, AV.int false IntKind.i64 d.play.slack, AV.int false IntKind.i64 d.play.loose, AV.int false IntKind.i64
    d.play.damp.lo, AV.int false IntKind.i64 d.play.damp.hi, AV.int false IntKind.i64 d.wide, AV.int false IntKind.i64 d.high, AV.bool false d.turn, AV.slz (0 : Nat) (0 : Nat) d.ps.n
    (Cap.of (0 : Nat))]), ((0 : Nat), Blk.frz [CK.int IntKind.i64, CK.int IntKind.i64, CK.int IntKind.i64, CK.int IntKind.i64, CK.int IntKind.i64, CK.int IntKind.i64, CK.int
    IntKind.i64, CK.int IntKind.i64, CK.int IntKind.i64, CK.int IntKind.i64, CK.int IntKind.i64, CK.int IntKind.i64, CK.int IntKind.i64, CK.int IntKind.i64, CK.int IntKind.i64, CK.int
    IntKind.i64, CK.int IntKind.i64, CK.int IntKind.i64, CK.int IntKind.i64, CK.int IntKind.i64, CK.int IntKind.i64, CK.int IntKind.i64, CK.int IntKind.i64, CK.int IntKind.i64, CK.int
    IntKind.i64, CK.int IntKind.i64, CK.int IntKind.i64, CK.int IntKind.i64] d.ps.n fun i => RowT.enc (d.ps.get i))])))))))))))))))))))))))))))) (Tree.leaf (AV.tup [AV.ptr (0 : Nat) (0
    : Nat) (0 : Nat), AV.ptr (62 : Nat) (0 : Nat) (0 : Nat)]) ([])) := by kernel_rfl
def chkRet (c s : Nat) : JSt := ⟨62, [(2, .int false .i64 c), (3, .int false .i64 s), (4, .int false .i64 0)], [], 96⟩
def chkEnd : JSt := ⟨62, [], [], 96⟩
set_option maxRecDepth 100000 in
theorem chk_r0 (c c' s' : Nat) : subE 8 [AV.int false IntKind.i64 (↑c : Int), AV.int true IntKind.i64 (0 : Int), AV.int true IntKind.i64 (0 : Int)] ([]) (chkRet c' s') = (
    some [(↑c : Int) = (↑c' : Int), (0 : Int) = (↑s' : Int), (0 : Int) = (0 : Int)]) := by kernel_rfl
set_option maxRecDepth 100000 in
theorem chk_r1 (c c' s' : Nat) : subE 8 [AV.int false IntKind.i64 (↑c : Int), AV.int true IntKind.i64 (1 : Int), AV.int true IntKind.i64 (0 : Int)] ([]) (chkRet c' s') = (
    some [(↑c : Int) = (↑c' : Int), (1 : Int) = (↑s' : Int), (0 : Int) = (0 : Int)]) := by kernel_rfl
set_option maxRecDepth 100000 in
theorem chk_r2 (c c' s' : Nat) : subE 8 [AV.int false IntKind.i64 (↑c : Int), AV.int true IntKind.i64 (2 : Int), AV.int true IntKind.i64 (0 : Int)] ([]) (chkRet c' s') = (
    some [(↑c : Int) = (↑c' : Int), (2 : Int) = (↑s' : Int), (0 : Int) = (0 : Int)]) := by kernel_rfl
set_option maxRecDepth 100000 in
theorem chk_r3 (c c' s' : Nat) : subE 8 [AV.int false IntKind.i64 (↑c : Int), AV.int true IntKind.i64 (3 : Int), AV.int true IntKind.i64 (0 : Int)] ([]) (chkRet c' s') = (
    some [(↑c : Int) = (↑c' : Int), (3 : Int) = (↑s' : Int), (0 : Int) = (0 : Int)]) := by kernel_rfl
set_option maxRecDepth 100000 in
theorem chk_go (d : Puz) (c c' : Nat) : subE 8 [AV.ptr (8 : Nat) (0 : Nat) (0 : Nat), AV.slz (0 : Nat) (0 : Nat) d.ps.n (Cap.of (0 : Nat)), AV.int false IntKind.i64 (↑d.ps.n : Int), AV.int false IntKind.i64 (IntKind.i64.wrap ((↑c : Int) + (1 : Int)))] ([((8 : Nat), Blk.cells (0 : Nat) (28 : Nat) [AV.int false IntKind.i64 d.play.length, AV.int false IntKind.i64 d.play.slack, AV.int false IntKind.i64 d.play.loose, AV.int false IntKind.i64 d.play.damp.lo, AV.int false IntKind.i64 d.play.damp.hi, AV.int false IntKind.i64 d.wide, AV.int false IntKind.i64 d.high, AV.bool false d.turn, AV.slz (0 : Nat) (0 : Nat) d.ps.n (Cap.of (0 : Nat))]), ((0 : Nat), Blk.frz [CK.int IntKind.i64, CK.int IntKind.i64, CK.int IntKind.i64, CK.int IntKind.i64, CK.int IntKind.i64, CK.int IntKind.i64, CK.int IntKind.i64, CK.int IntKind.i64, CK.int IntKind.i64, CK.int IntKind.i64, CK.int IntKind.i64, CK.int IntKind.i64, CK.int IntKind.i64, CK.int IntKind.i64, CK.int IntKind.i64, CK.int IntKind.i64, CK.int IntKind.i64, CK.int IntKind.i64, CK.int IntKind.i64, CK.int IntKind.i64, CK.int IntKind.i64, CK.int IntKind.i64, CK.int IntKind.i64, CK.int IntKind.i64, CK.int IntKind.i64, CK.int IntKind.i64, CK.int IntKind.i64, CK.int IntKind.i64] d.ps.n fun i => RowT.enc (d.ps.get i))]) (chkJ d c') = (
    some [(0 : Nat) = (0 : Nat), (0 : Nat) = (0 : Nat), (0 : Nat) = (0 : Nat), d.ps.n = d.ps.n, Cap.of (0 : Nat) = Cap.of (0 : Nat), (↑d.ps.n : Int) = (↑d.ps.n : Int), IntKind.i64.wrap
    ((↑c : Int) + (1 : Int)) = (↑c' : Int), d.play.length = d.play.length, d.play.slack = d.play.slack, d.play.loose = d.play.loose, d.play.damp.lo = d.play.damp.lo, d.play.damp.hi =
    d.play.damp.hi, d.wide = d.wide, d.high = d.high, d.turn = d.turn, (0 : Nat) = (0 : Nat), d.ps.n = d.ps.n, Cap.of (0 : Nat) = Cap.of (0 : Nat), d.ps.n ≤ d.ps.n, RowsEq (28 : Nat)
    d.ps.n (fun i => RowT.enc (d.ps.get i)) fun i => RowT.enc (d.ps.get i)]) := by kernel_rfl
set_option maxRecDepth 100000 in
theorem chk_end  : subE 8 [] ([]) chkEnd = (
    some []) := by kernel_rfl
end Go.Proofs.Ytbpffdkemeoajaa
/- Check: its contract (layer 7). -/
namespace Go.SX
open Go Go.RowKit Go.Proofs.Ytbpffdkemeoajaa
theorem side_den {Q : AV → List (Nat × Blk) → Prop} {A b1 b2 b3 n1 n2 x : Bool} {L K : Tree} (hA : A = true) (hn : b1 = false → n1 = true ∧ n2 = true) (hx : x = cond b1 b2 b3) (hr : x = true → L.den Q) (hk : x = false → K.den Q) :
    (Tree.need A (.br b1 (.br b2 L K) (.need n1 (.need n2 (.need true (.br b3 L K)))))).den Q := by
  refine den_need hA (den_br (fun h1 => ?_) (fun h1 => ?_))
  · rw [h1] at hx
    exact den_br (fun h => hr (by rw [hx, h]; rfl)) (fun h => hk (by rw [hx, h]; rfl))
  · rw [h1] at hx
    exact den_need (hn h1).1 (den_need (hn h1).2 (den_need rfl (den_br (fun h => hr (by rw [hx, h]; rfl)) (fun h => hk (by rw [hx, h]; rfl)))))
end Go.SX
namespace Go.Proofs.Ytbpffdkemeoajaa
open Go.SX
def edgeI (x : Piece) : Nat → Edge
  | 0 => x.up
  | 1 => x.right
  | 2 => x.down
  | _ => x.left
/-- Is a side of a cell wrong? -/
def badSd (d : Puz) (c s : Nat) : Bool := cond (besF d.wide d.high c s == -1) ((edgeI (d.ps.get c) s).kind != 0) ((FitF d.play (edgeI (d.ps.get c) s) (edgeI (d.ps.get (besF d.wide d.high c s).toNat) ((s + 2) % 4))).1 != 2)
def chkQ (d : Puz) (i : Nat) : Bool := badSd d (i / 4) (i % 4)
structure DrawB (d : Puz) : Prop where
  n9 : d.ps.n ≤ 9
  w1 : 1 ≤ d.wide
  wn : d.wide ≤ d.ps.n
  h1 : 1 ≤ d.high
  hn : d.high ≤ d.ps.n
  wh : d.wide * d.high = d.ps.n
theorem drawB_of {d : Puz} (h : d.ok = true) : DrawB d := by
  simp only [Puz.ok, Puz.okN, within, Bool.and_eq_true, decide_eq_true_eq, beq_iff_eq] at h
  obtain ⟨⟨⟨a1, a2⟩, ⟨b1, b2⟩, ⟨c1, c2⟩, e⟩, _⟩ := h
  have hw : d.wide ≤ 9 := by omega
  have hh : d.high ≤ 9 := by omega
  have hm : d.wide * d.high ≤ 9 * 9 := Int.mul_le_mul hw hh (by omega) (by omega)
  have hm0 : 0 ≤ d.wide * d.high := Int.mul_nonneg (by omega) (by omega)
  rw [w64 (by omega) (by omega)] at e
  exact ⟨by omega, b1, b2, c1, c2, e⟩
theorem besF_in {d : Puz} (h : DrawB d) {c s : Nat} (hc : c < d.ps.n) (hb : (besF d.wide d.high c s == -1) = false) : 0 ≤ besF d.wide d.high c s ∧ besF d.wide d.high c s < d.ps.n := by
  have w1 := h.w1
  have m0 : 0 ≤ (c : Int).tmod d.wide := Int.tmod_nonneg _ (by omega)
  have m1 : (c : Int).tmod d.wide < d.wide := Int.tmod_lt_of_pos _ (by omega)
  have q0 : 0 ≤ (c : Int).tdiv d.wide := Int.tdiv_nonneg (by omega) (by omega)
  have e := Int.tmod_def (c : Int) d.wide
  have wh := h.wh
  simp only [besF] at hb ⊢
  generalize (c : Int).tdiv d.wide = q at *
  generalize (c : Int).tmod d.wide = m at *
  have hq : q < d.high := by
    rcases Int.lt_or_le q d.high with g | g
    · exact g
    · have := Int.mul_le_mul_of_nonneg_left g (show 0 ≤ d.wide by omega)
      omega
  have p0 : 0 ≤ d.wide * q := Int.mul_nonneg (by omega) q0
  have a1 : d.wide * (q + 1) ≤ d.wide * d.high := Int.mul_le_mul_of_nonneg_left (by omega) (by omega)
  have e1 : d.wide * (q + 1) = d.wide * q + d.wide := by rw [Int.mul_add, Int.mul_one]
  cases x0 : ((s : Int) == 0 && decide (0 < q)) with
  | true =>
    simp only [cond_true]
    simp only [Bool.and_eq_true, decide_eq_true_eq] at x0
    have := Int.mul_le_mul_of_nonneg_left (show 1 ≤ q by omega) (show 0 ≤ d.wide by omega)
    omega
  | false =>
    simp only [x0, cond_false] at hb ⊢
    cases x1 : ((s : Int) == 1 && decide (m < d.wide - 1)) with
    | true =>
      simp only [cond_true]
      simp only [Bool.and_eq_true, decide_eq_true_eq] at x1
      omega
    | false =>
      simp only [x1, cond_false] at hb ⊢
      cases x2 : ((s : Int) == 2 && decide (q < d.high - 1)) with
      | true =>
        simp only [cond_true]
        simp only [Bool.and_eq_true, decide_eq_true_eq] at x2
        have a2 : d.wide * (q + 2) ≤ d.wide * d.high := Int.mul_le_mul_of_nonneg_left (by omega) (by omega)
        have e2 : d.wide * (q + 2) = d.wide * q + d.wide * 2 := by rw [Int.mul_add]
        omega
      | false =>
        simp only [x2, cond_false] at hb ⊢
        cases x3 : ((s : Int) == 3 && decide (0 < m)) with
        | true =>
          simp only [cond_true]
          simp only [Bool.and_eq_true, decide_eq_true_eq] at x3
          omega
        | false =>
          simp only [x3, cond_false] at hb
          exact absurd hb (by decide)
def chkR (d : Puz) (c : Nat) (e : Ex) (J : JSt) : Prop := (∃ i, e = .ret ∧ firstN (chkQ d) (4 * (d.ps.n - c)) (4 * c) = some i ∧ J = chkRet (i / 4) (i % 4)) ∨ (e = .exit 0 ∧ firstN (chkQ d) (4 * (d.ps.n - c)) (4 * c) = none ∧ J = chkEnd)
set_option maxRecDepth 100000 in
theorem chk_round (d : Puz) (hd : DrawB d) : RoundW (chkJ d) (fun c => c ≤ d.ps.n) (fun c => d.ps.n - c) (chkR d) 8 chkLs [] (mkE Try.prog tab_beside) (fun _ => hnd (mkE Try.prog tab_beside) 6) (bodyK Try.f13 0) := by
  refine ⟨fun c g hk => ⟨den_of (chk_r d c g) ?_⟩⟩
  have n9 := hd.n9
  refine den_br (fun h => ?_) (fun h => ?_)
  · have h : c < d.ps.n := by have := of_decide_eq_true h; omega
    have hw := hd.w1
    have hwn := hd.wn
    have hh := hd.h1
    have hhn := hd.hn
    have hA : (decide (d.ps.n ≤ d.ps.n) && (true && (true && true)) && decide (((1 : Int) ≤ d.wide ∧ d.wide ≤ (100 : Int)) ∧ ((1 : Int) ≤ d.high ∧ d.high ≤ (100 : Int)) ∧ (0 : Int) ≤ (c : Int) ∧ (c : Int) ≤ (100 : Int))) = true := by
      simp only [Nat.le_refl, decide_true, Bool.true_and, decide_eq_true_eq]; omega
    have hn : ∀ s : Nat, (besF d.wide d.high c s == -1) = false → (decide (0 ≤ besF d.wide d.high c s ∧ besF d.wide d.high c s < (d.ps.n : Int)) && decide (d.ps.n ≤ d.ps.n)) = true ∧ decide ((besF d.wide d.high c s).toNat < d.ps.n) = true := fun s hb => by
      have := besF_in hd h hb
      simp only [Nat.le_refl, decide_true, Bool.and_true, decide_eq_true_eq]; omega
    obtain ⟨m, hm⟩ : ∃ m, 4 * (d.ps.n - c) = m + 1 + 1 + 1 + 1 := ⟨4 * (d.ps.n - c) - 4, by omega⟩
    have hm' : 4 * (d.ps.n - (c + 1)) = m := by omega
    have q0 : chkQ d (4 * c) = badSd d c 0 := by unfold chkQ; rw [show 4 * c / 4 = c by omega, show 4 * c % 4 = 0 by omega]
    have q1 : chkQ d (4 * c + 1) = badSd d c 1 := by unfold chkQ; rw [show (4 * c + 1) / 4 = c by omega, show (4 * c + 1) % 4 = 1 by omega]
    have q2 : chkQ d (4 * c + 1 + 1) = badSd d c 2 := by unfold chkQ; rw [show (4 * c + 1 + 1) / 4 = c by omega, show (4 * c + 1 + 1) % 4 = 2 by omega]
    have q3 : chkQ d (4 * c + 1 + 1 + 1) = badSd d c 3 := by unfold chkQ; rw [show (4 * c + 1 + 1 + 1) / 4 = c by omega, show (4 * c + 1 + 1 + 1) % 4 = 3 by omega]
    refine den_need (by simp; omega) (den_need (by simp; omega) ?_)
    refine side_den (x := badSd d c 0) hA (hn 0) rfl (fun b0 => ?_) (fun b0 => ?_)
    · refine ⟨_, .inl ⟨4 * c, rfl, by rw [hm, firstN, q0, b0], rfl⟩, rfl, rfl, _, chk_r0 c _ _, ?_⟩
      exact ⟨by omega, by omega, rfl, trivial⟩
    refine side_den (x := badSd d c 1) hA (hn 1) rfl (fun b1 => ?_) (fun b1 => ?_)
    · refine ⟨_, .inl ⟨4 * c + 1, rfl, by rw [hm, firstN, q0, b0, firstN, q1, b1], rfl⟩, rfl, rfl, _, chk_r1 c _ _, ?_⟩
      exact ⟨by omega, by omega, rfl, trivial⟩
    refine side_den (x := badSd d c 2) hA (hn 2) rfl (fun b2 => ?_) (fun b2 => ?_)
    · refine ⟨_, .inl ⟨4 * c + 1 + 1, rfl, by rw [hm, firstN, q0, b0, firstN, q1, b1, firstN, q2, b2], rfl⟩, rfl, rfl, _, chk_r2 c _ _, ?_⟩
      exact ⟨by omega, by omega, rfl, trivial⟩
    refine side_den (x := badSd d c 3) hA (hn 3) rfl (fun b3 => ?_) (fun b3 => ?_)
    · refine ⟨_, .inl ⟨4 * c + 1 + 1 + 1, rfl, by rw [hm, firstN, q0, b0, firstN, q1, b1, firstN, q2, b2, firstN, q3, b3], rfl⟩, rfl, rfl, _, chk_r3 c _ _, ?_⟩
      exact ⟨by omega, by omega, rfl, trivial⟩
    have hf : firstN (chkQ d) (4 * (d.ps.n - c)) (4 * c) = firstN (chkQ d) (4 * (d.ps.n - (c + 1))) (4 * (c + 1)) := by
      rw [hm, hm', firstN, q0, b0, firstN, q1, b1, firstN, q2, b2, firstN, q3, b3, show 4 * (c + 1) = 4 * c + 1 + 1 + 1 + 1 by omega]
    refine ⟨c + 1, h, by show d.ps.n - (c + 1) < d.ps.n - c; omega, fun e J h => by unfold chkR at h ⊢; rw [hf]; exact h, rfl, rfl, _, chk_go d c (c + 1), ?_⟩
    have hw : IntKind.i64.wrap ((c : Int) + 1) = ((c + 1 : Nat) : Int) := (w64 (by omega) (by omega)).trans (by omega)
    repeat' first | exact trivial | with_reducible rfl | exact Nat.le_refl _ | exact hw | exact RowsEq.refl _ _ _ | refine And.intro ?_ ?_
  · have h : d.ps.n ≤ c := by have := of_decide_eq_false h; omega
    exact ⟨_, .inr ⟨rfl, by rw [show 4 * (d.ps.n - c) = 0 by omega]; rfl, rfl⟩, rfl, rfl, _, chk_end, trivial⟩
end Go.Proofs.Ytbpffdkemeoajaa
/- Check: its contract (layer 7). -/
namespace Go.SX
open Go Go.RowKit Go.Proofs.Ytbpffdkemeoajaa
def askH (p : Prop) (L : St → (Ex → St → Tree) → Tree) (st : St) (K : Ex → St → Tree) : Tree := .ask p (L st K)
theorem askH_ok {E : Env} {G : Ctx} {c : Code} {p : Prop} {L : St → (Ex → St → Tree) → Tree} (h : p → CSound E G c L) : CSound E G c (askH p L) := by
  intro st K T Q a w hn hd hr hQ
  obtain ⟨h1, h2⟩ := (show p ∧ (L st K).den T from hd)
  exact h h1 st K T Q a w hn h2 hr hQ
end Go.SX
namespace Go.Proofs.Ytbpffdkemeoajaa
open Go.SX
def chkO (d : Puz) : Option Nat := firstN (chkQ d) (4 * d.ps.n) 0
def chkI (d : Puz) : Nat := (chkO d).getD 0
def chkX (d : Puz) : List (Prop × Ex × JSt) := [((chkO d).isSome = true, .ret, chkRet (chkI d / 4) (chkI d % 4)), (chkO d = none, .exit 0, chkEnd)]
abbrev chkH (P : Program) (d : Puz) : Hnd := { hnd (mkE P tab_beside) 1 with loop := fun _ => askH (DrawB d) (loopT 8 [] (chkJ d 0) (chkX d)) }
theorem chk_hnd (d : Puz) (G : Ctx) (hrd : G.rd = none) (hG : G.n = 8) : HndOk (mkE Try.prog tab_beside) G (chkH Try.prog d) (bodyOf Try.f13) := by
  refine one_loop (body := bodyK Try.f13 0) (mkE_ok tab_beside_ok) hrd (by kernel_rfl) ?_
  refine askH_ok fun hd => ?_
  refine loopT_ok (n0 := 8) (mkE_ok tab_beside_ok) (by omega) (fun s hs => hnd_hndOk (mkE_ok tab_beside_ok) 6 G _ hrd) (fun s hs => (by decide : 8 ≤ 96)) ?_ (chk_round d hd) (s0 := 0) (Nat.zero_le _) ?_
  · rintro s e J (⟨_, _, _, rfl⟩ | ⟨_, _, rfl⟩) <;> exact (by decide : 8 ≤ 96)
  · rintro e J (⟨i, rfl, h, rfl⟩ | ⟨rfl, h, rfl⟩)
    · have h : chkO d = some i := h
      refine ⟨_, List.mem_cons_self, by simp only [h]; rfl, rfl, ?_⟩
      simp only [chkI, h]; rfl
    · exact ⟨_, List.mem_cons_of_mem _ List.mem_cons_self, h, rfl, rfl⟩
def chkV (d : Puz) : Int × Int × Int := match d.ok with
  | false => (0, 0, 1)
  | true => (match chkO d with
    | some i => (((i / 4 : Nat) : Int), ((i % 4 : Nat) : Int), 0)
    | none => (0, 0, 4))
def chkF : WF (Puz × Unit) := fun | (d, _) => (decide (d.ps.n ≤ 1000), .tup [.int false .i64 (chkV d).1, .int false .i64 (chkV d).2.1, .int false .i64 (chkV d).2.2], [])
def chkC : FC := wFC chkF
set_option maxRecDepth 100000 in
theorem chk_t (d : Puz) : execW (mkE Try.prog tab_beside) (chkH Try.prog d) Try.f13 (ArgsE.vals 0 ((d, ()) : Puz × Unit)) (ArgsE.blks 0 ((d, ()) : Puz × Unit)) 8 =
    Tree.need (decide (d.ps.n ≤ d.ps.n) && true && decide (d.ps.n ≤ (1000 : Nat))) (Tree.br (!d.ok) (Tree.leaf (AV.tup [AV.int true IntKind.i64 (0 : Int), AV.int true IntKind.i64 (0 :
    Int), AV.int true IntKind.i64 (1 : Int)]) ([])) (Tree.ask (DrawB d) (Tree.ask ((0 : Nat) = (0 : Nat)) (Tree.ask ((0 : Nat) = (0 : Nat)) (Tree.ask ((0 : Nat) = (0 : Nat)) (Tree.ask
    (d.ps.n = d.ps.n) (Tree.ask (Cap.of (0 : Nat) = Cap.of (0 : Nat)) (Tree.ask ((↑d.ps.n : Int) = (↑d.ps.n : Int)) (Tree.ask ((0 : Int) = (0 : Int)) (Tree.ask (d.play.length =
    d.play.length) (Tree.ask (d.play.slack = d.play.slack) (Tree.ask (d.play.loose = d.play.loose) (Tree.ask (d.play.damp.lo = d.play.damp.lo) (Tree.ask (d.play.damp.hi =
    d.play.damp.hi) (Tree.ask (d.wide = d.wide) (Tree.ask (d.high = d.high) (Tree.ask (d.turn = d.turn) (Tree.ask ((0 : Nat) = (0 : Nat)) (Tree.ask (d.ps.n = d.ps.n) (Tree.ask (Cap.of
    (0 : Nat) = Cap.of (0 : Nat)) (Tree.ask (d.ps.n ≤ d.ps.n) (Tree.ask (RowsEq (28 : Nat) d.ps.n (fun i => RowT.enc (d.ps.get i)) fun i => RowT.enc (d.ps.get i)) (Tree.both (Tree.asm
    ((chkO d).isSome = true) (Tree.all (fun (g0 : Nat → Value) => Tree.leaf (AV.tup [AV.int false IntKind.i64 (↑(chkI d / (4 : Nat)) : Int), AV.int false IntKind.i64 (↑(chkI d % (4 :
    Nat)) : Int), AV.int false IntKind.i64 (0 : Int)]) ([])))) (Tree.asm (chkO d = none) (Tree.all (fun (g1 : Nat → Value) => Tree.leaf (AV.tup [AV.int true IntKind.i64 (0 : Int),
    AV.int true IntKind.i64 (0 : Int), AV.int true IntKind.i64 (4 : Int)]) ([]))))))))))))))))))))))))))) := by kernel_rfl
theorem chk_hs : WHnd (mkE Try.prog tab_beside) (bodyOf Try.f13) 8 chkF (fun x_ => (chkH Try.prog x_.1)) := by
  refine ⟨?_⟩
  rintro ⟨d, ⟨⟩⟩ hp G h1 h2
  exact chk_hnd d G h1 h2
theorem chk_run : WRun (mkE Try.prog tab_beside) Try.f13 8 chkF (fun x_ => (chkH Try.prog x_.1)) := by
  refine ⟨?_⟩
  rintro ⟨d, ⟨⟩⟩ hp
  refine ⟨⟨rfl, by simp [chkF], rfl⟩, ⟨?_⟩⟩
  rw [chk_t d]
  simp only [chkF] at hp
  refine den_need (by simpa using hp) (den_br (fun h => endOk_same ?_ rfl) (fun h => ?_))
  · have h : d.ok = false := by simpa using h
    simp only [chkF, chkV, h]; exact ⟨⟨rfl, rfl⟩, ⟨rfl, rfl⟩, ⟨rfl, rfl⟩, trivial⟩
  · have h : d.ok = true := by simpa using h
    refine den_ask (drawB_of h) ?_
    repeat' first | refine den_ask (show _ = _ by with_reducible rfl) ?_ | refine den_ask (show _ ≤ _ from Nat.le_refl _) ?_ | refine den_ask (show RowsEq _ _ _ _ from RowsEq.refl _ _ _) ?_
    refine den_both (den_asm fun ho => den_all fun g => ?_) (den_asm fun ho => den_all fun g => ?_)
    · obtain ⟨i, hi⟩ := Option.isSome_iff_exists.1 ho
      exact endOk_same (by simp only [chkF, chkV, chkI, h, hi]; exact ⟨⟨rfl, rfl⟩, ⟨rfl, rfl⟩, ⟨rfl, rfl⟩, trivial⟩) rfl
    · exact endOk_same (by simp only [chkF, chkV, h, ho]; exact ⟨⟨rfl, rfl⟩, ⟨rfl, rfl⟩, ⟨rfl, rfl⟩, trivial⟩) rfl
theorem chk_s : FSound Try.prog 13 chkC :=
  fn_W (mkE_ok tab_beside_ok) Try.func13 (by kernel_rfl) (by kernel_rfl) (by decide) chk_hs chk_run
def tab_chk : Tab := addF tab_beside 13 chkC
theorem tab_chk_ok : TabOk tab_chk := tab_beside_ok.add chk_s
end Go.Proofs.Ytbpffdkemeoajaa
/- shapeOf, and a flat side (layer 7). -/
namespace Go.Proofs.Ytbpffdkemeoajaa
open Go.SX
/-- A struct of no fields. -/
structure Fl where
instance : Enc Fl where
  enc _ := .agg []
  dec | .agg [] => some ⟨⟩ | _ => none
  ok v x h := by
    split at h <;> (try (cases h; done))
    exact ⟨fun _ => rfl, rfl⟩
def isFlF : Fl × Edge × Unit → Bool × AV := fun | (b, (s, _)) => (true, .bool false (s.kind == 0))
def isFlC : FC := pureFC (pfOf isFlF)
set_option maxRecDepth 100000 in
theorem isFl_t (b : Fl) (s : Edge) : execFn (mkE Try.prog tab_chk) (hnd (mkE Try.prog tab_chk) 2) false Try.f124 (EncL.enc ((b, s, ()) : Fl × Edge × Unit)) [] 0 =
    Tree.leaf (AV.bool false (s.kind == (0 : Int))) ([]) := by kernel_rfl
theorem isFl_s : FSound Try.prog 124 isFlC := by
  refine plain_fn tab_chk_ok 2 Try.func124 (by kernel_rfl) (by kernel_rfl) ?_
  rintro ⟨b, s, ⟨⟩⟩ hp
  rw [isFl_t b s]
  simp only [isFlF, Tree.den, AV.same, AV.sameL, and_true, true_and] at hp ⊢
def tab_isFl : Tab := addF tab_chk 124 isFlC
theorem tab_isFl_ok : TabOk tab_isFl := tab_chk_ok.add isFl_s
def shpF : Edge × Unit → Bool × AV := fun | (s, _) => (true, .alt (s.kind == 0) (.ifc 139 (.agg [])) (.ifc 140 (Enc.enc s)))
def shpC : FC := pureFC (pfOf shpF)
set_option maxRecDepth 100000 in
theorem shp_t (s : Edge) : execFn (mkE Try.prog tab_isFl) (hnd (mkE Try.prog tab_isFl) 2) false Try.f73 (EncL.enc ((s, ()) : Edge × Unit)) [] 0 =
    Tree.br (s.kind == (0 : Int)) (Tree.leaf (AV.ifc (139 : Nat) (AV.agg [])) ([])) (Tree.leaf (AV.ifc (140 : Nat) (AV.agg [AV.int false IntKind.i64 s.kind, AV.int false IntKind.i64
    s.at_.lo, AV.int false IntKind.i64 s.at_.hi, AV.int false IntKind.i64 s.wide.lo, AV.int false IntKind.i64 s.wide.hi, AV.int false IntKind.i64 s.deep.lo, AV.int false IntKind.i64
    s.deep.hi])) ([])) := by kernel_rfl
set_option maxRecDepth 100000 in
theorem shp_s : FSound Try.prog 73 shpC := by
  refine fn_plainD (c := bodyOf Try.f73) (mkE_ok tab_isFl_ok) Try.func73 (by kernel_rfl) (by kernel_rfl) (fun G _ hG => hnd_hndOk (mkE_ok tab_isFl_ok) 2 G _ hG) ?_
  rintro ⟨s, ⟨⟩⟩ _
  refine den_of (shp_t s) ?_
  refine ⟨fun h r r' => ?_, fun h r r' => ?_⟩
  · simp only [shpF, h]; rfl
  · simp only [shpF, h]; rfl
def tab_shp : Tab := addF tab_isFl 73 shpC
theorem tab_shp_ok : TabOk tab_shp := tab_isFl_ok.add shp_s
end Go.Proofs.Ytbpffdkemeoajaa
