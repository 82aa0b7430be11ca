/- The reference: Check, a round (layer 7). -/
import Derived.Test.YtbpffdkemeoajaaNtx
namespace Go.Proofs.Ytbpffdkemeoajaa
open Go.SX
def rckJ (d : Puz) (c : Nat) : JSt := ⟨64, [(1, .ptr 8 0 0), (5, .int false .i64 c)], [(8, .cells 0 28 (puzC d))] ++ ArgE.blk 0 d.ps, 96⟩
def rckLs : Ex → List Nat
  | .normal => [1, 5]
  | .exit _ => []
  | .ret => [2, 3, 4]
set_option maxRecDepth 100000 in
theorem rck_r (d : Puz) (c : Nat) (g : Nat → Value) : exec (mkS Try.prog tab_rpz) (hnd (mkS Try.prog tab_rpz) 6) (bodyK Try.f14 0) (JSt.inst (rckJ d c) g) (leafW [] rckLs) =
    Tree.br (decide ((↑c : Int) < (↑d.ps.n : Int))) (Tree.need (decide ((0 : Int) ≤ (↑c : Int) ∧ (↑c : Int) < (↑d.ps.n : Int)) && decide (d.ps.n ≤ d.ps.n)) (Tree.need (decide (c <
    d.ps.n)) (Tree.need (decide (d.ps.n ≤ d.ps.n) && (true && (true && true)) && decide (((1 : Int) ≤ d.wide ∧ d.wide ≤ (100 : Int)) ∧ ((1 : Int) ≤ d.high ∧ d.high ≤ (100 : Int)) ∧ (0 :
    Int) ≤ (↑c : Int) ∧ (↑c : Int) ≤ (100 : Int))) (Tree.need (!decide (besF d.wide d.high (↑c : Int) (0 : Int) < (0 : Int)) || decide (besF d.wide d.high (↑c : Int) (0 : Int) < (0 :
    Int))) (Tree.need (!decide (besF d.wide d.high (↑c : Int) (0 : Int) < (0 : Int)) || decide (besF d.wide d.high (↑c : Int) (0 : Int) < (0 : Int))) (Tree.need (!decide (besF d.wide
    d.high (↑c : Int) (0 : Int) < (0 : Int)) || decide (besF d.wide d.high (↑c : Int) (0 : Int) < (0 : Int))) (Tree.bnd (decide (besF d.wide d.high (↑c : Int) (0 : Int) < (0 : Int)) &&
    (d.ps.get c).up.kind != (0 : Int)) (fun (x0 : Bool) => Tree.need (!!x0 || !x0) (Tree.need (!!x0 || !x0) (Tree.need (!(!x0 && decide (besF d.wide d.high (↑c : Int) (0 : Int) ≥ (0 :
    Int))) || !x0 && decide (besF d.wide d.high (↑c : Int) (0 : Int) ≥ (0 : Int))) (Tree.need (!(!x0 && decide (besF d.wide d.high (↑c : Int) (0 : Int) ≥ (0 : Int))) || !x0 && decide
    (besF d.wide d.high (↑c : Int) (0 : Int) ≥ (0 : Int))) (Tree.need (!(!x0 && decide (besF d.wide d.high (↑c : Int) (0 : Int) ≥ (0 : Int))) || !x0 && decide (besF d.wide d.high (↑c :
    Int) (0 : Int) ≥ (0 : Int))) (Tree.need (!(!x0 && decide (besF d.wide d.high (↑c : Int) (0 : Int) ≥ (0 : Int))) || decide ((0 : Int) ≤ besF d.wide d.high (↑c : Int) (0 : Int) ∧ besF
    d.wide d.high (↑c : Int) (0 : Int) < (↑d.ps.n : Int)) && decide (d.ps.n ≤ d.ps.n) && (!x0 && decide (besF d.wide d.high (↑c : Int) (0 : Int) ≥ (0 : Int)) && (!x0 && decide (besF
    d.wide d.high (↑c : Int) (0 : Int) ≥ (0 : Int))))) (Tree.need (!(!x0 && decide (besF d.wide d.high (↑c : Int) (0 : Int) ≥ (0 : Int))) || !x0 && decide (besF d.wide d.high (↑c : Int)
    (0 : Int) ≥ (0 : Int))) (Tree.need (!(!x0 && decide (besF d.wide d.high (↑c : Int) (0 : Int) ≥ (0 : Int))) || !x0 && decide (besF d.wide d.high (↑c : Int) (0 : Int) ≥ (0 : Int)) &&
    (!x0 && decide (besF d.wide d.high (↑c : Int) (0 : Int) ≥ (0 : Int)))) (Tree.need (!(!x0 && decide (besF d.wide d.high (↑c : Int) (0 : Int) ≥ (0 : Int))) || decide ((besF d.wide
    d.high (↑c : Int) (0 : Int)).toNat < d.ps.n) && (!x0 && decide (besF d.wide d.high (↑c : Int) (0 : Int) ≥ (0 : Int)))) (Tree.need (!(!x0 && decide (besF d.wide d.high (↑c : Int) (0
    : Int) ≥ (0 : Int))) || decide (d.ps.n ≤ d.ps.n) && (true && (true && true)) && decide (d.ps.n ≤ (1000 : Nat)) && (!x0 && decide (besF d.wide d.high (↑c : Int) (0 : Int) ≥ (0 :
    Int)) && (!x0 && decide (besF d.wide d.high (↑c : Int) (0 : Int) ≥ (0 : Int)) && (!x0 && decide (besF d.wide d.high (↑c : Int) (0 : Int) ≥ (0 : Int)))))) (Tree.need (!(!x0 && decide
    (besF d.wide d.high (↑c : Int) (0 : Int) ≥ (0 : Int))) || !x0 && decide (besF d.wide d.high (↑c : Int) (0 : Int) ≥ (0 : Int))) (Tree.need (!!x0 || !x0 && (!decide (besF d.wide
    d.high (↑c : Int) (0 : Int) ≥ (0 : Int)) || !x0 && decide (besF d.wide d.high (↑c : Int) (0 : Int) ≥ (0 : Int)))) (Tree.bnd (decide (besF d.wide d.high (↑c : Int) (0 : Int) ≥ (0 :
    Int)) && (FitF d.play (d.ps.get c).up (d.ps.get (besF d.wide d.high (↑c : Int) (0 : Int)).toNat).down).1 != (2 : Int)) (fun (x1 : Bool) => Tree.need (x0 || !x0) (Tree.bnd (x0 || x1)
    (fun (x2 : Bool) => Tree.br (x2) (Tree.leaf (AV.tup [AV.nili, AV.ptr (64 : Nat) (0 : Nat) (0 : Nat), AV.int false IntKind.i64 (↑c : Int), AV.int true IntKind.i64 (0 : Int), AV.int
    true IntKind.i64 (0 : Int)]) ([])) (Tree.need (decide ((0 : Int) ≤ (↑c : Int) ∧ (↑c : Int) < (↑d.ps.n : Int)) && decide (d.ps.n ≤ d.ps.n)) (Tree.need (decide (c < d.ps.n))
    (Tree.need (decide (d.ps.n ≤ d.ps.n) && (true && (true && true)) && decide (((1 : Int) ≤ d.wide ∧ d.wide ≤ (100 : Int)) ∧ ((1 : Int) ≤ d.high ∧ d.high ≤ (100 : Int)) ∧ (0 : Int) ≤
    (↑c : Int) ∧ (↑c : Int) ≤ (100 : Int))) (Tree.need (!decide (besF d.wide d.high (↑c : Int) (1 : Int) < (0 : Int)) || decide (besF d.wide d.high (↑c : Int) (1 : Int) < (0 : Int)))
    (Tree.need (!decide (besF d.wide d.high (↑c : Int) (1 : Int) < (0 : Int)) || decide (besF d.wide d.high (↑c : Int) (1 : Int) < (0 : Int))) (Tree.need (!decide (besF d.wide d.high
    (↑c : Int) (1 : Int) < (0 : Int)) || decide (besF d.wide d.high (↑c : Int) (1 : Int) < (0 : Int))) (Tree.bnd (decide (besF d.wide d.high (↑c : Int) (1 : Int) < (0 : Int)) &&
    (d.ps.get c).right.kind != (0 : Int)) (fun (x3 : Bool) => Tree.need (!!x3 || !x3) (Tree.need (!!x3 || !x3) (Tree.need (!(!x3 && decide (besF d.wide d.high (↑c : Int) (1 : Int) ≥ (0
    : Int))) || !x3 && decide (besF d.wide d.high (↑c : Int) (1 : Int) ≥ (0 : Int))) (Tree.need (!(!x3 && decide (besF d.wide d.high (↑c : Int) (1 : Int) ≥ (0 : Int))) || !x3 && decide
    (besF d.wide d.high (↑c : Int) (1 : Int) ≥ (0 : Int))) (Tree.need (!(!x3 && decide (besF d.wide d.high (↑c : Int) (1 : Int) ≥ (0 : Int))) || !x3 && decide (besF d.wide d.high (↑c :
    Int) (1 : Int) ≥ (0 : Int))) (Tree.need (!(!x3 && decide (besF d.wide d.high (↑c : Int) (1 : Int) ≥ (0 : Int))) || decide ((0 : Int) ≤ besF d.wide d.high (↑c : Int) (1 : Int) ∧ besF
    d.wide d.high (↑c : Int) (1 : Int) < (↑d.ps.n : Int)) && decide (d.ps.n ≤ d.ps.n) && (!x3 && decide (besF d.wide d.high (↑c : Int) (1 : Int) ≥ (0 : Int)) && (!x3 && decide (besF
    d.wide d.high (↑c : Int) (1 : Int) ≥ (0 : Int))))) (Tree.need (!(!x3 && decide (besF d.wide d.high (↑c : Int) (1 : Int) ≥ (0 : Int))) || !x3 && decide (besF d.wide d.high (↑c : Int)
    (1 : Int) ≥ (0 : Int))) (Tree.need (!(!x3 && decide (besF d.wide d.high (↑c : Int) (1 : Int) ≥ (0 : Int))) || !x3 && decide (besF d.wide d.high (↑c : Int) (1 : Int) ≥ (0 : Int)) &&
    (!x3 && decide (besF d.wide d.high (↑c : Int) (1 : Int) ≥ (0 : Int)))) (Tree.need (!(!x3 && decide (besF d.wide d.high (↑c : Int) (1 : Int) ≥ (0 : Int))) || decide ((besF d.wide
    d.high (↑c : Int) (1 : Int)).toNat < d.ps.n) && (!x3 && decide (besF d.wide d.high (↑c : Int) (1 : Int) ≥ (0 : Int)))) (Tree.need (!(!x3 && decide (besF d.wide d.high (↑c : Int) (1
    : Int) ≥ (0 : Int))) || decide (d.ps.n ≤ d.ps.n) && (true && (true && true)) && decide (d.ps.n ≤ (1000 : Nat)) && (!x3 && decide (besF d.wide d.high (↑c : Int) (1 : Int) ≥ (0 :
    Int)) && (!x3 && decide (besF d.wide d.high (↑c : Int) (1 : Int) ≥ (0 : Int)) && (!x3 && decide (besF d.wide d.high (↑c : Int) (1 : Int) ≥ (0 : Int)))))) (Tree.need (!(!x3 && decide
    (besF d.wide d.high (↑c : Int) (1 : Int) ≥ (0 : Int))) || !x3 && decide (besF d.wide d.high (↑c : Int) (1 : Int) ≥ (0 : Int))) (Tree.need (!!x3 || !x3 && (!decide (besF d.wide
    d.high (↑c : Int) (1 : Int) ≥ (0 : Int)) || !x3 && decide (besF d.wide d.high (↑c : Int) (1 : Int) ≥ (0 : Int)))) (Tree.bnd (decide (besF d.wide d.high (↑c : Int) (1 : Int) ≥ (0 :
    Int)) && (FitF d.play (d.ps.get c).right (d.ps.get (besF d.wide d.high (↑c : Int) (1 : Int)).toNat).left).1 != (2 : Int)) (fun (x4 : Bool) => Tree.need (x3 || !x3) (Tree.bnd (x3 ||
    x4) (fun (x5 : Bool) => Tree.br (x5) (Tree.leaf (AV.tup [AV.nili, AV.ptr (64 : Nat) (0 : Nat) (0 : Nat), AV.int false IntKind.i64 (↑c : Int), AV.int true IntKind.i64 (1 : Int),
    AV.int true IntKind.i64 (0 : Int)]) ([])) (Tree.need (decide ((0 : Int) ≤ (↑c : Int) ∧ (↑c : Int) < (↑d.ps.n : Int)) && decide (d.ps.n ≤ d.ps.n)) (Tree.need (decide (c < d.ps.n))
    (Tree.need (decide (d.ps.n ≤ d.ps.n) && (true && (true && true)) && decide (((1 : Int) ≤ d.wide ∧ d.wide ≤ (100 : Int)) ∧ ((1 : Int) ≤ d.high ∧ d.high ≤ (100 : Int)) ∧ (0 : Int) ≤
    (↑c : Int) ∧ (↑c : Int) ≤ (100 : Int))) (Tree.need (!decide (besF d.wide d.high (↑c : Int) (2 : Int) < (0 : Int)) || decide (besF d.wide d.high (↑c : Int) (2 : Int) < (0 : Int)))
    (Tree.need (!decide (besF d.wide d.high (↑c : Int) (2 : Int) < (0 : Int)) || decide (besF d.wide d.high (↑c : Int) (2 : Int) < (0 : Int))) (Tree.need (!decide (besF d.wide d.high
    (↑c : Int) (2 : Int) < (0 : Int)) || decide (besF d.wide d.high (↑c : Int) (2 : Int) < (0 : Int))) (Tree.bnd (decide (besF d.wide d.high (↑c : Int) (2 : Int) < (0 : Int)) &&
    (d.ps.get c).down.kind != (0 : Int)) (fun (x6 : Bool) => Tree.need (!!x6 || !x6) (Tree.need (!!x6 || !x6) (Tree.need (!(!x6 && decide (besF d.wide d.high (↑c : Int) (2 : Int) ≥ (0 :
    Int))) || !x6 && decide (besF d.wide d.high (↑c : Int) (2 : Int) ≥ (0 : Int))) (Tree.need (!(!x6 && decide (besF d.wide d.high (↑c : Int) (2 : Int) ≥ (0 : Int))) || !x6 && decide
    (besF d.wide d.high (↑c : Int) (2 : Int) ≥ (0 : Int))) (Tree.need (!(!x6 && decide (besF d.wide d.high (↑c : Int) (2 : Int) ≥ (0 : Int))) || !x6 && decide (besF d.wide d.high (↑c :
    Int) (2 : Int) ≥ (0 : Int))) (Tree.need (!(!x6 && decide (besF d.wide d.high (↑c : Int) (2 : Int) ≥ (0 : Int))) || decide ((0 : Int) ≤ besF d.wide d.high (↑c : Int) (2 : Int) ∧ besF
    d.wide d.high (↑c : Int) (2 : Int) < (↑d.ps.n : Int)) && decide (d.ps.n ≤ d.ps.n) && (!x6 && decide (besF d.wide d.high (↑c : Int) (2 : Int) ≥ (0 : Int)) && (!x6 && decide (besF
    d.wide d.high (↑c : Int) (2 : Int) ≥ (0 : Int))))) (Tree.need (!(!x6 && decide (besF d.wide d.high (↑c : Int) (2 : Int) ≥ (0 : Int))) || !x6 && decide (besF d.wide d.high (↑c : Int)
    (2 : Int) ≥ (0 : Int))) (Tree.need (!(!x6 && decide (besF d.wide d.high (↑c : Int) (2 : Int) ≥ (0 : Int))) || !x6 && decide (besF d.wide d.high (↑c : Int) (2 : Int) ≥ (0 : Int)) &&
    (!x6 && decide (besF d.wide d.high (↑c : Int) (2 : Int) ≥ (0 : Int)))) (Tree.need (!(!x6 && decide (besF d.wide d.high (↑c : Int) (2 : Int) ≥ (0 : Int))) || decide ((besF d.wide
    d.high (↑c : Int) (2 : Int)).toNat < d.ps.n) && (!x6 && decide (besF d.wide d.high (↑c : Int) (2 : Int) ≥ (0 : Int)))) (Tree.need (!(!x6 && decide (besF d.wide d.high (↑c : Int) (2
    : Int) ≥ (0 : Int))) || decide (d.ps.n ≤ d.ps.n) && (true && (true && true)) && decide (d.ps.n ≤ (1000 : Nat)) && (!x6 && decide (besF d.wide d.high (↑c : Int) (2 : Int) ≥ (0 :
    Int)) && (!x6 && decide (besF d.wide d.high (↑c : Int) (2 : Int) ≥ (0 : Int)) && (!x6 && decide (besF d.wide d.high (↑c : Int) (2 : Int) ≥ (0 : Int)))))) (Tree.need (!(!x6 && decide
    (besF d.wide d.high (↑c : Int) (2 : Int) ≥ (0 : Int))) || !x6 && decide (besF d.wide d.high (↑c : Int) (2 : Int) ≥ (0 : Int))) (Tree.need (!!x6 || !x6 && (!decide (besF d.wide
    d.high (↑c : Int) (2 : Int) ≥ (0 : Int)) || !x6 && decide (besF d.wide d.high (↑c : Int) (2 : Int) ≥ (0 : Int)))) (Tree.bnd (decide (besF d.wide d.high (↑c : Int) (2 : Int) ≥ (0 :
    Int)) && (FitF d.play (d.ps.get c).down (d.ps.get (besF d.wide d.high (↑c : Int) (2 : Int)).toNat).up).1 != (2 : Int)) (fun (x7 : Bool) => Tree.need (x6 || !x6) (Tree.bnd (x6 || x7)
    (fun (x8 : Bool) => Tree.br (x8) (Tree.leaf (AV.tup [AV.nili, AV.ptr (64 : Nat) (0 : Nat) (0 : Nat), AV.int false IntKind.i64 (↑c : Int), AV.int true IntKind.i64 (2 : Int), AV.int
    true IntKind.i64 (0 : Int)]) ([])) (Tree.need (decide ((0 : Int) ≤ (↑c : Int) ∧ (↑c : Int) < (↑d.ps.n : Int)) && decide (d.ps.n ≤ d.ps.n)) (Tree.need (decide (c < d.ps.n))
    (Tree.need (decide (d.ps.n ≤ d.ps.n) && (true && (true && true)) && decide (((1 : Int) ≤ d.wide ∧ d.wide ≤ (100 : Int)) ∧ ((1 : Int) ≤ d.high ∧ d.high ≤ (100 : Int)) ∧ (0 : Int) ≤
    (↑c : Int) ∧ (↑c : Int) ≤ (100 : Int))) (Tree.need (!decide (besF d.wide d.high (↑c : Int) (3 : Int) < (0 : Int)) || decide (besF d.wide d.high (↑c : Int) (3 : Int) < (0 : Int)))
    (Tree.need (!decide (besF d.wide d.high (↑c : Int) (3 : Int) < (0 : Int)) || decide (besF d.wide d.high (↑c : Int) (3 : Int) < (0 : Int))) (Tree.need (!decide (besF d.wide d.high
    (↑c : Int) (3 : Int) < (0 : Int)) || decide (besF d.wide d.high (↑c : Int) (3 : Int) < (0 : Int))) (Tree.bnd (decide (besF d.wide d.high (↑c : Int) (3 : Int) < (0 : Int)) &&
    (d.ps.get c).left.kind != (0 : Int)) (fun (x9 : Bool) => Tree.need (!!x9 || !x9) (Tree.need (!!x9 || !x9) (Tree.need (!(!x9 && decide (besF d.wide d.high (↑c : Int) (3 : Int) ≥ (0 :
    Int))) || !x9 && decide (besF d.wide d.high (↑c : Int) (3 : Int) ≥ (0 : Int))) (Tree.need (!(!x9 && decide (besF d.wide d.high (↑c : Int) (3 : Int) ≥ (0 : Int))) || !x9 && decide
    (besF d.wide d.high (↑c : Int) (3 : Int) ≥ (0 : Int))) (Tree.need (!(!x9 && decide (besF d.wide d.high (↑c : Int) (3 : Int) ≥ (0 : Int))) || !x9 && decide (besF d.wide d.high (↑c :
    Int) (3 : Int) ≥ (0 : Int))) (Tree.need (!(!x9 && decide (besF d.wide d.high (↑c : Int) (3 : Int) ≥ (0 : Int))) || decide ((0 : Int) ≤ besF d.wide d.high (↑c : Int) (3 : Int) ∧ besF
    d.wide d.high (↑c : Int) (3 : Int) < (↑d.ps.n : Int)) && decide (d.ps.n ≤ d.ps.n) && (!x9 && decide (besF d.wide d.high (↑c : Int) (3 : Int) ≥ (0 : Int)) && (!x9 && decide (besF
    d.wide d.high (↑c : Int) (3 : Int) ≥ (0 : Int))))) (Tree.need (!(!x9 && decide (besF d.wide d.high (↑c : Int) (3 : Int) ≥ (0 : Int))) || !x9 && decide (besF d.wide d.high (↑c : Int)
    (3 : Int) ≥ (0 : Int))) (Tree.need (!(!x9 && decide (besF d.wide d.high (↑c : Int) (3 : Int) ≥ (0 : Int))) || !x9 && decide (besF d.wide d.high (↑c : Int) (3 : Int) ≥ (0 : Int)) &&
    (!x9 && decide (besF d.wide d.high (↑c : Int) (3 : Int) ≥ (0 : Int)))) (Tree.need (!(!x9 && decide (besF d.wide d.high (↑c : Int) (3 : Int) ≥ (0 : Int))) || decide ((besF d.wide
    d.high (↑c : Int) (3 : Int)).toNat < d.ps.n) && (!x9 && decide (besF d.wide d.high (↑c : Int) (3 : Int) ≥ (0 : Int)))) (Tree.need (!(!x9 && decide (besF d.wide d.high (↑c : Int) (3
    : Int) ≥ (0 : Int))) || decide (d.ps.n ≤ d.ps.n) && (true && (true && true)) && decide (d.ps.n ≤ (1000 : Nat)) && (!x9 && decide (besF d.wide d.high (↑c : Int) (3 : Int) ≥ (0 :
    Int)) && (!x9 && decide (besF d.wide d.high (↑c : Int) (3 : Int) ≥ (0 : Int)) && (!x9 && decide (besF d.wide d.high (↑c : Int) (3 : Int) ≥ (0 : Int)))))) (Tree.need (!(!x9 && decide
    (besF d.wide d.high (↑c : Int) (3 : Int) ≥ (0 : Int))) || !x9 && decide (besF d.wide d.high (↑c : Int) (3 : Int) ≥ (0 : Int))) (Tree.need (!!x9 || !x9 && (!decide (besF d.wide
    d.high (↑c : Int) (3 : Int) ≥ (0 : Int)) || !x9 && decide (besF d.wide d.high (↑c : Int) (3 : Int) ≥ (0 : Int)))) (Tree.bnd (decide (besF d.wide d.high (↑c : Int) (3 : Int) ≥ (0 :
    Int)) && (FitF d.play (d.ps.get c).left (d.ps.get (besF d.wide d.high (↑c : Int) (3 : Int)).toNat).right).1 != (2 : Int)) (fun (x10 : Bool) => Tree.need (x9 || !x9) (Tree.bnd (x9 ||
    x10) (fun (x11 : Bool) => Tree.br (x11) (Tree.leaf (AV.tup [AV.nili, AV.ptr (64 : Nat) (0 : Nat) (0 : Nat), AV.int false IntKind.i64 (↑c : Int), AV.int true IntKind.i64 (3 : Int),
    AV.int true IntKind.i64 (0 : Int)]) ([])) (Tree.leaf (AV.tup [AV.nilp, AV.ptr (64 : Nat) (0 : Nat) (0 : Nat), AV.ptr (8 : Nat) (0 : Nat) (0 : Nat), AV.int false IntKind.i64
    (IntKind.i64.wrap ((↑c : Int) + (1 : Int)))]) ([((8 : Nat), Blk.cells (0 : Nat) (28 : Nat) [AV.int false IntKind.i64 d.play.length, AV.int false IntKind.i64 d.play.slack, AV.int
    false IntKind.i64 d.play.loose, AV.int false IntKind.i64 d.play.damp.lo, AV.int false IntKind.i64 d.play.damp.hi, AV.int false IntKind.i64 d.wide, AV.int false IntKind.i64 d.high,
    AV.bool false d.turn, AV.slz (0 : Nat) (0 : Nat) d.ps.n (Cap.of (0 : Nat))]), ((0 : Nat), Blk.frz [CK.int IntKind.i64, CK.int IntKind.i64, CK.int IntKind.i64, CK.int IntKind.i64,
    CK.int IntKind.i64, CK.int IntKind.i64, CK.int IntKind.i64, CK.int IntKind.i64, CK.int IntKind.i64, CK.int IntKind.i64, CK.int IntKind.i64, CK.int IntKind.i64, CK.int IntKind.i64,
    CK.int IntKind.i64, CK.int IntKind.i64, CK.int IntKind.i64, CK.int IntKind.i64, CK.int IntKind.i64, CK.int IntKind.i64, CK.int IntKind.i64, CK.int IntKind.i64, CK.int IntKind.i64,
    CK.int IntKind.i64, CK.int IntKind.i64, CK.int IntKind.i64, CK.int IntKind.i64, CK.int IntKind.i64, CK.int IntKind.i64] d.ps.n fun i => RowT.enc (d.ps.get
    i))])))))))))))))))))))))))))))))))))))))))))))))))))))))))))))))))))))))))))))))))))))))))))))))) (Tree.leaf (AV.tup [AV.ptr (0 : Nat) (0 : Nat) (0 : Nat), AV.ptr (64 : Nat) (0 :
    Nat) (0 : Nat)]) ([])) := by kernel_rfl
def rckRet (c s : Nat) : JSt := ⟨64, [(2, .int false .i64 c), (3, .int false .i64 s), (4, .int false .i64 0)], [], 96⟩
def rckEnd : JSt := ⟨64, [], [], 96⟩
set_option maxRecDepth 100000 in
theorem rck_r0 (c c' s' : Nat) : subE 8 [AV.int false IntKind.i64 (↑c : Int), AV.int true IntKind.i64 (0 : Int), AV.int true IntKind.i64 (0 : Int)] ([]) (rckRet c' s') = (
    some [(↑c : Int) = (↑c' : Int), (0 : Int) = (↑s' : Int), (0 : Int) = (0 : Int)]) := by kernel_rfl
set_option maxRecDepth 100000 in
theorem rck_r1 (c c' s' : Nat) : subE 8 [AV.int false IntKind.i64 (↑c : Int), AV.int true IntKind.i64 (1 : Int), AV.int true IntKind.i64 (0 : Int)] ([]) (rckRet c' s') = (
    some [(↑c : Int) = (↑c' : Int), (1 : Int) = (↑s' : Int), (0 : Int) = (0 : Int)]) := by kernel_rfl
set_option maxRecDepth 100000 in
theorem rck_r2 (c c' s' : Nat) : subE 8 [AV.int false IntKind.i64 (↑c : Int), AV.int true IntKind.i64 (2 : Int), AV.int true IntKind.i64 (0 : Int)] ([]) (rckRet c' s') = (
    some [(↑c : Int) = (↑c' : Int), (2 : Int) = (↑s' : Int), (0 : Int) = (0 : Int)]) := by kernel_rfl
set_option maxRecDepth 100000 in
theorem rck_r3 (c c' s' : Nat) : subE 8 [AV.int false IntKind.i64 (↑c : Int), AV.int true IntKind.i64 (3 : Int), AV.int true IntKind.i64 (0 : Int)] ([]) (rckRet c' s') = (
    some [(↑c : Int) = (↑c' : Int), (3 : Int) = (↑s' : Int), (0 : Int) = (0 : Int)]) := by kernel_rfl
set_option maxRecDepth 100000 in
theorem rck_go (d : Puz) (c c' : Nat) : subE 8 [AV.ptr (8 : Nat) (0 : Nat) (0 : Nat), AV.int false IntKind.i64 (IntKind.i64.wrap ((↑c : Int) + (1 : Int)))] ([((8 : Nat), Blk.cells (0 : Nat) (28 : Nat) [AV.int false IntKind.i64 d.play.length, AV.int false IntKind.i64 d.play.slack, AV.int false IntKind.i64 d.play.loose, AV.int false IntKind.i64 d.play.damp.lo, AV.int false IntKind.i64 d.play.damp.hi, AV.int false IntKind.i64 d.wide, AV.int false IntKind.i64 d.high, AV.bool false d.turn, AV.slz (0 : Nat) (0 : Nat) d.ps.n (Cap.of (0 : Nat))]), ((0 : Nat), Blk.frz [CK.int IntKind.i64, CK.int IntKind.i64, CK.int IntKind.i64, CK.int IntKind.i64, CK.int IntKind.i64, CK.int IntKind.i64, CK.int IntKind.i64, CK.int IntKind.i64, CK.int IntKind.i64, CK.int IntKind.i64, CK.int IntKind.i64, CK.int IntKind.i64, CK.int IntKind.i64, CK.int IntKind.i64, CK.int IntKind.i64, CK.int IntKind.i64, CK.int IntKind.i64, CK.int IntKind.i64, CK.int IntKind.i64, CK.int IntKind.i64, CK.int IntKind.i64, CK.int IntKind.i64, CK.int IntKind.i64, CK.int IntKind.i64, CK.int IntKind.i64, CK.int IntKind.i64, CK.int IntKind.i64, CK.int IntKind.i64] d.ps.n fun i => RowT.enc (d.ps.get i))]) (rckJ d c') = (
    some [(0 : Nat) = (0 : Nat), (0 : Nat) = (0 : Nat), IntKind.i64.wrap ((↑c : Int) + (1 : Int)) = (↑c' : Int), d.play.length = d.play.length, d.play.slack = d.play.slack, d.play.loose
    = d.play.loose, d.play.damp.lo = d.play.damp.lo, d.play.damp.hi = d.play.damp.hi, d.wide = d.wide, d.high = d.high, d.turn = d.turn, (0 : Nat) = (0 : Nat), d.ps.n = d.ps.n, Cap.of
    (0 : Nat) = Cap.of (0 : Nat), d.ps.n ≤ d.ps.n, RowsEq (28 : Nat) d.ps.n (fun i => RowT.enc (d.ps.get i)) fun i => RowT.enc (d.ps.get i)]) := by kernel_rfl
set_option maxRecDepth 100000 in
theorem rck_end  : subE 8 [] ([]) rckEnd = (
    some []) := by kernel_rfl
end Go.Proofs.Ytbpffdkemeoajaa
/- The reference: Check, its contract (layer 7). -/
namespace Go.SX
open Go Go.RowKit Go.Proofs.Ytbpffdkemeoajaa
theorem rside_den {Q : AV → List (Nat × Blk) → Prop} {A1 A2 A3 s t i i2 m m2 p f b : Bool} {L K : Tree} (h1 : A1 = true) (h2 : A2 = true) (h3 : A3 = true) (hm : m = true) (hm2 : m2 = true) (ht : t = !s) (hi : s = false → i = true) (hi2 : s = false → i2 = true) (hb : b = cond s p f) (hL : b = true → L.den Q) (hK : b = false → K.den Q) :
    (Tree.need (A1) (Tree.need (A2) (Tree.need (A3) (Tree.need (!s || s) (Tree.need (!s || s) (Tree.need (!s || s) (Tree.bnd (s && p) (fun (x0 : Bool) => Tree.need (!!x0 || !x0) (Tree.need (!!x0 || !x0) (Tree.need (!(!x0 && t) || !x0 && t) (Tree.need (!(!x0 && t) || !x0 && t) (Tree.need (!(!x0 && t) || !x0 && t) (Tree.need (!(!x0 && t) || i && m && (!x0 && t && (!x0 && t))) (Tree.need (!(!x0 && t) || !x0 && t) (Tree.need (!(!x0 && t) || !x0 && t && (!x0 && t)) (Tree.need (!(!x0 && t) || i2 && (!x0 && t)) (Tree.need (!(!x0 && t) || m && (true && (true && true)) && m2 && (!x0 && t && (!x0 && t && (!x0 && t)))) (Tree.need (!(!x0 && t) || !x0 && t) (Tree.need (!!x0 || !x0 && (!t || !x0 && t)) (Tree.bnd (t && f) (fun (x1 : Bool) => Tree.need (x0 || !x0) (Tree.bnd (x0 || x1) (fun (x2 : Bool) => Tree.br x2 L K))))))))))))))))))))))).den Q := by
  subst h1 h2 h3 hm hm2 ht hb
  cases s
  · have e1 := hi rfl
    have e2 := hi2 rfl
    subst e1 e2
    cases p <;> cases f <;> (
      repeat (first | refine den_need rfl ?_ | (refine den_bnd fun x hx => ?_; subst hx))
      first | exact den_br (fun _ => hL rfl) (fun h => absurd h (by decide)) | exact den_br (fun h => absurd h (by decide)) (fun _ => hK rfl))
  · cases p <;> cases f <;> (
      repeat (first | refine den_need rfl ?_ | (refine den_bnd fun x hx => ?_; subst hx))
      first | exact den_br (fun _ => hL rfl) (fun h => absurd h (by decide)) | exact den_br (fun h => absurd h (by decide)) (fun _ => hK rfl))
end Go.SX
namespace Go.Proofs.Ytbpffdkemeoajaa
open Go.SX
theorem badSd_eq (d : Puz) (c s : Nat) (h : besF d.wide d.high c s = -1 ∨ 0 ≤ besF d.wide d.high c s) : badSd d c s = cond (decide (besF d.wide d.high c s < 0)) ((edgeI (d.ps.get c) s).kind != 0) ((FitF d.play (edgeI (d.ps.get c) s) (edgeI (d.ps.get (besF d.wide d.high c s).toNat) ((s + 2) % 4))).1 != 2) := by
  unfold badSd
  rcases h with h | h
  · rw [h]; rfl
  · have e1 : (besF d.wide d.high c s == -1) = false := by simp; omega
    have e2 : decide (besF d.wide d.high c s < 0) = false := by simp; omega
    rw [e1, e2]
def rckR (d : Puz) (c : Nat) (e : Ex) (J : JSt) : Prop := (∃ i, e = .ret ∧ firstN (chkQ d) (4 * (d.ps.n - c)) (4 * c) = some i ∧ J = rckRet (i / 4) (i % 4)) ∨ (e = .exit 0 ∧ firstN (chkQ d) (4 * (d.ps.n - c)) (4 * c) = none ∧ J = rckEnd)
set_option maxRecDepth 100000 in
theorem rck_round (d : Puz) (hd : DrawB d) : RoundW (rckJ d) (fun c => c ≤ d.ps.n) (fun c => d.ps.n - c) (rckR d) 8 rckLs [] (mkS Try.prog tab_rpz) (fun _ => hnd (mkS Try.prog tab_rpz) 6) (bodyK Try.f14 0) := by
  refine ⟨fun c g hk => denOk_of (rck_r d c g) ?_⟩
  have n9 := hd.n9
  refine den_br (fun h => ?_) (fun h => ?_)
  · have h : c < d.ps.n := by have := of_decide_eq_true h; omega
    have hw := hd.w1
    have hwn := hd.wn
    have hh := hd.h1
    have hhn := hd.hn
    have h1 : (decide ((0 : Int) ≤ (c : Int) ∧ (c : Int) < (d.ps.n : Int)) && decide (d.ps.n ≤ d.ps.n)) = true := by simp; omega
    have h2 : decide (c < d.ps.n) = true := by simp; omega
    have h3 : (decide (d.ps.n ≤ d.ps.n) && (true && (true && true)) && decide (((1 : Int) ≤ d.wide ∧ d.wide ≤ (100 : Int)) ∧ ((1 : Int) ≤ d.high ∧ d.high ≤ (100 : Int)) ∧ (0 : Int) ≤ (c : Int) ∧ (c : Int) ≤ (100 : Int))) = true := by
      simp only [Nat.le_refl, decide_true, Bool.true_and, decide_eq_true_eq]; omega
    have h4 : decide (d.ps.n ≤ d.ps.n) = true := by simp
    have h5 : decide (d.ps.n ≤ 1000) = true := by simp; omega
    have hz : ∀ s : Nat, besF d.wide d.high c s = -1 ∨ 0 ≤ besF d.wide d.high c s ∧ besF d.wide d.high c s < d.ps.n := fun s => by
      cases hb : (besF d.wide d.high c s == -1) with
      | true => exact .inl (by simpa using hb)
      | false => exact .inr (besF_in hd h hb)
    have hz' : ∀ s : Nat, besF d.wide d.high c s = -1 ∨ 0 ≤ besF d.wide d.high c s := fun s => (hz s).imp id And.left
    have h6 : ∀ s : Nat, decide (besF d.wide d.high c s ≥ 0) = !decide (besF d.wide d.high c s < 0) := fun s => by
      rw [Bool.eq_iff_iff]; simp
    have h7 : ∀ s : Nat, decide (besF d.wide d.high c s < 0) = false → decide (0 ≤ besF d.wide d.high c s ∧ besF d.wide d.high c s < (d.ps.n : Int)) = true := fun s hs => by
      have := hz s; simp only [decide_eq_false_iff_not, decide_eq_true_eq] at hs ⊢; omega
    have h8 : ∀ s : Nat, decide (besF d.wide d.high c s < 0) = false → decide ((besF d.wide d.high c s).toNat < d.ps.n) = true := fun s hs => by
      have := hz s; simp only [decide_eq_false_iff_not, decide_eq_true_eq] at hs ⊢; omega
    obtain ⟨m, hm⟩ : ∃ m, 4 * (d.ps.n - c) = m + 1 + 1 + 1 + 1 := ⟨4 * (d.ps.n - c) - 4, by omega⟩
    have hm' : 4 * (d.ps.n - (c + 1)) = m := by omega
    have q0 : chkQ d (4 * c) = badSd d c 0 := by unfold chkQ; rw [show 4 * c / 4 = c by omega, show 4 * c % 4 = 0 by omega]
    have q1 : chkQ d (4 * c + 1) = badSd d c 1 := by unfold chkQ; rw [show (4 * c + 1) / 4 = c by omega, show (4 * c + 1) % 4 = 1 by omega]
    have q2 : chkQ d (4 * c + 1 + 1) = badSd d c 2 := by unfold chkQ; rw [show (4 * c + 1 + 1) / 4 = c by omega, show (4 * c + 1 + 1) % 4 = 2 by omega]
    have q3 : chkQ d (4 * c + 1 + 1 + 1) = badSd d c 3 := by unfold chkQ; rw [show (4 * c + 1 + 1 + 1) / 4 = c by omega, show (4 * c + 1 + 1 + 1) % 4 = 3 by omega]
    refine rside_den h1 h2 h3 h4 h5 (h6 0) (h7 0) (h8 0) (badSd_eq d c 0 (hz' 0)) (fun b0 => ?_) (fun b0 => ?_)
    · refine ⟨_, .inl ⟨4 * c, rfl, by rw [hm, firstN, q0, b0], rfl⟩, rfl, rfl, _, rck_r0 c _ _, ?_⟩
      exact ⟨by omega, by omega, rfl, trivial⟩
    refine rside_den h1 h2 h3 h4 h5 (h6 1) (h7 1) (h8 1) (badSd_eq d c 1 (hz' 1)) (fun b1 => ?_) (fun b1 => ?_)
    · refine ⟨_, .inl ⟨4 * c + 1, rfl, by rw [hm, firstN, q0, b0, firstN, q1, b1], rfl⟩, rfl, rfl, _, rck_r1 c _ _, ?_⟩
      exact ⟨by omega, by omega, rfl, trivial⟩
    refine rside_den h1 h2 h3 h4 h5 (h6 2) (h7 2) (h8 2) (badSd_eq d c 2 (hz' 2)) (fun b2 => ?_) (fun b2 => ?_)
    · refine ⟨_, .inl ⟨4 * c + 1 + 1, rfl, by rw [hm, firstN, q0, b0, firstN, q1, b1, firstN, q2, b2], rfl⟩, rfl, rfl, _, rck_r2 c _ _, ?_⟩
      exact ⟨by omega, by omega, rfl, trivial⟩
    refine rside_den h1 h2 h3 h4 h5 (h6 3) (h7 3) (h8 3) (badSd_eq d c 3 (hz' 3)) (fun b3 => ?_) (fun b3 => ?_)
    · refine ⟨_, .inl ⟨4 * c + 1 + 1 + 1, rfl, by rw [hm, firstN, q0, b0, firstN, q1, b1, firstN, q2, b2, firstN, q3, b3], rfl⟩, rfl, rfl, _, rck_r3 c _ _, ?_⟩
      exact ⟨by omega, by omega, rfl, trivial⟩
    have hf : firstN (chkQ d) (4 * (d.ps.n - c)) (4 * c) = firstN (chkQ d) (4 * (d.ps.n - (c + 1))) (4 * (c + 1)) := by
      rw [hm, hm', firstN, q0, b0, firstN, q1, b1, firstN, q2, b2, firstN, q3, b3, show 4 * (c + 1) = 4 * c + 1 + 1 + 1 + 1 by omega]
    refine ⟨c + 1, h, by show d.ps.n - (c + 1) < d.ps.n - c; omega, fun e J h => by unfold rckR at h ⊢; rw [hf]; exact h, rfl, rfl, _, rck_go d c (c + 1), ?_⟩
    have hw : IntKind.i64.wrap ((c : Int) + 1) = ((c + 1 : Nat) : Int) := (w64 (by omega) (by omega)).trans (by omega)
    repeat' first | exact trivial | with_reducible rfl | exact Nat.le_refl _ | exact hw | exact RowsEq.refl _ _ _ | refine And.intro ?_ ?_
  · have h : d.ps.n ≤ c := by have := of_decide_eq_false h; omega
    exact ⟨_, .inr ⟨rfl, by rw [show 4 * (d.ps.n - c) = 0 by omega]; rfl, rfl⟩, rfl, rfl, _, rck_end, trivial⟩
def rckX (d : Puz) : List (Prop × Ex × JSt) := [((chkO d).isSome = true, .ret, rckRet (chkI d / 4) (chkI d % 4)), (chkO d = none, .exit 0, rckEnd)]
abbrev rckH (P : Program) (d : Puz) : Hnd := { hnd (mkS P tab_rpz) 1 with loop := fun _ => askH (DrawB d) (loopT 8 [] (rckJ d (0 : Nat)) (rckX d)) }
theorem rck_hnd (d : Puz) (G : Ctx) (hrd : G.rd = none) (hG : G.n = 8) : HndOk (mkS Try.prog tab_rpz) G (rckH Try.prog d) (bodyOf Try.f14) := by
  refine one_loop (body := bodyK Try.f14 0) (mkS_ok tab_rpz_ok) hrd (by kernel_rfl) ?_
  refine askH_ok fun hd => ?_
  refine loopT_ok (n0 := 8) (mkS_ok tab_rpz_ok) (by omega) (fun s hs => hnd_hndOk (mkS_ok tab_rpz_ok) 6 G _ hrd) (fun s hs => (by decide : 8 ≤ 96)) ?_ (rck_round d hd) (s0 := 0) (Nat.zero_le _) ?_
  · rintro s e J (⟨_, _, _, rfl⟩ | ⟨_, _, rfl⟩) <;> exact (by decide : 8 ≤ 96)
  · rintro e J (⟨i, rfl, h, rfl⟩ | ⟨rfl, h, rfl⟩)
    · have h : chkO d = some i := h
      refine ⟨_, List.mem_cons_self, by simp only [h]; rfl, rfl, ?_⟩
      simp only [chkI, h]; rfl
    · exact ⟨_, List.mem_cons_of_mem _ List.mem_cons_self, h, rfl, rfl⟩
def rckF : WF (Puz × Unit) := fun | (d, _) => (decide (d.ps.n ≤ 1000), .tup [.int false .i64 (chkV d).1, .int false .i64 (chkV d).2.1, .int false .i64 (chkV d).2.2], [])
def rckC : FC := wFC rckF
set_option maxRecDepth 100000 in
theorem rck_t (d : Puz) : execW (mkS Try.prog tab_rpz) (rckH Try.prog d) Try.f14 (ArgsE.vals 0 ((d, ()) : Puz × Unit)) (ArgsE.blks 0 ((d, ()) : Puz × Unit)) 8 =
    Tree.need (decide (d.ps.n ≤ d.ps.n) && true && decide (d.ps.n ≤ (1000 : Nat))) (Tree.br (!d.ok) (Tree.leaf (AV.tup [AV.int true IntKind.i64 (0 : Int), AV.int true IntKind.i64 (0 :
    Int), AV.int true IntKind.i64 (1 : Int)]) ([])) (Tree.ask (DrawB d) (Tree.ask ((0 : Nat) = (0 : Nat)) (Tree.ask ((0 : Nat) = (0 : Nat)) (Tree.ask ((0 : Int) = (0 : Int)) (Tree.ask
    (d.play.length = d.play.length) (Tree.ask (d.play.slack = d.play.slack) (Tree.ask (d.play.loose = d.play.loose) (Tree.ask (d.play.damp.lo = d.play.damp.lo) (Tree.ask (d.play.damp.hi
    = d.play.damp.hi) (Tree.ask (d.wide = d.wide) (Tree.ask (d.high = d.high) (Tree.ask (d.turn = d.turn) (Tree.ask ((0 : Nat) = (0 : Nat)) (Tree.ask (d.ps.n = d.ps.n) (Tree.ask (Cap.of
    (0 : Nat) = Cap.of (0 : Nat)) (Tree.ask (d.ps.n ≤ d.ps.n) (Tree.ask (RowsEq (28 : Nat) d.ps.n (fun i => RowT.enc (d.ps.get i)) fun i => RowT.enc (d.ps.get i)) (Tree.both (Tree.asm
    ((chkO d).isSome = true) (Tree.all (fun (g0 : Nat → Value) => Tree.leaf (AV.tup [AV.int false IntKind.i64 (↑(chkI d / (4 : Nat)) : Int), AV.int false IntKind.i64 (↑(chkI d % (4 :
    Nat)) : Int), AV.int false IntKind.i64 (0 : Int)]) ([])))) (Tree.asm (chkO d = none) (Tree.all (fun (g1 : Nat → Value) => Tree.leaf (AV.tup [AV.int true IntKind.i64 (0 : Int),
    AV.int true IntKind.i64 (0 : Int), AV.int true IntKind.i64 (4 : Int)]) ([]))))))))))))))))))))))) := by kernel_rfl
theorem rck_hs : WHnd (mkS Try.prog tab_rpz) (bodyOf Try.f14) 8 rckF (fun x_ => (rckH Try.prog x_.1)) := by
  refine ⟨?_⟩
  rintro ⟨d, ⟨⟩⟩ hp G h1 h2
  exact rck_hnd d G h1 h2
theorem rck_run : WRun (mkS Try.prog tab_rpz) Try.f14 8 rckF (fun x_ => (rckH Try.prog x_.1)) := by
  refine ⟨?_⟩
  rintro ⟨d, ⟨⟩⟩ hp
  refine ⟨⟨rfl, by simp [rckF], rfl⟩, ⟨?_⟩⟩
  rw [rck_t d]
  simp only [rckF] at hp
  refine den_need (by simpa using hp) (den_br (fun h => endOk_same ?_ rfl) (fun h => ?_))
  · have h : d.ok = false := by simpa using h
    simp only [rckF, chkV, h]; exact ⟨⟨rfl, rfl⟩, ⟨rfl, rfl⟩, ⟨rfl, rfl⟩, trivial⟩
  · have h : d.ok = true := by simpa using h
    refine den_ask (drawB_of h) ?_
    repeat' first | refine den_ask (show _ = _ by with_reducible rfl) ?_ | refine den_ask (show _ ≤ _ from Nat.le_refl _) ?_ | refine den_ask (show RowsEq _ _ _ _ from RowsEq.refl _ _ _) ?_
    refine den_both (den_asm fun ho => den_all fun g => ?_) (den_asm fun ho => den_all fun g => ?_)
    · obtain ⟨i, hi⟩ := Option.isSome_iff_exists.1 ho
      exact endOk_same (by simp only [rckF, chkV, chkI, h, hi]; exact ⟨⟨rfl, rfl⟩, ⟨rfl, rfl⟩, ⟨rfl, rfl⟩, trivial⟩) rfl
    · exact endOk_same (by simp only [rckF, chkV, h, ho]; exact ⟨⟨rfl, rfl⟩, ⟨rfl, rfl⟩, ⟨rfl, rfl⟩, trivial⟩) rfl
theorem rck_s : FSound Try.prog 14 rckC :=
  fn_W (mkS_ok tab_rpz_ok) Try.func14 (by kernel_rfl) (by kernel_rfl) (by decide) rck_hs rck_run
def tab_rck : Tab := addF tab_rpz 14 rckC
theorem tab_rck_ok : TabOk tab_rck := tab_rpz_ok.add rck_s
end Go.Proofs.Ytbpffdkemeoajaa
