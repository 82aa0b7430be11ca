/- The law FitTrue, of the code. -/
import Derived.Test.YtdaanchagjamfaaTo
import Derived.Test.YtdaanchagjamfaaPe
namespace Go.Proofs.Ytdaanchagjamfaa
open Go.SX

/-- The drawer's block, and that of the numbers it draws from. -/
def ofSel : List AV → List Nat
  | [.ptr id _ _, _] => [id, 0]
  | _ => []
/-- What the drawer draws: gone into. -/
def ofC (P : Program) (C : Tab) : FC := match P.funcs[39]? with
  | some fn => fun args nid _ => callC true (mkE P C) (hnd (mkE P C) 4) fn args nid (ofSel args)
  | none => fun _ _ _ => noV
def tabT (P : Program) : Tab := addF tab_lawSpan 39 (ofC P tab_lawSpan)
set_option maxRecDepth 100000 in
theorem tabT_ok : TabOk (tabT Try.prog) := by
  refine tab_lawSpan_ok.add ?_
  have h := callC_ok (rw_ := true) (E := mkE Try.prog tab_lawSpan) (mkE_ok tab_lawSpan_ok) (H := hnd (mkE Try.prog tab_lawSpan) 4) Try.func39 (c := bodyOf Try.f39) (by kernel_rfl) (by kernel_rfl) fun G hG => hnd_hndOk (mkE_ok tab_lawSpan_ok) 4 G _ hG
  unfold ofC
  rw [Try.func39]
  exact ⟨h.1, fun args nid _ => h.2 args nid (ofSel args)⟩
set_option maxRecDepth 100000 in
theorem fitTrue_n (p : Play) (a b : Edge) (w : Sp) (k : Int) : execFn (mkB Try.prog (tabT Try.prog) [39]) (hnd (mkB Try.prog (tabT Try.prog) [39]) 8) false Try.f7 [Enc.enc p, Enc.enc a, Enc.enc b, Enc.enc w, .int false .i64 k, .nils] [] 0 =
    Tree.leaf (AV.bool true true) [] := by kernel_rfl
set_option maxRecDepth 100000 in
theorem fitTrue_t (p : Play) (a b : Edge) (w : Sp) (k : Int) (n : Nat) (g : Nat → Int) : execFn (mkB Try.prog (tabT Try.prog) [39]) (hnd (mkB Try.prog (tabT Try.prog) [39]) 8) false Try.f7 [Enc.enc p, Enc.enc a, Enc.enc b, Enc.enc w, .int false .i64 k, .slice false 0 0 n (.of 0)] [(0, .arr 1 n fun i => [.int false .u16 (g i)])] 1 =
    Tree.need (!!↑n == (0 : Int) || true && !↑n == (0 : Int)) (Tree.need (!!↑n == (0 : Int) || !↑n == (0 : Int)) (Tree.need (↑n == (0 : Int) || !↑n == (0 : Int)) (Tree.bnd (↑n == (0 :
    Int) || !p.ok) fun x0 => Tree.need (!!x0 || true && !x0) (Tree.need (!!x0 || !x0) (Tree.need (x0 || !x0) (Tree.bnd (x0 || !a.ok) fun x1 => Tree.need (!!x1 || true && !x1) (Tree.need
    (!!x1 || !x1) (Tree.need (x1 || !x1) (Tree.bnd (x1 || !b.ok) fun x2 => Tree.br x2 (Tree.leaf (AV.bool true true) []) (Tree.need true (Tree.need true (Tree.need (!a.kind == (1 : Int)
    || a.kind == (1 : Int)) (Tree.need (!a.kind == (1 : Int) || a.kind == (1 : Int)) (Tree.need (!a.kind == (1 : Int) || a.kind == (1 : Int)) (Tree.bnd (a.kind == (1 : Int) && b.kind ==
    (2 : Int)) fun x3 => Tree.br x3 (Tree.need (!!(FitF p a b).2 != (0 : Int) || !(FitF p a b).2 != (0 : Int)) (Tree.need (!!(FitF p a b).2 != (0 : Int) || !(FitF p a b).2 != (0 : Int)
    && !(FitF p a b).2 != (0 : Int)) (Tree.need ((FitF p a b).2 != (0 : Int) || !(FitF p a b).2 != (0 : Int)) (Tree.bnd ((FitF p a b).2 != (0 : Int) || !((BetweenF p a b).2 == (0 :
    Int)) == true) fun x4 => Tree.br x4 (Tree.leaf (AV.bool true false) []) (Tree.need (!decide (↑n = (0 : Int)) && (decide ((0 : Int) ≤ Int.tmod (1 : Int) ↑n ∧ Int.tmod (1 : Int) ↑n <
    ↑n) && (decide ((0 : Nat) + (Int.tmod (1 : Int) ↑n).toNat < n) && (!decide (IntKind.i64.wrap (IntKind.i64.wrap (p.damp.hi - p.damp.lo) + (1 : Int)) = (0 : Int)) && true))))
    (Tree.bndI (IntKind.i64.wrap (p.damp.lo + (IntKind.i64.wrap (IntKind.u16.wrap (g ((0 : Nat) + ((IntKind.i64.wrap ((0 : Int) + (1 : Int))).tmod ↑n).toNat) + (1 : Int)))).tmod
    (IntKind.i64.wrap (IntKind.i64.wrap (p.damp.hi - p.damp.lo) + (1 : Int))))) fun y5 => Tree.need (!decide (↑n = (0 : Int)) && (decide ((0 : Int) ≤ Int.tmod (2 : Int) ↑n ∧ Int.tmod (2
    : Int) ↑n < ↑n) && (decide ((0 : Nat) + (Int.tmod (2 : Int) ↑n).toNat < n) && (!decide (IntKind.i64.wrap (IntKind.i64.wrap (a.at_.hi - a.at_.lo) + (1 : Int)) = (0 : Int)) &&
    true)))) (Tree.bndI (IntKind.i64.wrap (a.at_.lo + (IntKind.i64.wrap (IntKind.u16.wrap (g ((0 : Nat) + ((IntKind.i64.wrap (IntKind.i64.wrap ((0 : Int) + (1 : Int)) + (1 : Int))).tmod
    ↑n).toNat) + (2 : Int)))).tmod (IntKind.i64.wrap (IntKind.i64.wrap (a.at_.hi - a.at_.lo) + (1 : Int))))) fun y6 => Tree.need (!decide (↑n = (0 : Int)) && (decide ((0 : Int) ≤
    Int.tmod (3 : Int) ↑n ∧ Int.tmod (3 : Int) ↑n < ↑n) && (decide ((0 : Nat) + (Int.tmod (3 : Int) ↑n).toNat < n) && (!decide (IntKind.i64.wrap (IntKind.i64.wrap (b.at_.hi - b.at_.lo)
    + (1 : Int)) = (0 : Int)) && true)))) (Tree.bndI (IntKind.i64.wrap (b.at_.lo + (IntKind.i64.wrap (IntKind.u16.wrap (g ((0 : Nat) + ((IntKind.i64.wrap (IntKind.i64.wrap
    (IntKind.i64.wrap ((0 : Int) + (1 : Int)) + (1 : Int)) + (1 : Int))).tmod ↑n).toNat) + (3 : Int)))).tmod (IntKind.i64.wrap (IntKind.i64.wrap (b.at_.hi - b.at_.lo) + (1 : Int)))))
    fun y7 => Tree.bndI (IntKind.i64.wrap (IntKind.i64.wrap (IntKind.i64.wrap (y6 + y7) - p.length) * IntKind.i64.wrap ((1000 : Int) + y5))) fun y8 => Tree.need (!decide (↑n = (0 :
    Int)) && (decide ((0 : Int) ≤ Int.tmod (4 : Int) ↑n ∧ Int.tmod (4 : Int) ↑n < ↑n) && (decide ((0 : Nat) + (Int.tmod (4 : Int) ↑n).toNat < n) && (!decide (IntKind.i64.wrap
    (IntKind.i64.wrap (b.wide.hi - b.wide.lo) + (1 : Int)) = (0 : Int)) && true)))) (Tree.bndI (IntKind.i64.wrap (b.wide.lo + (IntKind.i64.wrap (IntKind.u16.wrap (g ((0 : Nat) +
    ((IntKind.i64.wrap (IntKind.i64.wrap (IntKind.i64.wrap (IntKind.i64.wrap ((0 : Int) + (1 : Int)) + (1 : Int)) + (1 : Int)) + (1 : Int))).tmod ↑n).toNat) + (4 : Int)))).tmod
    (IntKind.i64.wrap (IntKind.i64.wrap (b.wide.hi - b.wide.lo) + (1 : Int))))) fun y9 => Tree.need (!decide (↑n = (0 : Int)) && (decide ((0 : Int) ≤ Int.tmod (5 : Int) ↑n ∧ Int.tmod (5
    : Int) ↑n < ↑n) && (decide ((0 : Nat) + (Int.tmod (5 : Int) ↑n).toNat < n) && (!decide (IntKind.i64.wrap (IntKind.i64.wrap (a.wide.hi - a.wide.lo) + (1 : Int)) = (0 : Int)) &&
    true)))) (Tree.bndI (IntKind.i64.wrap (a.wide.lo + (IntKind.i64.wrap (IntKind.u16.wrap (g ((0 : Nat) + ((IntKind.i64.wrap (IntKind.i64.wrap (IntKind.i64.wrap (IntKind.i64.wrap
    (IntKind.i64.wrap ((0 : Int) + (1 : Int)) + (1 : Int)) + (1 : Int)) + (1 : Int)) + (1 : Int))).tmod ↑n).toNat) + (5 : Int)))).tmod (IntKind.i64.wrap (IntKind.i64.wrap (a.wide.hi -
    a.wide.lo) + (1 : Int))))) fun y10 => Tree.bndI (IntKind.i64.wrap (IntKind.i64.wrap (y9 - y10) * IntKind.i64.wrap ((1000 : Int) + y5))) fun y11 => Tree.need (!decide (↑n = (0 :
    Int)) && (decide ((0 : Int) ≤ Int.tmod (6 : Int) ↑n ∧ Int.tmod (6 : Int) ↑n < ↑n) && (decide ((0 : Nat) + (Int.tmod (6 : Int) ↑n).toNat < n) && (!decide (IntKind.i64.wrap
    (IntKind.i64.wrap (b.deep.hi - b.deep.lo) + (1 : Int)) = (0 : Int)) && true)))) (Tree.bndI (IntKind.i64.wrap (b.deep.lo + (IntKind.i64.wrap (IntKind.u16.wrap (g ((0 : Nat) +
    ((IntKind.i64.wrap (IntKind.i64.wrap (IntKind.i64.wrap (IntKind.i64.wrap (IntKind.i64.wrap (IntKind.i64.wrap ((0 : Int) + (1 : Int)) + (1 : Int)) + (1 : Int)) + (1 : Int)) + (1 :
    Int)) + (1 : Int))).tmod ↑n).toNat) + (6 : Int)))).tmod (IntKind.i64.wrap (IntKind.i64.wrap (b.deep.hi - b.deep.lo) + (1 : Int))))) fun y12 => Tree.need (!decide (↑n = (0 : Int)) &&
    (decide ((0 : Int) ≤ Int.tmod (7 : Int) ↑n ∧ Int.tmod (7 : Int) ↑n < ↑n) && (decide ((0 : Nat) + (Int.tmod (7 : Int) ↑n).toNat < n) && (!decide (IntKind.i64.wrap (IntKind.i64.wrap
    (a.deep.hi - a.deep.lo) + (1 : Int)) = (0 : Int)) && true)))) (Tree.bndI (IntKind.i64.wrap (a.deep.lo + (IntKind.i64.wrap (IntKind.u16.wrap (g ((0 : Nat) + ((IntKind.i64.wrap
    (IntKind.i64.wrap (IntKind.i64.wrap (IntKind.i64.wrap (IntKind.i64.wrap (IntKind.i64.wrap (IntKind.i64.wrap ((0 : Int) + (1 : Int)) + (1 : Int)) + (1 : Int)) + (1 : Int)) + (1 :
    Int)) + (1 : Int)) + (1 : Int))).tmod ↑n).toNat) + (7 : Int)))).tmod (IntKind.i64.wrap (IntKind.i64.wrap (a.deep.hi - a.deep.lo) + (1 : Int))))) fun y13 => Tree.bndI
    (IntKind.i64.wrap (IntKind.i64.wrap (y12 - y13) * IntKind.i64.wrap ((1000 : Int) + y5))) fun y14 => Tree.bndI (IntKind.i64.wrap ((1000 : Int) * p.slack)) fun y15 => Tree.need
    (!decide (y8 ≤ y15) || decide (y8 ≤ y15)) (Tree.need (!decide (y8 ≤ y15) || decide (y8 ≤ y15)) (Tree.need (!decide (y8 ≤ y15) || decide (y8 ≤ y15)) (Tree.need (!decide (y8 ≤ y15) ||
    decide (y8 ≤ y15) && decide (y8 ≤ y15)) (Tree.need (!decide (y8 ≤ y15) || decide (y8 ≤ y15)) (Tree.bnd (decide (y8 ≤ y15) && decide (y8 ≥ IntKind.i64.wrap ((-1000 : Int) *
    p.slack))) fun x16 => Tree.need (!x16 || x16) (Tree.need (!x16 || x16) (Tree.need (!x16 || x16) (Tree.bnd (x16 && decide (y11 ≥ (0 : Int))) fun x17 => Tree.need (!x17 || x17)
    (Tree.need (!x17 || x17) (Tree.need (!x17 || x17) (Tree.need (!x17 || x17 && x17) (Tree.need (!x17 || x17) (Tree.bnd (x17 && decide (y11 ≤ IntKind.i64.wrap ((1000 : Int) *
    p.loose))) fun x18 => Tree.need (!x18 || x18) (Tree.need (!x18 || x18) (Tree.need (!x18 || x18) (Tree.bnd (x18 && decide (y14 ≥ (0 : Int))) fun x19 => Tree.need (!x19 || x19)
    (Tree.need (!x19 || x19) (Tree.need (!x19 || x19) (Tree.need (!x19 || x19 && x19) (Tree.need (!x19 || x19) (Tree.bnd (x19 && decide (y14 ≤ IntKind.i64.wrap ((1000 : Int) *
    p.loose))) fun x20 => Tree.need (!(FitF p a b).1 == (2 : Int) || (FitF p a b).1 == (2 : Int)) (Tree.need (!(FitF p a b).1 == (2 : Int) || (FitF p a b).1 == (2 : Int)) (Tree.bnd
    ((FitF p a b).1 == (2 : Int) && !x20) fun x21 => Tree.need (!!x21 || !x21) (Tree.need (!!x21 || !x21) (Tree.need (!!x21 || !x21 && (!(FitF p a b).1 == (0 : Int) || !x21 && (FitF p a
    b).1 == (0 : Int))) (Tree.bnd ((FitF p a b).1 == (0 : Int) && x20) fun x22 => Tree.need (x21 || !x21) (Tree.bnd (x21 || x22) fun x23 => Tree.need (!!x23 || !x23) (Tree.need (x23 ||
    !x23) (Tree.bnd (x23 || decide ((FitF p a b).1 < (0 : Int))) fun x24 => Tree.need (!!x24 || !x24) (Tree.need (x24 || !x24) (Tree.bnd (x24 || decide ((FitF p a b).1 > (2 : Int))) fun
    x25 => Tree.br x25 (Tree.leaf (AV.bool true false) []) (Tree.bndI (IntKind.i64.wrap ((1000 : Int) * (BetweenF p a b).1.off.lo)) fun y26 => Tree.need (!!decide (y8 < y26) || !decide
    (y8 < y26)) (Tree.need (!!decide (y8 < y26) || !decide (y8 < y26)) (Tree.need (!!decide (y8 < y26) || !decide (y8 < y26)) (Tree.need (!!decide (y8 < y26) || !decide (y8 < y26))
    (Tree.need (!!decide (y8 < y26) || !decide (y8 < y26) && !decide (y8 < y26)) (Tree.need (decide (y8 < y26) || !decide (y8 < y26)) (Tree.bnd (decide (y8 < y26) || decide (y8 >
    IntKind.i64.wrap ((1000 : Int) * (BetweenF p a b).1.off.hi))) fun x27 => Tree.br x27 (Tree.leaf (AV.bool true false) []) (Tree.bndI (IntKind.i64.wrap ((1000 : Int) * (BetweenF p a
    b).1.wide.lo)) fun y28 => Tree.need (!!decide (y11 < y28) || !decide (y11 < y28)) (Tree.need (!!decide (y11 < y28) || !decide (y11 < y28)) (Tree.need (!!decide (y11 < y28) ||
    !decide (y11 < y28)) (Tree.need (!!decide (y11 < y28) || !decide (y11 < y28)) (Tree.need (!!decide (y11 < y28) || !decide (y11 < y28) && !decide (y11 < y28)) (Tree.need (decide (y11
    < y28) || !decide (y11 < y28)) (Tree.bnd (decide (y11 < y28) || decide (y11 > IntKind.i64.wrap ((1000 : Int) * (BetweenF p a b).1.wide.hi))) fun x29 => Tree.br x29 (Tree.leaf
    (AV.bool true false) []) (Tree.bndI (IntKind.i64.wrap ((1000 : Int) * (BetweenF p a b).1.deep.lo)) fun y30 => Tree.need (!!decide (y14 < y30) || !decide (y14 < y30)) (Tree.need
    (!!decide (y14 < y30) || !decide (y14 < y30)) (Tree.need (!!decide (y14 < y30) || !decide (y14 < y30)) (Tree.need (!!decide (y14 < y30) || !decide (y14 < y30)) (Tree.need (!!decide
    (y14 < y30) || !decide (y14 < y30) && !decide (y14 < y30)) (Tree.need (decide (y14 < y30) || !decide (y14 < y30)) (Tree.bnd (decide (y14 < y30) || decide (y14 > IntKind.i64.wrap
    ((1000 : Int) * (BetweenF p a b).1.deep.hi))) fun x31 => Tree.br x31 (Tree.leaf (AV.bool true false) []) (Tree.need true (Tree.br ((WornF a w k).2 != (0 : Int)) (Tree.need (!((WornF
    a w k).1.kind == (0 : Int) && ((WornF a w k).1.at_.lo == (0 : Int) && ((WornF a w k).1.at_.hi == (0 : Int) && true) && ((WornF a w k).1.wide.lo == (0 : Int) && ((WornF a w
    k).1.wide.hi == (0 : Int) && true) && ((WornF a w k).1.deep.lo == (0 : Int) && ((WornF a w k).1.deep.hi == (0 : Int) && true) && true)))) || (WornF a w k).1.kind == (0 : Int) &&
    ((WornF a w k).1.at_.lo == (0 : Int) && ((WornF a w k).1.at_.hi == (0 : Int) && true) && ((WornF a w k).1.wide.lo == (0 : Int) && ((WornF a w k).1.wide.hi == (0 : Int) && true) &&
    ((WornF a w k).1.deep.lo == (0 : Int) && ((WornF a w k).1.deep.hi == (0 : Int) && true) && true)))) (Tree.need (!((WornF a w k).1.kind == (0 : Int) && ((WornF a w k).1.at_.lo == (0
    : Int) && ((WornF a w k).1.at_.hi == (0 : Int) && true) && ((WornF a w k).1.wide.lo == (0 : Int) && ((WornF a w k).1.wide.hi == (0 : Int) && true) && ((WornF a w k).1.deep.lo == (0
    : Int) && ((WornF a w k).1.deep.hi == (0 : Int) && true) && true)))) || (WornF a w k).1.kind == (0 : Int) && ((WornF a w k).1.at_.lo == (0 : Int) && ((WornF a w k).1.at_.hi == (0 :
    Int) && true) && ((WornF a w k).1.wide.lo == (0 : Int) && ((WornF a w k).1.wide.hi == (0 : Int) && true) && ((WornF a w k).1.deep.lo == (0 : Int) && ((WornF a w k).1.deep.hi == (0 :
    Int) && true) && true)))) (Tree.need (!((WornF a w k).1.kind == (0 : Int) && ((WornF a w k).1.at_.lo == (0 : Int) && ((WornF a w k).1.at_.hi == (0 : Int) && true) && ((WornF a w
    k).1.wide.lo == (0 : Int) && ((WornF a w k).1.wide.hi == (0 : Int) && true) && ((WornF a w k).1.deep.lo == (0 : Int) && ((WornF a w k).1.deep.hi == (0 : Int) && true) && true))) &&
    !(WornF a w k).2 == (2 : Int)) || (WornF a w k).1.kind == (0 : Int) && ((WornF a w k).1.at_.lo == (0 : Int) && ((WornF a w k).1.at_.hi == (0 : Int) && true) && ((WornF a w
    k).1.wide.lo == (0 : Int) && ((WornF a w k).1.wide.hi == (0 : Int) && true) && ((WornF a w k).1.deep.lo == (0 : Int) && ((WornF a w k).1.deep.hi == (0 : Int) && true) && true))) &&
    !(WornF a w k).2 == (2 : Int)) (Tree.need (!((WornF a w k).1.kind == (0 : Int) && ((WornF a w k).1.at_.lo == (0 : Int) && ((WornF a w k).1.at_.hi == (0 : Int) && true) && ((WornF a
    w k).1.wide.lo == (0 : Int) && ((WornF a w k).1.wide.hi == (0 : Int) && true) && ((WornF a w k).1.deep.lo == (0 : Int) && ((WornF a w k).1.deep.hi == (0 : Int) && true) && true))))
    || (WornF a w k).1.kind == (0 : Int) && ((WornF a w k).1.at_.lo == (0 : Int) && ((WornF a w k).1.at_.hi == (0 : Int) && true) && ((WornF a w k).1.wide.lo == (0 : Int) && ((WornF a w
    k).1.wide.hi == (0 : Int) && true) && ((WornF a w k).1.deep.lo == (0 : Int) && ((WornF a w k).1.deep.hi == (0 : Int) && true) && true))) && ((WornF a w k).2 == (2 : Int) || (WornF a
    w k).1.kind == (0 : Int) && ((WornF a w k).1.at_.lo == (0 : Int) && ((WornF a w k).1.at_.hi == (0 : Int) && true) && ((WornF a w k).1.wide.lo == (0 : Int) && ((WornF a w
    k).1.wide.hi == (0 : Int) && true) && ((WornF a w k).1.deep.lo == (0 : Int) && ((WornF a w k).1.deep.hi == (0 : Int) && true) && true))) && !(WornF a w k).2 == (2 : Int))) (Tree.bnd
    ((WornF a w k).2 == (2 : Int) || (WornF a w k).2 == (11 : Int)) fun x32 => Tree.need (!((WornF a w k).1.kind == (0 : Int) && ((WornF a w k).1.at_.lo == (0 : Int) && ((WornF a w
    k).1.at_.hi == (0 : Int) && true) && ((WornF a w k).1.wide.lo == (0 : Int) && ((WornF a w k).1.wide.hi == (0 : Int) && true) && ((WornF a w k).1.deep.lo == (0 : Int) && ((WornF a w
    k).1.deep.hi == (0 : Int) && true) && true)))) || (WornF a w k).1.kind == (0 : Int) && ((WornF a w k).1.at_.lo == (0 : Int) && ((WornF a w k).1.at_.hi == (0 : Int) && true) &&
    ((WornF a w k).1.wide.lo == (0 : Int) && ((WornF a w k).1.wide.hi == (0 : Int) && true) && ((WornF a w k).1.deep.lo == (0 : Int) && ((WornF a w k).1.deep.hi == (0 : Int) && true) &&
    true)))) (Tree.bnd ((WornF a w k).1.kind == (0 : Int) && ((WornF a w k).1.at_.lo == (0 : Int) && ((WornF a w k).1.at_.hi == (0 : Int) && true) && ((WornF a w k).1.wide.lo == (0 :
    Int) && ((WornF a w k).1.wide.hi == (0 : Int) && true) && ((WornF a w k).1.deep.lo == (0 : Int) && ((WornF a w k).1.deep.hi == (0 : Int) && true) && true))) && x32) fun x33 =>
    Tree.need (!x33 || x33) (Tree.bnd (x33 || false) fun x34 => Tree.leaf (AV.bool false x34) []))))))) (Tree.need (!!decide (w.lo < (0 : Int)) || !decide (w.lo < (0 : Int))) (Tree.need
    (!!decide (w.lo < (0 : Int)) || !decide (w.lo < (0 : Int))) (Tree.need (!!decide (w.lo < (0 : Int)) || !decide (w.lo < (0 : Int)) && !decide (w.lo < (0 : Int))) (Tree.need (decide
    (w.lo < (0 : Int)) || !decide (w.lo < (0 : Int))) (Tree.bnd (decide (w.lo < (0 : Int)) || decide (w.lo > w.hi)) fun x35 => Tree.need (!!x35 || !x35) (Tree.need (!!x35 || !x35)
    (Tree.need (x35 || !x35) (Tree.bnd (x35 || decide (w.hi > (100 : Int))) fun x36 => Tree.need (!!x36 || !x36) (Tree.need (x36 || !x36) (Tree.bnd (x36 || decide (k < (0 : Int))) fun
    x37 => Tree.need (!!x37 || !x37) (Tree.need (x37 || !x37) (Tree.bnd (x37 || decide (k > (20000 : Int))) fun x38 => Tree.br x38 (Tree.leaf (AV.bool true false) []) (Tree.need
    (!decide (↑n = (0 : Int)) && (decide ((0 : Int) ≤ Int.tmod (8 : Int) ↑n ∧ Int.tmod (8 : Int) ↑n < ↑n) && (decide ((0 : Nat) + (Int.tmod (8 : Int) ↑n).toNat < n) && (!decide
    (IntKind.i64.wrap (IntKind.i64.wrap (a.wide.hi - a.wide.lo) + (1 : Int)) = (0 : Int)) && true)))) (Tree.bndI (IntKind.i64.wrap (a.wide.lo + (IntKind.i64.wrap (IntKind.u16.wrap (g
    ((0 : Nat) + ((IntKind.i64.wrap (IntKind.i64.wrap (IntKind.i64.wrap (IntKind.i64.wrap (IntKind.i64.wrap (IntKind.i64.wrap (IntKind.i64.wrap (IntKind.i64.wrap ((0 : Int) + (1 : Int))
    + (1 : Int)) + (1 : Int)) + (1 : Int)) + (1 : Int)) + (1 : Int)) + (1 : Int)) + (1 : Int))).tmod ↑n).toNat) + (8 : Int)))).tmod (IntKind.i64.wrap (IntKind.i64.wrap (a.wide.hi -
    a.wide.lo) + (1 : Int))))) fun y39 => Tree.bndI (IntKind.i64.wrap ((1000 : Int) * y39)) fun y40 => Tree.br (a.kind == (1 : Int)) (Tree.need (!decide (↑n = (0 : Int)) && (decide ((0
    : Int) ≤ Int.tmod (9 : Int) ↑n ∧ Int.tmod (9 : Int) ↑n < ↑n) && (decide ((0 : Nat) + (Int.tmod (9 : Int) ↑n).toNat < n) && (!decide (IntKind.i64.wrap (IntKind.i64.wrap (w.hi - w.lo)
    + (1 : Int)) = (0 : Int)) && true)))) (Tree.bndI (IntKind.i64.wrap (w.lo + (IntKind.i64.wrap (IntKind.u16.wrap (g ((0 : Nat) + ((IntKind.i64.wrap (IntKind.i64.wrap (IntKind.i64.wrap
    (IntKind.i64.wrap (IntKind.i64.wrap (IntKind.i64.wrap (IntKind.i64.wrap (IntKind.i64.wrap (IntKind.i64.wrap ((0 : Int) + (1 : Int)) + (1 : Int)) + (1 : Int)) + (1 : Int)) + (1 :
    Int)) + (1 : Int)) + (1 : Int)) + (1 : Int)) + (1 : Int))).tmod ↑n).toNat) + (9 : Int)))).tmod (IntKind.i64.wrap (IntKind.i64.wrap (w.hi - w.lo) + (1 : Int))))) fun y41 => Tree.bndI
    (IntKind.i64.wrap (y41 * k)) fun y42 => Tree.need (!((WornF a w k).1.kind == a.kind && ((WornF a w k).1.at_.lo == a.at_.lo && ((WornF a w k).1.at_.hi == a.at_.hi && true) &&
    (a.wide.lo == a.wide.lo && (a.wide.hi == a.wide.hi && true) && ((WornF a w k).1.deep.lo == a.deep.lo && ((WornF a w k).1.deep.hi == a.deep.hi && true) && true)))) || (WornF a w
    k).1.kind == a.kind && ((WornF a w k).1.at_.lo == a.at_.lo && ((WornF a w k).1.at_.hi == a.at_.hi && true) && (a.wide.lo == a.wide.lo && (a.wide.hi == a.wide.hi && true) && ((WornF
    a w k).1.deep.lo == a.deep.lo && ((WornF a w k).1.deep.hi == a.deep.hi && true) && true)))) (Tree.need (!((WornF a w k).1.kind == a.kind && ((WornF a w k).1.at_.lo == a.at_.lo &&
    ((WornF a w k).1.at_.hi == a.at_.hi && true) && (a.wide.lo == a.wide.lo && (a.wide.hi == a.wide.hi && true) && ((WornF a w k).1.deep.lo == a.deep.lo && ((WornF a w k).1.deep.hi ==
    a.deep.hi && true) && true)))) || (WornF a w k).1.kind == a.kind && ((WornF a w k).1.at_.lo == a.at_.lo && ((WornF a w k).1.at_.hi == a.at_.hi && true) && (a.wide.lo == a.wide.lo &&
    (a.wide.hi == a.wide.hi && true) && ((WornF a w k).1.deep.lo == a.deep.lo && ((WornF a w k).1.deep.hi == a.deep.hi && true) && true)))) (Tree.need (!((WornF a w k).1.kind == a.kind
    && ((WornF a w k).1.at_.lo == a.at_.lo && ((WornF a w k).1.at_.hi == a.at_.hi && true) && (a.wide.lo == a.wide.lo && (a.wide.hi == a.wide.hi && true) && ((WornF a w k).1.deep.lo ==
    a.deep.lo && ((WornF a w k).1.deep.hi == a.deep.hi && true) && true)))) || (WornF a w k).1.kind == a.kind && ((WornF a w k).1.at_.lo == a.at_.lo && ((WornF a w k).1.at_.hi ==
    a.at_.hi && true) && (a.wide.lo == a.wide.lo && (a.wide.hi == a.wide.hi && true) && ((WornF a w k).1.deep.lo == a.deep.lo && ((WornF a w k).1.deep.hi == a.deep.hi && true) &&
    true)))) (Tree.need (!((WornF a w k).1.kind == a.kind && ((WornF a w k).1.at_.lo == a.at_.lo && ((WornF a w k).1.at_.hi == a.at_.hi && true) && (a.wide.lo == a.wide.lo && (a.wide.hi
    == a.wide.hi && true) && ((WornF a w k).1.deep.lo == a.deep.lo && ((WornF a w k).1.deep.hi == a.deep.hi && true) && true)))) || (WornF a w k).1.kind == a.kind && ((WornF a w
    k).1.at_.lo == a.at_.lo && ((WornF a w k).1.at_.hi == a.at_.hi && true) && (a.wide.lo == a.wide.lo && (a.wide.hi == a.wide.hi && true) && ((WornF a w k).1.deep.lo == a.deep.lo &&
    ((WornF a w k).1.deep.hi == a.deep.hi && true) && true))) && ((WornF a w k).1.kind == a.kind && ((WornF a w k).1.at_.lo == a.at_.lo && ((WornF a w k).1.at_.hi == a.at_.hi && true)
    && (a.wide.lo == a.wide.lo && (a.wide.hi == a.wide.hi && true) && ((WornF a w k).1.deep.lo == a.deep.lo && ((WornF a w k).1.deep.hi == a.deep.hi && true) && true))))) (Tree.need
    (!((WornF a w k).1.kind == a.kind && ((WornF a w k).1.at_.lo == a.at_.lo && ((WornF a w k).1.at_.hi == a.at_.hi && true) && (a.wide.lo == a.wide.lo && (a.wide.hi == a.wide.hi &&
    true) && ((WornF a w k).1.deep.lo == a.deep.lo && ((WornF a w k).1.deep.hi == a.deep.hi && true) && true)))) || (WornF a w k).1.kind == a.kind && ((WornF a w k).1.at_.lo == a.at_.lo
    && ((WornF a w k).1.at_.hi == a.at_.hi && true) && (a.wide.lo == a.wide.lo && (a.wide.hi == a.wide.hi && true) && ((WornF a w k).1.deep.lo == a.deep.lo && ((WornF a w k).1.deep.hi
    == a.deep.hi && true) && true)))) (Tree.bnd ((WornF a w k).1.kind == a.kind && ((WornF a w k).1.at_.lo == a.at_.lo && ((WornF a w k).1.at_.hi == a.at_.hi && true) && (a.wide.lo ==
    a.wide.lo && (a.wide.hi == a.wide.hi && true) && ((WornF a w k).1.deep.lo == a.deep.lo && ((WornF a w k).1.deep.hi == a.deep.hi && true) && true))) && decide (IntKind.i64.wrap (y40
    - y42) ≥ IntKind.i64.wrap ((1000 : Int) * (WornF a w k).1.wide.lo))) fun x43 => Tree.need (!x43 || x43) (Tree.need (!x43 || x43) (Tree.need (!x43 || x43) (Tree.need (!x43 || x43 &&
    x43) (Tree.need (!x43 || x43) (Tree.bnd (x43 && decide (IntKind.i64.wrap (y40 - y42) ≤ IntKind.i64.wrap ((1000 : Int) * (WornF a w k).1.wide.hi))) fun x44 => Tree.need (!x44 || x44)
    (Tree.bnd (x44 || false) fun x45 => Tree.leaf (AV.bool false x45) []))))))))))))) (Tree.need (!decide (↑n = (0 : Int)) && (decide ((0 : Int) ≤ Int.tmod (9 : Int) ↑n ∧ Int.tmod (9 :
    Int) ↑n < ↑n) && (decide ((0 : Nat) + (Int.tmod (9 : Int) ↑n).toNat < n) && (!decide (IntKind.i64.wrap (IntKind.i64.wrap (w.hi - w.lo) + (1 : Int)) = (0 : Int)) && true))))
    (Tree.bndI (IntKind.i64.wrap (w.lo + (IntKind.i64.wrap (IntKind.u16.wrap (g ((0 : Nat) + ((IntKind.i64.wrap (IntKind.i64.wrap (IntKind.i64.wrap (IntKind.i64.wrap (IntKind.i64.wrap
    (IntKind.i64.wrap (IntKind.i64.wrap (IntKind.i64.wrap (IntKind.i64.wrap ((0 : Int) + (1 : Int)) + (1 : Int)) + (1 : Int)) + (1 : Int)) + (1 : Int)) + (1 : Int)) + (1 : Int)) + (1 :
    Int)) + (1 : Int))).tmod ↑n).toNat) + (9 : Int)))).tmod (IntKind.i64.wrap (IntKind.i64.wrap (w.hi - w.lo) + (1 : Int))))) fun y46 => Tree.bndI (IntKind.i64.wrap (y46 * k)) fun y47
    => Tree.need (!((WornF a w k).1.kind == a.kind && ((WornF a w k).1.at_.lo == a.at_.lo && ((WornF a w k).1.at_.hi == a.at_.hi && true) && (a.wide.lo == a.wide.lo && (a.wide.hi ==
    a.wide.hi && true) && ((WornF a w k).1.deep.lo == a.deep.lo && ((WornF a w k).1.deep.hi == a.deep.hi && true) && true)))) || (WornF a w k).1.kind == a.kind && ((WornF a w
    k).1.at_.lo == a.at_.lo && ((WornF a w k).1.at_.hi == a.at_.hi && true) && (a.wide.lo == a.wide.lo && (a.wide.hi == a.wide.hi && true) && ((WornF a w k).1.deep.lo == a.deep.lo &&
    ((WornF a w k).1.deep.hi == a.deep.hi && true) && true)))) (Tree.need (!((WornF a w k).1.kind == a.kind && ((WornF a w k).1.at_.lo == a.at_.lo && ((WornF a w k).1.at_.hi == a.at_.hi
    && true) && (a.wide.lo == a.wide.lo && (a.wide.hi == a.wide.hi && true) && ((WornF a w k).1.deep.lo == a.deep.lo && ((WornF a w k).1.deep.hi == a.deep.hi && true) && true)))) ||
    (WornF a w k).1.kind == a.kind && ((WornF a w k).1.at_.lo == a.at_.lo && ((WornF a w k).1.at_.hi == a.at_.hi && true) && (a.wide.lo == a.wide.lo && (a.wide.hi == a.wide.hi && true)
    && ((WornF a w k).1.deep.lo == a.deep.lo && ((WornF a w k).1.deep.hi == a.deep.hi && true) && true)))) (Tree.need (!((WornF a w k).1.kind == a.kind && ((WornF a w k).1.at_.lo ==
    a.at_.lo && ((WornF a w k).1.at_.hi == a.at_.hi && true) && (a.wide.lo == a.wide.lo && (a.wide.hi == a.wide.hi && true) && ((WornF a w k).1.deep.lo == a.deep.lo && ((WornF a w
    k).1.deep.hi == a.deep.hi && true) && true)))) || (WornF a w k).1.kind == a.kind && ((WornF a w k).1.at_.lo == a.at_.lo && ((WornF a w k).1.at_.hi == a.at_.hi && true) && (a.wide.lo
    == a.wide.lo && (a.wide.hi == a.wide.hi && true) && ((WornF a w k).1.deep.lo == a.deep.lo && ((WornF a w k).1.deep.hi == a.deep.hi && true) && true)))) (Tree.need (!((WornF a w
    k).1.kind == a.kind && ((WornF a w k).1.at_.lo == a.at_.lo && ((WornF a w k).1.at_.hi == a.at_.hi && true) && (a.wide.lo == a.wide.lo && (a.wide.hi == a.wide.hi && true) && ((WornF
    a w k).1.deep.lo == a.deep.lo && ((WornF a w k).1.deep.hi == a.deep.hi && true) && true)))) || (WornF a w k).1.kind == a.kind && ((WornF a w k).1.at_.lo == a.at_.lo && ((WornF a w
    k).1.at_.hi == a.at_.hi && true) && (a.wide.lo == a.wide.lo && (a.wide.hi == a.wide.hi && true) && ((WornF a w k).1.deep.lo == a.deep.lo && ((WornF a w k).1.deep.hi == a.deep.hi &&
    true) && true))) && ((WornF a w k).1.kind == a.kind && ((WornF a w k).1.at_.lo == a.at_.lo && ((WornF a w k).1.at_.hi == a.at_.hi && true) && (a.wide.lo == a.wide.lo && (a.wide.hi
    == a.wide.hi && true) && ((WornF a w k).1.deep.lo == a.deep.lo && ((WornF a w k).1.deep.hi == a.deep.hi && true) && true))))) (Tree.need (!((WornF a w k).1.kind == a.kind && ((WornF
    a w k).1.at_.lo == a.at_.lo && ((WornF a w k).1.at_.hi == a.at_.hi && true) && (a.wide.lo == a.wide.lo && (a.wide.hi == a.wide.hi && true) && ((WornF a w k).1.deep.lo == a.deep.lo
    && ((WornF a w k).1.deep.hi == a.deep.hi && true) && true)))) || (WornF a w k).1.kind == a.kind && ((WornF a w k).1.at_.lo == a.at_.lo && ((WornF a w k).1.at_.hi == a.at_.hi &&
    true) && (a.wide.lo == a.wide.lo && (a.wide.hi == a.wide.hi && true) && ((WornF a w k).1.deep.lo == a.deep.lo && ((WornF a w k).1.deep.hi == a.deep.hi && true) && true)))) (Tree.bnd
    ((WornF a w k).1.kind == a.kind && ((WornF a w k).1.at_.lo == a.at_.lo && ((WornF a w k).1.at_.hi == a.at_.hi && true) && (a.wide.lo == a.wide.lo && (a.wide.hi == a.wide.hi && true)
    && ((WornF a w k).1.deep.lo == a.deep.lo && ((WornF a w k).1.deep.hi == a.deep.hi && true) && true))) && decide (IntKind.i64.wrap (y40 + y47) ≥ IntKind.i64.wrap ((1000 : Int) *
    (WornF a w k).1.wide.lo))) fun x48 => Tree.need (!x48 || x48) (Tree.need (!x48 || x48) (Tree.need (!x48 || x48) (Tree.need (!x48 || x48 && x48) (Tree.need (!x48 || x48) (Tree.bnd
    (x48 && decide (IntKind.i64.wrap (y40 + y47) ≤ IntKind.i64.wrap ((1000 : Int) * (WornF a w k).1.wide.hi))) fun x49 => Tree.need (!x49 || x49) (Tree.bnd (x49 || false) fun x50 =>
    Tree.leaf (AV.bool false x50) []))))))))))))))))))))))))))))))))))))))))))))))))))))))))))))))))))))))))))))))))))))))))))))) (Tree.need (!b.kind == (1 : Int) || b.kind == (1 :
    Int)) (Tree.need (!b.kind == (1 : Int) || b.kind == (1 : Int)) (Tree.need (!b.kind == (1 : Int) || b.kind == (1 : Int)) (Tree.bnd (b.kind == (1 : Int) && a.kind == (2 : Int)) fun
    x51 => Tree.br x51 (Tree.need (!!(FitF p a b).2 != (0 : Int) || !(FitF p a b).2 != (0 : Int)) (Tree.need (!!(FitF p a b).2 != (0 : Int) || !(FitF p a b).2 != (0 : Int) && !(FitF p a
    b).2 != (0 : Int)) (Tree.need ((FitF p a b).2 != (0 : Int) || !(FitF p a b).2 != (0 : Int)) (Tree.bnd ((FitF p a b).2 != (0 : Int) || !((BetweenF p a b).2 == (0 : Int)) == true) fun
    x52 => Tree.br x52 (Tree.leaf (AV.bool true false) []) (Tree.need (!decide (↑n = (0 : Int)) && (decide ((0 : Int) ≤ Int.tmod (1 : Int) ↑n ∧ Int.tmod (1 : Int) ↑n < ↑n) && (decide
    ((0 : Nat) + (Int.tmod (1 : Int) ↑n).toNat < n) && (!decide (IntKind.i64.wrap (IntKind.i64.wrap (p.damp.hi - p.damp.lo) + (1 : Int)) = (0 : Int)) && true)))) (Tree.bndI
    (IntKind.i64.wrap (p.damp.lo + (IntKind.i64.wrap (IntKind.u16.wrap (g ((0 : Nat) + ((IntKind.i64.wrap ((0 : Int) + (1 : Int))).tmod ↑n).toNat) + (1 : Int)))).tmod (IntKind.i64.wrap
    (IntKind.i64.wrap (p.damp.hi - p.damp.lo) + (1 : Int))))) fun y53 => Tree.need (!decide (↑n = (0 : Int)) && (decide ((0 : Int) ≤ Int.tmod (2 : Int) ↑n ∧ Int.tmod (2 : Int) ↑n < ↑n)
    && (decide ((0 : Nat) + (Int.tmod (2 : Int) ↑n).toNat < n) && (!decide (IntKind.i64.wrap (IntKind.i64.wrap (b.at_.hi - b.at_.lo) + (1 : Int)) = (0 : Int)) && true)))) (Tree.bndI
    (IntKind.i64.wrap (b.at_.lo + (IntKind.i64.wrap (IntKind.u16.wrap (g ((0 : Nat) + ((IntKind.i64.wrap (IntKind.i64.wrap ((0 : Int) + (1 : Int)) + (1 : Int))).tmod ↑n).toNat) + (2 :
    Int)))).tmod (IntKind.i64.wrap (IntKind.i64.wrap (b.at_.hi - b.at_.lo) + (1 : Int))))) fun y54 => Tree.need (!decide (↑n = (0 : Int)) && (decide ((0 : Int) ≤ Int.tmod (3 : Int) ↑n ∧
    Int.tmod (3 : Int) ↑n < ↑n) && (decide ((0 : Nat) + (Int.tmod (3 : Int) ↑n).toNat < n) && (!decide (IntKind.i64.wrap (IntKind.i64.wrap (a.at_.hi - a.at_.lo) + (1 : Int)) = (0 :
    Int)) && true)))) (Tree.bndI (IntKind.i64.wrap (a.at_.lo + (IntKind.i64.wrap (IntKind.u16.wrap (g ((0 : Nat) + ((IntKind.i64.wrap (IntKind.i64.wrap (IntKind.i64.wrap ((0 : Int) + (1
    : Int)) + (1 : Int)) + (1 : Int))).tmod ↑n).toNat) + (3 : Int)))).tmod (IntKind.i64.wrap (IntKind.i64.wrap (a.at_.hi - a.at_.lo) + (1 : Int))))) fun y55 => Tree.bndI
    (IntKind.i64.wrap (IntKind.i64.wrap (IntKind.i64.wrap (y54 + y55) - p.length) * IntKind.i64.wrap ((1000 : Int) + y53))) fun y56 => Tree.need (!decide (↑n = (0 : Int)) && (decide ((0
    : Int) ≤ Int.tmod (4 : Int) ↑n ∧ Int.tmod (4 : Int) ↑n < ↑n) && (decide ((0 : Nat) + (Int.tmod (4 : Int) ↑n).toNat < n) && (!decide (IntKind.i64.wrap (IntKind.i64.wrap (a.wide.hi -
    a.wide.lo) + (1 : Int)) = (0 : Int)) && true)))) (Tree.bndI (IntKind.i64.wrap (a.wide.lo + (IntKind.i64.wrap (IntKind.u16.wrap (g ((0 : Nat) + ((IntKind.i64.wrap (IntKind.i64.wrap
    (IntKind.i64.wrap (IntKind.i64.wrap ((0 : Int) + (1 : Int)) + (1 : Int)) + (1 : Int)) + (1 : Int))).tmod ↑n).toNat) + (4 : Int)))).tmod (IntKind.i64.wrap (IntKind.i64.wrap
    (a.wide.hi - a.wide.lo) + (1 : Int))))) fun y57 => Tree.need (!decide (↑n = (0 : Int)) && (decide ((0 : Int) ≤ Int.tmod (5 : Int) ↑n ∧ Int.tmod (5 : Int) ↑n < ↑n) && (decide ((0 :
    Nat) + (Int.tmod (5 : Int) ↑n).toNat < n) && (!decide (IntKind.i64.wrap (IntKind.i64.wrap (b.wide.hi - b.wide.lo) + (1 : Int)) = (0 : Int)) && true)))) (Tree.bndI (IntKind.i64.wrap
    (b.wide.lo + (IntKind.i64.wrap (IntKind.u16.wrap (g ((0 : Nat) + ((IntKind.i64.wrap (IntKind.i64.wrap (IntKind.i64.wrap (IntKind.i64.wrap (IntKind.i64.wrap ((0 : Int) + (1 : Int)) +
    (1 : Int)) + (1 : Int)) + (1 : Int)) + (1 : Int))).tmod ↑n).toNat) + (5 : Int)))).tmod (IntKind.i64.wrap (IntKind.i64.wrap (b.wide.hi - b.wide.lo) + (1 : Int))))) fun y58 =>
    Tree.bndI (IntKind.i64.wrap (IntKind.i64.wrap (y57 - y58) * IntKind.i64.wrap ((1000 : Int) + y53))) fun y59 => Tree.need (!decide (↑n = (0 : Int)) && (decide ((0 : Int) ≤ Int.tmod
    (6 : Int) ↑n ∧ Int.tmod (6 : Int) ↑n < ↑n) && (decide ((0 : Nat) + (Int.tmod (6 : Int) ↑n).toNat < n) && (!decide (IntKind.i64.wrap (IntKind.i64.wrap (a.deep.hi - a.deep.lo) + (1 :
    Int)) = (0 : Int)) && true)))) (Tree.bndI (IntKind.i64.wrap (a.deep.lo + (IntKind.i64.wrap (IntKind.u16.wrap (g ((0 : Nat) + ((IntKind.i64.wrap (IntKind.i64.wrap (IntKind.i64.wrap
    (IntKind.i64.wrap (IntKind.i64.wrap (IntKind.i64.wrap ((0 : Int) + (1 : Int)) + (1 : Int)) + (1 : Int)) + (1 : Int)) + (1 : Int)) + (1 : Int))).tmod ↑n).toNat) + (6 : Int)))).tmod
    (IntKind.i64.wrap (IntKind.i64.wrap (a.deep.hi - a.deep.lo) + (1 : Int))))) fun y60 => Tree.need (!decide (↑n = (0 : Int)) && (decide ((0 : Int) ≤ Int.tmod (7 : Int) ↑n ∧ Int.tmod
    (7 : Int) ↑n < ↑n) && (decide ((0 : Nat) + (Int.tmod (7 : Int) ↑n).toNat < n) && (!decide (IntKind.i64.wrap (IntKind.i64.wrap (b.deep.hi - b.deep.lo) + (1 : Int)) = (0 : Int)) &&
    true)))) (Tree.bndI (IntKind.i64.wrap (b.deep.lo + (IntKind.i64.wrap (IntKind.u16.wrap (g ((0 : Nat) + ((IntKind.i64.wrap (IntKind.i64.wrap (IntKind.i64.wrap (IntKind.i64.wrap
    (IntKind.i64.wrap (IntKind.i64.wrap (IntKind.i64.wrap ((0 : Int) + (1 : Int)) + (1 : Int)) + (1 : Int)) + (1 : Int)) + (1 : Int)) + (1 : Int)) + (1 : Int))).tmod ↑n).toNat) + (7 :
    Int)))).tmod (IntKind.i64.wrap (IntKind.i64.wrap (b.deep.hi - b.deep.lo) + (1 : Int))))) fun y61 => Tree.bndI (IntKind.i64.wrap (IntKind.i64.wrap (y60 - y61) * IntKind.i64.wrap
    ((1000 : Int) + y53))) fun y62 => Tree.bndI (IntKind.i64.wrap ((1000 : Int) * p.slack)) fun y63 => Tree.need (!decide (y56 ≤ y63) || decide (y56 ≤ y63)) (Tree.need (!decide (y56 ≤
    y63) || decide (y56 ≤ y63)) (Tree.need (!decide (y56 ≤ y63) || decide (y56 ≤ y63)) (Tree.need (!decide (y56 ≤ y63) || decide (y56 ≤ y63) && decide (y56 ≤ y63)) (Tree.need (!decide
    (y56 ≤ y63) || decide (y56 ≤ y63)) (Tree.bnd (decide (y56 ≤ y63) && decide (y56 ≥ IntKind.i64.wrap ((-1000 : Int) * p.slack))) fun x64 => Tree.need (!x64 || x64) (Tree.need (!x64 ||
    x64) (Tree.need (!x64 || x64) (Tree.bnd (x64 && decide (y59 ≥ (0 : Int))) fun x65 => Tree.need (!x65 || x65) (Tree.need (!x65 || x65) (Tree.need (!x65 || x65) (Tree.need (!x65 ||
    x65 && x65) (Tree.need (!x65 || x65) (Tree.bnd (x65 && decide (y59 ≤ IntKind.i64.wrap ((1000 : Int) * p.loose))) fun x66 => Tree.need (!x66 || x66) (Tree.need (!x66 || x66)
    (Tree.need (!x66 || x66) (Tree.bnd (x66 && decide (y62 ≥ (0 : Int))) fun x67 => Tree.need (!x67 || x67) (Tree.need (!x67 || x67) (Tree.need (!x67 || x67) (Tree.need (!x67 || x67 &&
    x67) (Tree.need (!x67 || x67) (Tree.bnd (x67 && decide (y62 ≤ IntKind.i64.wrap ((1000 : Int) * p.loose))) fun x68 => Tree.need (!(FitF p a b).1 == (2 : Int) || (FitF p a b).1 == (2
    : Int)) (Tree.need (!(FitF p a b).1 == (2 : Int) || (FitF p a b).1 == (2 : Int)) (Tree.bnd ((FitF p a b).1 == (2 : Int) && !x68) fun x69 => Tree.need (!!x69 || !x69) (Tree.need
    (!!x69 || !x69) (Tree.need (!!x69 || !x69 && (!(FitF p a b).1 == (0 : Int) || !x69 && (FitF p a b).1 == (0 : Int))) (Tree.bnd ((FitF p a b).1 == (0 : Int) && x68) fun x70 =>
    Tree.need (x69 || !x69) (Tree.bnd (x69 || x70) fun x71 => Tree.need (!!x71 || !x71) (Tree.need (x71 || !x71) (Tree.bnd (x71 || decide ((FitF p a b).1 < (0 : Int))) fun x72 =>
    Tree.need (!!x72 || !x72) (Tree.need (x72 || !x72) (Tree.bnd (x72 || decide ((FitF p a b).1 > (2 : Int))) fun x73 => Tree.br x73 (Tree.leaf (AV.bool true false) []) (Tree.bndI
    (IntKind.i64.wrap ((1000 : Int) * (BetweenF p a b).1.off.lo)) fun y74 => Tree.need (!!decide (y56 < y74) || !decide (y56 < y74)) (Tree.need (!!decide (y56 < y74) || !decide (y56 <
    y74)) (Tree.need (!!decide (y56 < y74) || !decide (y56 < y74)) (Tree.need (!!decide (y56 < y74) || !decide (y56 < y74)) (Tree.need (!!decide (y56 < y74) || !decide (y56 < y74) &&
    !decide (y56 < y74)) (Tree.need (decide (y56 < y74) || !decide (y56 < y74)) (Tree.bnd (decide (y56 < y74) || decide (y56 > IntKind.i64.wrap ((1000 : Int) * (BetweenF p a
    b).1.off.hi))) fun x75 => Tree.br x75 (Tree.leaf (AV.bool true false) []) (Tree.bndI (IntKind.i64.wrap ((1000 : Int) * (BetweenF p a b).1.wide.lo)) fun y76 => Tree.need (!!decide
    (y59 < y76) || !decide (y59 < y76)) (Tree.need (!!decide (y59 < y76) || !decide (y59 < y76)) (Tree.need (!!decide (y59 < y76) || !decide (y59 < y76)) (Tree.need (!!decide (y59 <
    y76) || !decide (y59 < y76)) (Tree.need (!!decide (y59 < y76) || !decide (y59 < y76) && !decide (y59 < y76)) (Tree.need (decide (y59 < y76) || !decide (y59 < y76)) (Tree.bnd (decide
    (y59 < y76) || decide (y59 > IntKind.i64.wrap ((1000 : Int) * (BetweenF p a b).1.wide.hi))) fun x77 => Tree.br x77 (Tree.leaf (AV.bool true false) []) (Tree.bndI (IntKind.i64.wrap
    ((1000 : Int) * (BetweenF p a b).1.deep.lo)) fun y78 => Tree.need (!!decide (y62 < y78) || !decide (y62 < y78)) (Tree.need (!!decide (y62 < y78) || !decide (y62 < y78)) (Tree.need
    (!!decide (y62 < y78) || !decide (y62 < y78)) (Tree.need (!!decide (y62 < y78) || !decide (y62 < y78)) (Tree.need (!!decide (y62 < y78) || !decide (y62 < y78) && !decide (y62 <
    y78)) (Tree.need (decide (y62 < y78) || !decide (y62 < y78)) (Tree.bnd (decide (y62 < y78) || decide (y62 > IntKind.i64.wrap ((1000 : Int) * (BetweenF p a b).1.deep.hi))) fun x79 =>
    Tree.br x79 (Tree.leaf (AV.bool true false) []) (Tree.need true (Tree.br ((WornF a w k).2 != (0 : Int)) (Tree.need (!((WornF a w k).1.kind == (0 : Int) && ((WornF a w k).1.at_.lo ==
    (0 : Int) && ((WornF a w k).1.at_.hi == (0 : Int) && true) && ((WornF a w k).1.wide.lo == (0 : Int) && ((WornF a w k).1.wide.hi == (0 : Int) && true) && ((WornF a w k).1.deep.lo ==
    (0 : Int) && ((WornF a w k).1.deep.hi == (0 : Int) && true) && true)))) || (WornF a w k).1.kind == (0 : Int) && ((WornF a w k).1.at_.lo == (0 : Int) && ((WornF a w k).1.at_.hi == (0
    : Int) && true) && ((WornF a w k).1.wide.lo == (0 : Int) && ((WornF a w k).1.wide.hi == (0 : Int) && true) && ((WornF a w k).1.deep.lo == (0 : Int) && ((WornF a w k).1.deep.hi == (0
    : Int) && true) && true)))) (Tree.need (!((WornF a w k).1.kind == (0 : Int) && ((WornF a w k).1.at_.lo == (0 : Int) && ((WornF a w k).1.at_.hi == (0 : Int) && true) && ((WornF a w
    k).1.wide.lo == (0 : Int) && ((WornF a w k).1.wide.hi == (0 : Int) && true) && ((WornF a w k).1.deep.lo == (0 : Int) && ((WornF a w k).1.deep.hi == (0 : Int) && true) && true)))) ||
    (WornF a w k).1.kind == (0 : Int) && ((WornF a w k).1.at_.lo == (0 : Int) && ((WornF a w k).1.at_.hi == (0 : Int) && true) && ((WornF a w k).1.wide.lo == (0 : Int) && ((WornF a w
    k).1.wide.hi == (0 : Int) && true) && ((WornF a w k).1.deep.lo == (0 : Int) && ((WornF a w k).1.deep.hi == (0 : Int) && true) && true)))) (Tree.need (!((WornF a w k).1.kind == (0 :
    Int) && ((WornF a w k).1.at_.lo == (0 : Int) && ((WornF a w k).1.at_.hi == (0 : Int) && true) && ((WornF a w k).1.wide.lo == (0 : Int) && ((WornF a w k).1.wide.hi == (0 : Int) &&
    true) && ((WornF a w k).1.deep.lo == (0 : Int) && ((WornF a w k).1.deep.hi == (0 : Int) && true) && true))) && !(WornF a w k).2 == (2 : Int)) || (WornF a w k).1.kind == (0 : Int) &&
    ((WornF a w k).1.at_.lo == (0 : Int) && ((WornF a w k).1.at_.hi == (0 : Int) && true) && ((WornF a w k).1.wide.lo == (0 : Int) && ((WornF a w k).1.wide.hi == (0 : Int) && true) &&
    ((WornF a w k).1.deep.lo == (0 : Int) && ((WornF a w k).1.deep.hi == (0 : Int) && true) && true))) && !(WornF a w k).2 == (2 : Int)) (Tree.need (!((WornF a w k).1.kind == (0 : Int)
    && ((WornF a w k).1.at_.lo == (0 : Int) && ((WornF a w k).1.at_.hi == (0 : Int) && true) && ((WornF a w k).1.wide.lo == (0 : Int) && ((WornF a w k).1.wide.hi == (0 : Int) && true)
    && ((WornF a w k).1.deep.lo == (0 : Int) && ((WornF a w k).1.deep.hi == (0 : Int) && true) && true)))) || (WornF a w k).1.kind == (0 : Int) && ((WornF a w k).1.at_.lo == (0 : Int)
    && ((WornF a w k).1.at_.hi == (0 : Int) && true) && ((WornF a w k).1.wide.lo == (0 : Int) && ((WornF a w k).1.wide.hi == (0 : Int) && true) && ((WornF a w k).1.deep.lo == (0 : Int)
    && ((WornF a w k).1.deep.hi == (0 : Int) && true) && true))) && ((WornF a w k).2 == (2 : Int) || (WornF a w k).1.kind == (0 : Int) && ((WornF a w k).1.at_.lo == (0 : Int) && ((WornF
    a w k).1.at_.hi == (0 : Int) && true) && ((WornF a w k).1.wide.lo == (0 : Int) && ((WornF a w k).1.wide.hi == (0 : Int) && true) && ((WornF a w k).1.deep.lo == (0 : Int) && ((WornF
    a w k).1.deep.hi == (0 : Int) && true) && true))) && !(WornF a w k).2 == (2 : Int))) (Tree.bnd ((WornF a w k).2 == (2 : Int) || (WornF a w k).2 == (11 : Int)) fun x80 => Tree.need
    (!((WornF a w k).1.kind == (0 : Int) && ((WornF a w k).1.at_.lo == (0 : Int) && ((WornF a w k).1.at_.hi == (0 : Int) && true) && ((WornF a w k).1.wide.lo == (0 : Int) && ((WornF a w
    k).1.wide.hi == (0 : Int) && true) && ((WornF a w k).1.deep.lo == (0 : Int) && ((WornF a w k).1.deep.hi == (0 : Int) && true) && true)))) || (WornF a w k).1.kind == (0 : Int) &&
    ((WornF a w k).1.at_.lo == (0 : Int) && ((WornF a w k).1.at_.hi == (0 : Int) && true) && ((WornF a w k).1.wide.lo == (0 : Int) && ((WornF a w k).1.wide.hi == (0 : Int) && true) &&
    ((WornF a w k).1.deep.lo == (0 : Int) && ((WornF a w k).1.deep.hi == (0 : Int) && true) && true)))) (Tree.bnd ((WornF a w k).1.kind == (0 : Int) && ((WornF a w k).1.at_.lo == (0 :
    Int) && ((WornF a w k).1.at_.hi == (0 : Int) && true) && ((WornF a w k).1.wide.lo == (0 : Int) && ((WornF a w k).1.wide.hi == (0 : Int) && true) && ((WornF a w k).1.deep.lo == (0 :
    Int) && ((WornF a w k).1.deep.hi == (0 : Int) && true) && true))) && x80) fun x81 => Tree.need (!x81 || x81) (Tree.bnd (x81 || false) fun x82 => Tree.leaf (AV.bool false x82)
    []))))))) (Tree.need (!!decide (w.lo < (0 : Int)) || !decide (w.lo < (0 : Int))) (Tree.need (!!decide (w.lo < (0 : Int)) || !decide (w.lo < (0 : Int))) (Tree.need (!!decide (w.lo <
    (0 : Int)) || !decide (w.lo < (0 : Int)) && !decide (w.lo < (0 : Int))) (Tree.need (decide (w.lo < (0 : Int)) || !decide (w.lo < (0 : Int))) (Tree.bnd (decide (w.lo < (0 : Int)) ||
    decide (w.lo > w.hi)) fun x83 => Tree.need (!!x83 || !x83) (Tree.need (!!x83 || !x83) (Tree.need (x83 || !x83) (Tree.bnd (x83 || decide (w.hi > (100 : Int))) fun x84 => Tree.need
    (!!x84 || !x84) (Tree.need (x84 || !x84) (Tree.bnd (x84 || decide (k < (0 : Int))) fun x85 => Tree.need (!!x85 || !x85) (Tree.need (x85 || !x85) (Tree.bnd (x85 || decide (k > (20000
    : Int))) fun x86 => Tree.br x86 (Tree.leaf (AV.bool true false) []) (Tree.need (!decide (↑n = (0 : Int)) && (decide ((0 : Int) ≤ Int.tmod (8 : Int) ↑n ∧ Int.tmod (8 : Int) ↑n < ↑n)
    && (decide ((0 : Nat) + (Int.tmod (8 : Int) ↑n).toNat < n) && (!decide (IntKind.i64.wrap (IntKind.i64.wrap (a.wide.hi - a.wide.lo) + (1 : Int)) = (0 : Int)) && true)))) (Tree.bndI
    (IntKind.i64.wrap (a.wide.lo + (IntKind.i64.wrap (IntKind.u16.wrap (g ((0 : Nat) + ((IntKind.i64.wrap (IntKind.i64.wrap (IntKind.i64.wrap (IntKind.i64.wrap (IntKind.i64.wrap
    (IntKind.i64.wrap (IntKind.i64.wrap (IntKind.i64.wrap ((0 : Int) + (1 : Int)) + (1 : Int)) + (1 : Int)) + (1 : Int)) + (1 : Int)) + (1 : Int)) + (1 : Int)) + (1 : Int))).tmod
    ↑n).toNat) + (8 : Int)))).tmod (IntKind.i64.wrap (IntKind.i64.wrap (a.wide.hi - a.wide.lo) + (1 : Int))))) fun y87 => Tree.bndI (IntKind.i64.wrap ((1000 : Int) * y87)) fun y88 =>
    Tree.br (a.kind == (1 : Int)) (Tree.need (!decide (↑n = (0 : Int)) && (decide ((0 : Int) ≤ Int.tmod (9 : Int) ↑n ∧ Int.tmod (9 : Int) ↑n < ↑n) && (decide ((0 : Nat) + (Int.tmod (9 :
    Int) ↑n).toNat < n) && (!decide (IntKind.i64.wrap (IntKind.i64.wrap (w.hi - w.lo) + (1 : Int)) = (0 : Int)) && true)))) (Tree.bndI (IntKind.i64.wrap (w.lo + (IntKind.i64.wrap
    (IntKind.u16.wrap (g ((0 : Nat) + ((IntKind.i64.wrap (IntKind.i64.wrap (IntKind.i64.wrap (IntKind.i64.wrap (IntKind.i64.wrap (IntKind.i64.wrap (IntKind.i64.wrap (IntKind.i64.wrap
    (IntKind.i64.wrap ((0 : Int) + (1 : Int)) + (1 : Int)) + (1 : Int)) + (1 : Int)) + (1 : Int)) + (1 : Int)) + (1 : Int)) + (1 : Int)) + (1 : Int))).tmod ↑n).toNat) + (9 :
    Int)))).tmod (IntKind.i64.wrap (IntKind.i64.wrap (w.hi - w.lo) + (1 : Int))))) fun y89 => Tree.bndI (IntKind.i64.wrap (y89 * k)) fun y90 => Tree.need (!((WornF a w k).1.kind ==
    a.kind && ((WornF a w k).1.at_.lo == a.at_.lo && ((WornF a w k).1.at_.hi == a.at_.hi && true) && (a.wide.lo == a.wide.lo && (a.wide.hi == a.wide.hi && true) && ((WornF a w
    k).1.deep.lo == a.deep.lo && ((WornF a w k).1.deep.hi == a.deep.hi && true) && true)))) || (WornF a w k).1.kind == a.kind && ((WornF a w k).1.at_.lo == a.at_.lo && ((WornF a w
    k).1.at_.hi == a.at_.hi && true) && (a.wide.lo == a.wide.lo && (a.wide.hi == a.wide.hi && true) && ((WornF a w k).1.deep.lo == a.deep.lo && ((WornF a w k).1.deep.hi == a.deep.hi &&
    true) && true)))) (Tree.need (!((WornF a w k).1.kind == a.kind && ((WornF a w k).1.at_.lo == a.at_.lo && ((WornF a w k).1.at_.hi == a.at_.hi && true) && (a.wide.lo == a.wide.lo &&
    (a.wide.hi == a.wide.hi && true) && ((WornF a w k).1.deep.lo == a.deep.lo && ((WornF a w k).1.deep.hi == a.deep.hi && true) && true)))) || (WornF a w k).1.kind == a.kind && ((WornF
    a w k).1.at_.lo == a.at_.lo && ((WornF a w k).1.at_.hi == a.at_.hi && true) && (a.wide.lo == a.wide.lo && (a.wide.hi == a.wide.hi && true) && ((WornF a w k).1.deep.lo == a.deep.lo
    && ((WornF a w k).1.deep.hi == a.deep.hi && true) && true)))) (Tree.need (!((WornF a w k).1.kind == a.kind && ((WornF a w k).1.at_.lo == a.at_.lo && ((WornF a w k).1.at_.hi ==
    a.at_.hi && true) && (a.wide.lo == a.wide.lo && (a.wide.hi == a.wide.hi && true) && ((WornF a w k).1.deep.lo == a.deep.lo && ((WornF a w k).1.deep.hi == a.deep.hi && true) &&
    true)))) || (WornF a w k).1.kind == a.kind && ((WornF a w k).1.at_.lo == a.at_.lo && ((WornF a w k).1.at_.hi == a.at_.hi && true) && (a.wide.lo == a.wide.lo && (a.wide.hi ==
    a.wide.hi && true) && ((WornF a w k).1.deep.lo == a.deep.lo && ((WornF a w k).1.deep.hi == a.deep.hi && true) && true)))) (Tree.need (!((WornF a w k).1.kind == a.kind && ((WornF a w
    k).1.at_.lo == a.at_.lo && ((WornF a w k).1.at_.hi == a.at_.hi && true) && (a.wide.lo == a.wide.lo && (a.wide.hi == a.wide.hi && true) && ((WornF a w k).1.deep.lo == a.deep.lo &&
    ((WornF a w k).1.deep.hi == a.deep.hi && true) && true)))) || (WornF a w k).1.kind == a.kind && ((WornF a w k).1.at_.lo == a.at_.lo && ((WornF a w k).1.at_.hi == a.at_.hi && true)
    && (a.wide.lo == a.wide.lo && (a.wide.hi == a.wide.hi && true) && ((WornF a w k).1.deep.lo == a.deep.lo && ((WornF a w k).1.deep.hi == a.deep.hi && true) && true))) && ((WornF a w
    k).1.kind == a.kind && ((WornF a w k).1.at_.lo == a.at_.lo && ((WornF a w k).1.at_.hi == a.at_.hi && true) && (a.wide.lo == a.wide.lo && (a.wide.hi == a.wide.hi && true) && ((WornF
    a w k).1.deep.lo == a.deep.lo && ((WornF a w k).1.deep.hi == a.deep.hi && true) && true))))) (Tree.need (!((WornF a w k).1.kind == a.kind && ((WornF a w k).1.at_.lo == a.at_.lo &&
    ((WornF a w k).1.at_.hi == a.at_.hi && true) && (a.wide.lo == a.wide.lo && (a.wide.hi == a.wide.hi && true) && ((WornF a w k).1.deep.lo == a.deep.lo && ((WornF a w k).1.deep.hi ==
    a.deep.hi && true) && true)))) || (WornF a w k).1.kind == a.kind && ((WornF a w k).1.at_.lo == a.at_.lo && ((WornF a w k).1.at_.hi == a.at_.hi && true) && (a.wide.lo == a.wide.lo &&
    (a.wide.hi == a.wide.hi && true) && ((WornF a w k).1.deep.lo == a.deep.lo && ((WornF a w k).1.deep.hi == a.deep.hi && true) && true)))) (Tree.bnd ((WornF a w k).1.kind == a.kind &&
    ((WornF a w k).1.at_.lo == a.at_.lo && ((WornF a w k).1.at_.hi == a.at_.hi && true) && (a.wide.lo == a.wide.lo && (a.wide.hi == a.wide.hi && true) && ((WornF a w k).1.deep.lo ==
    a.deep.lo && ((WornF a w k).1.deep.hi == a.deep.hi && true) && true))) && decide (IntKind.i64.wrap (y88 - y90) ≥ IntKind.i64.wrap ((1000 : Int) * (WornF a w k).1.wide.lo))) fun x91
    => Tree.need (!x91 || x91) (Tree.need (!x91 || x91) (Tree.need (!x91 || x91) (Tree.need (!x91 || x91 && x91) (Tree.need (!x91 || x91) (Tree.bnd (x91 && decide (IntKind.i64.wrap (y88
    - y90) ≤ IntKind.i64.wrap ((1000 : Int) * (WornF a w k).1.wide.hi))) fun x92 => Tree.need (!x92 || x92) (Tree.bnd (x92 || false) fun x93 => Tree.leaf (AV.bool false x93)
    []))))))))))))) (Tree.need (!decide (↑n = (0 : Int)) && (decide ((0 : Int) ≤ Int.tmod (9 : Int) ↑n ∧ Int.tmod (9 : Int) ↑n < ↑n) && (decide ((0 : Nat) + (Int.tmod (9 : Int)
    ↑n).toNat < n) && (!decide (IntKind.i64.wrap (IntKind.i64.wrap (w.hi - w.lo) + (1 : Int)) = (0 : Int)) && true)))) (Tree.bndI (IntKind.i64.wrap (w.lo + (IntKind.i64.wrap
    (IntKind.u16.wrap (g ((0 : Nat) + ((IntKind.i64.wrap (IntKind.i64.wrap (IntKind.i64.wrap (IntKind.i64.wrap (IntKind.i64.wrap (IntKind.i64.wrap (IntKind.i64.wrap (IntKind.i64.wrap
    (IntKind.i64.wrap ((0 : Int) + (1 : Int)) + (1 : Int)) + (1 : Int)) + (1 : Int)) + (1 : Int)) + (1 : Int)) + (1 : Int)) + (1 : Int)) + (1 : Int))).tmod ↑n).toNat) + (9 :
    Int)))).tmod (IntKind.i64.wrap (IntKind.i64.wrap (w.hi - w.lo) + (1 : Int))))) fun y94 => Tree.bndI (IntKind.i64.wrap (y94 * k)) fun y95 => Tree.need (!((WornF a w k).1.kind ==
    a.kind && ((WornF a w k).1.at_.lo == a.at_.lo && ((WornF a w k).1.at_.hi == a.at_.hi && true) && (a.wide.lo == a.wide.lo && (a.wide.hi == a.wide.hi && true) && ((WornF a w
    k).1.deep.lo == a.deep.lo && ((WornF a w k).1.deep.hi == a.deep.hi && true) && true)))) || (WornF a w k).1.kind == a.kind && ((WornF a w k).1.at_.lo == a.at_.lo && ((WornF a w
    k).1.at_.hi == a.at_.hi && true) && (a.wide.lo == a.wide.lo && (a.wide.hi == a.wide.hi && true) && ((WornF a w k).1.deep.lo == a.deep.lo && ((WornF a w k).1.deep.hi == a.deep.hi &&
    true) && true)))) (Tree.need (!((WornF a w k).1.kind == a.kind && ((WornF a w k).1.at_.lo == a.at_.lo && ((WornF a w k).1.at_.hi == a.at_.hi && true) && (a.wide.lo == a.wide.lo &&
    (a.wide.hi == a.wide.hi && true) && ((WornF a w k).1.deep.lo == a.deep.lo && ((WornF a w k).1.deep.hi == a.deep.hi && true) && true)))) || (WornF a w k).1.kind == a.kind && ((WornF
    a w k).1.at_.lo == a.at_.lo && ((WornF a w k).1.at_.hi == a.at_.hi && true) && (a.wide.lo == a.wide.lo && (a.wide.hi == a.wide.hi && true) && ((WornF a w k).1.deep.lo == a.deep.lo
    && ((WornF a w k).1.deep.hi == a.deep.hi && true) && true)))) (Tree.need (!((WornF a w k).1.kind == a.kind && ((WornF a w k).1.at_.lo == a.at_.lo && ((WornF a w k).1.at_.hi ==
    a.at_.hi && true) && (a.wide.lo == a.wide.lo && (a.wide.hi == a.wide.hi && true) && ((WornF a w k).1.deep.lo == a.deep.lo && ((WornF a w k).1.deep.hi == a.deep.hi && true) &&
    true)))) || (WornF a w k).1.kind == a.kind && ((WornF a w k).1.at_.lo == a.at_.lo && ((WornF a w k).1.at_.hi == a.at_.hi && true) && (a.wide.lo == a.wide.lo && (a.wide.hi ==
    a.wide.hi && true) && ((WornF a w k).1.deep.lo == a.deep.lo && ((WornF a w k).1.deep.hi == a.deep.hi && true) && true)))) (Tree.need (!((WornF a w k).1.kind == a.kind && ((WornF a w
    k).1.at_.lo == a.at_.lo && ((WornF a w k).1.at_.hi == a.at_.hi && true) && (a.wide.lo == a.wide.lo && (a.wide.hi == a.wide.hi && true) && ((WornF a w k).1.deep.lo == a.deep.lo &&
    ((WornF a w k).1.deep.hi == a.deep.hi && true) && true)))) || (WornF a w k).1.kind == a.kind && ((WornF a w k).1.at_.lo == a.at_.lo && ((WornF a w k).1.at_.hi == a.at_.hi && true)
    && (a.wide.lo == a.wide.lo && (a.wide.hi == a.wide.hi && true) && ((WornF a w k).1.deep.lo == a.deep.lo && ((WornF a w k).1.deep.hi == a.deep.hi && true) && true))) && ((WornF a w
    k).1.kind == a.kind && ((WornF a w k).1.at_.lo == a.at_.lo && ((WornF a w k).1.at_.hi == a.at_.hi && true) && (a.wide.lo == a.wide.lo && (a.wide.hi == a.wide.hi && true) && ((WornF
    a w k).1.deep.lo == a.deep.lo && ((WornF a w k).1.deep.hi == a.deep.hi && true) && true))))) (Tree.need (!((WornF a w k).1.kind == a.kind && ((WornF a w k).1.at_.lo == a.at_.lo &&
    ((WornF a w k).1.at_.hi == a.at_.hi && true) && (a.wide.lo == a.wide.lo && (a.wide.hi == a.wide.hi && true) && ((WornF a w k).1.deep.lo == a.deep.lo && ((WornF a w k).1.deep.hi ==
    a.deep.hi && true) && true)))) || (WornF a w k).1.kind == a.kind && ((WornF a w k).1.at_.lo == a.at_.lo && ((WornF a w k).1.at_.hi == a.at_.hi && true) && (a.wide.lo == a.wide.lo &&
    (a.wide.hi == a.wide.hi && true) && ((WornF a w k).1.deep.lo == a.deep.lo && ((WornF a w k).1.deep.hi == a.deep.hi && true) && true)))) (Tree.bnd ((WornF a w k).1.kind == a.kind &&
    ((WornF a w k).1.at_.lo == a.at_.lo && ((WornF a w k).1.at_.hi == a.at_.hi && true) && (a.wide.lo == a.wide.lo && (a.wide.hi == a.wide.hi && true) && ((WornF a w k).1.deep.lo ==
    a.deep.lo && ((WornF a w k).1.deep.hi == a.deep.hi && true) && true))) && decide (IntKind.i64.wrap (y88 + y95) ≥ IntKind.i64.wrap ((1000 : Int) * (WornF a w k).1.wide.lo))) fun x96
    => Tree.need (!x96 || x96) (Tree.need (!x96 || x96) (Tree.need (!x96 || x96) (Tree.need (!x96 || x96 && x96) (Tree.need (!x96 || x96) (Tree.bnd (x96 && decide (IntKind.i64.wrap (y88
    + y95) ≤ IntKind.i64.wrap ((1000 : Int) * (WornF a w k).1.wide.hi))) fun x97 => Tree.need (!x97 || x97) (Tree.bnd (x97 || false) fun x98 => Tree.leaf (AV.bool false x98)
    []))))))))))))))))))))))))))))))))))))))))))))))))))))))))))))))))))))))))))))))))))))))))))))) (Tree.need (!!(FitF p a b).2 != (0 : Int) || !(FitF p a b).2 != (0 : Int)) (Tree.need
    (!!(FitF p a b).2 != (0 : Int) || !(FitF p a b).2 != (0 : Int) && !(FitF p a b).2 != (0 : Int)) (Tree.need ((FitF p a b).2 != (0 : Int) || !(FitF p a b).2 != (0 : Int)) (Tree.bnd
    ((FitF p a b).2 != (0 : Int) || !((BetweenF p a b).2 == (0 : Int)) == false) fun x99 => Tree.br x99 (Tree.leaf (AV.bool true false) []) (Tree.need (!(FitF p a b).1 == (0 : Int) ||
    (FitF p a b).1 == (0 : Int) && (FitF p a b).1 == (0 : Int)) (Tree.need (!(FitF p a b).1 == (0 : Int) || (FitF p a b).1 == (0 : Int)) (Tree.bnd ((FitF p a b).1 == (0 : Int) &&
    ((BetweenF p a b).1.off.lo == (0 : Int) && ((BetweenF p a b).1.off.hi == (0 : Int) && true) && ((BetweenF p a b).1.wide.lo == (0 : Int) && ((BetweenF p a b).1.wide.hi == (0 : Int)
    && true) && ((BetweenF p a b).1.deep.lo == (0 : Int) && ((BetweenF p a b).1.deep.hi == (0 : Int) && true) && true)))) fun x100 => Tree.need (!x100 || x100) (Tree.need (!x100 ||
    x100) (Tree.bnd (x100 && (BetweenF p a b).2 == (6 : Int)) fun x101 => Tree.need (!x101 || x101) (Tree.bnd (x101 || false) fun x102 => Tree.leaf (AV.bool false x102)
    []))))))))))))))))))))))))))))) := by kernel_rfl
end Go.Proofs.Ytdaanchagjamfaa
