/- The law FitMore, of the code. -/
import Derived.Test.YtdaanchagjamfaaTo
import Derived.Test.YtdaanchagjamfaaPe
namespace Go.Proofs.Ytdaanchagjamfaa
open Go.SX

def fitMoreF : Play × Edge × Edge × Sp × U8 × Unit → Bool × AV := fun | (p, (a, (b, (w, (y, _))))) => (decide (0 ≤ y.n ∧ y.n ≤ 255), .bool false true)
def fitMoreC : FC := pureFC (pfOf fitMoreF)
set_option maxRecDepth 100000 in
theorem fitMore_t (p : Play) (a : Edge) (b : Edge) (w : Sp) (y : U8) : execFn (mkS Try.prog tab_lawSpan) (hnd (mkS Try.prog tab_lawSpan) 8) false Try.f12 (EncL.enc ((p, a, b, w, y, ()) : Play × Edge × Edge × Sp × U8 × Unit)) [] 0 =
    Tree.need true (Tree.need true (Tree.need true (Tree.need true (Tree.need true (Tree.need true (Tree.need (!!(FitF p a b).1 != (FitF p b a).1 || !(FitF p a b).1 != (FitF p b a).1 &&
    !(FitF p a b).1 != (FitF p b a).1) (Tree.need ((FitF p a b).1 != (FitF p b a).1 || !(FitF p a b).1 != (FitF p b a).1) (Tree.bnd ((FitF p a b).1 != (FitF p b a).1 || (FitF p a b).2
    != (FitF p b a).2) fun x0 => Tree.need (!!x0 || !x0 && !x0) (Tree.need (x0 || !x0) (Tree.bnd (x0 || !((BetweenF p a b).1.off.lo == (BetweenF p b a).1.off.lo && ((BetweenF p a
    b).1.off.hi == (BetweenF p b a).1.off.hi && true) && ((BetweenF p a b).1.wide.lo == (BetweenF p b a).1.wide.lo && ((BetweenF p a b).1.wide.hi == (BetweenF p b a).1.wide.hi && true)
    && ((BetweenF p a b).1.deep.lo == (BetweenF p b a).1.deep.lo && ((BetweenF p a b).1.deep.hi == (BetweenF p b a).1.deep.hi && true) && true)))) fun x1 => Tree.need (!!x1 || !x1 &&
    !x1) (Tree.need (x1 || !x1) (Tree.bnd (x1 || (BetweenF p a b).2 != (BetweenF p b a).2) fun x2 => Tree.need (!!x2 || !x2 && !x2) (Tree.need (x2 || !x2) (Tree.bnd (x2 || (LastF p a b
    w).1 != (LastF p b a w).1) fun x3 => Tree.need (!!x3 || !x3 && !x3) (Tree.need (x3 || !x3) (Tree.bnd (x3 || (LastF p a b w).2.1 != (LastF p b a w).2.1) fun x4 => Tree.need (!!x4 ||
    !x4 && !x4) (Tree.need (x4 || !x4) (Tree.bnd (x4 || (LastF p a b w).2.2 != (LastF p b a w).2.2) fun x5 => Tree.br x5 (Tree.leaf (AV.bool true false) []) (Tree.need (!!(FitF p a b).2
    != (0 : Int) || true && !(FitF p a b).2 != (0 : Int)) (Tree.need (!!(FitF p a b).2 != (0 : Int) || !(FitF p a b).2 != (0 : Int)) (Tree.need ((FitF p a b).2 != (0 : Int) || !(FitF p
    a b).2 != (0 : Int)) (Tree.bnd ((FitF p a b).2 != (0 : Int) || !p.ok) fun x6 => Tree.br x6 (Tree.need (!(FitF p a b).2 == (1 : Int) || (FitF p a b).2 == (1 : Int)) (Tree.bnd ((FitF
    p a b).2 == (1 : Int) || false) fun x7 => Tree.leaf (AV.bool false x7) [])) (Tree.need true (Tree.need (!!(FitF (Play.mk p.length (min (500 : Int) (IntKind.i64.wrap (p.slack +
    IntKind.i64.wrap y.n))) p.loose p.damp) a b).2 != (0 : Int) || !(FitF (Play.mk p.length (min (500 : Int) (IntKind.i64.wrap (p.slack + IntKind.i64.wrap y.n))) p.loose p.damp) a b).2
    != (0 : Int)) (Tree.need (!!(FitF (Play.mk p.length (min (500 : Int) (IntKind.i64.wrap (p.slack + IntKind.i64.wrap y.n))) p.loose p.damp) a b).2 != (0 : Int) || !(FitF (Play.mk
    p.length (min (500 : Int) (IntKind.i64.wrap (p.slack + IntKind.i64.wrap y.n))) p.loose p.damp) a b).2 != (0 : Int)) (Tree.need (!(!(FitF (Play.mk p.length (min (500 : Int)
    (IntKind.i64.wrap (p.slack + IntKind.i64.wrap y.n))) p.loose p.damp) a b).2 != (0 : Int) && (FitF p a b).1 == (2 : Int)) || !(FitF (Play.mk p.length (min (500 : Int)
    (IntKind.i64.wrap (p.slack + IntKind.i64.wrap y.n))) p.loose p.damp) a b).2 != (0 : Int) && (FitF p a b).1 == (2 : Int) && (!(FitF (Play.mk p.length (min (500 : Int)
    (IntKind.i64.wrap (p.slack + IntKind.i64.wrap y.n))) p.loose p.damp) a b).2 != (0 : Int) && (FitF p a b).1 == (2 : Int))) (Tree.need (!!(FitF (Play.mk p.length (min (500 : Int)
    (IntKind.i64.wrap (p.slack + IntKind.i64.wrap y.n))) p.loose p.damp) a b).2 != (0 : Int) || !(FitF (Play.mk p.length (min (500 : Int) (IntKind.i64.wrap (p.slack + IntKind.i64.wrap
    y.n))) p.loose p.damp) a b).2 != (0 : Int) && (!(FitF p a b).1 == (2 : Int) || !(FitF (Play.mk p.length (min (500 : Int) (IntKind.i64.wrap (p.slack + IntKind.i64.wrap y.n))) p.loose
    p.damp) a b).2 != (0 : Int) && (FitF p a b).1 == (2 : Int))) (Tree.bnd ((FitF p a b).1 == (2 : Int) && (FitF (Play.mk p.length (min (500 : Int) (IntKind.i64.wrap (p.slack +
    IntKind.i64.wrap y.n))) p.loose p.damp) a b).1 != (FitF p a b).1) fun x8 => Tree.need ((FitF (Play.mk p.length (min (500 : Int) (IntKind.i64.wrap (p.slack + IntKind.i64.wrap y.n)))
    p.loose p.damp) a b).2 != (0 : Int) || !(FitF (Play.mk p.length (min (500 : Int) (IntKind.i64.wrap (p.slack + IntKind.i64.wrap y.n))) p.loose p.damp) a b).2 != (0 : Int)) (Tree.bnd
    ((FitF (Play.mk p.length (min (500 : Int) (IntKind.i64.wrap (p.slack + IntKind.i64.wrap y.n))) p.loose p.damp) a b).2 != (0 : Int) || x8) fun x9 => Tree.need (!!x9 || !x9)
    (Tree.need (!!x9 || !x9) (Tree.need (!(!x9 && (FitF p a b).1 == (1 : Int)) || !x9 && (FitF p a b).1 == (1 : Int)) (Tree.need (!!x9 || !x9 && (!(FitF p a b).1 == (1 : Int) || !x9 &&
    (FitF p a b).1 == (1 : Int))) (Tree.bnd ((FitF p a b).1 == (1 : Int) && (FitF (Play.mk p.length (min (500 : Int) (IntKind.i64.wrap (p.slack + IntKind.i64.wrap y.n))) p.loose p.damp)
    a b).1 == (0 : Int)) fun x10 => Tree.need (!!x9 || !x9) (Tree.need (!(!x9 && x10) || !x9 && x10 && (!x9 && x10)) (Tree.need (!!x9 || !x9 && (!x10 || !x9 && x10)) (Tree.bnd (x10 &&
    !(p.length == p.length && (min (500 : Int) (IntKind.i64.wrap (p.slack + IntKind.i64.wrap y.n)) == p.slack && (p.loose == p.loose && (p.damp.lo == p.damp.lo && (p.damp.hi == max
    p.damp.lo (IntKind.i64.wrap (p.damp.hi - (IntKind.i64.wrap y.n).tmod (5 : Int))) && true) && true))))) fun x11 => Tree.need (x9 || !x9) (Tree.bnd (x9 || x11) fun x12 => Tree.br x12
    (Tree.leaf (AV.bool true false) []) (Tree.need true (Tree.need (!!(FitF (Play.mk p.length p.slack (min (500 : Int) (IntKind.i64.wrap (p.loose + IntKind.i64.wrap y.n))) p.damp) a
    b).2 != (0 : Int) || !(FitF (Play.mk p.length p.slack (min (500 : Int) (IntKind.i64.wrap (p.loose + IntKind.i64.wrap y.n))) p.damp) a b).2 != (0 : Int)) (Tree.need (!!(FitF (Play.mk
    p.length p.slack (min (500 : Int) (IntKind.i64.wrap (p.loose + IntKind.i64.wrap y.n))) p.damp) a b).2 != (0 : Int) || !(FitF (Play.mk p.length p.slack (min (500 : Int)
    (IntKind.i64.wrap (p.loose + IntKind.i64.wrap y.n))) p.damp) a b).2 != (0 : Int)) (Tree.need (!(!(FitF (Play.mk p.length p.slack (min (500 : Int) (IntKind.i64.wrap (p.loose +
    IntKind.i64.wrap y.n))) p.damp) a b).2 != (0 : Int) && (FitF p a b).1 == (2 : Int)) || !(FitF (Play.mk p.length p.slack (min (500 : Int) (IntKind.i64.wrap (p.loose +
    IntKind.i64.wrap y.n))) p.damp) a b).2 != (0 : Int) && (FitF p a b).1 == (2 : Int) && (!(FitF (Play.mk p.length p.slack (min (500 : Int) (IntKind.i64.wrap (p.loose +
    IntKind.i64.wrap y.n))) p.damp) a b).2 != (0 : Int) && (FitF p a b).1 == (2 : Int))) (Tree.need (!!(FitF (Play.mk p.length p.slack (min (500 : Int) (IntKind.i64.wrap (p.loose +
    IntKind.i64.wrap y.n))) p.damp) a b).2 != (0 : Int) || !(FitF (Play.mk p.length p.slack (min (500 : Int) (IntKind.i64.wrap (p.loose + IntKind.i64.wrap y.n))) p.damp) a b).2 != (0 :
    Int) && (!(FitF p a b).1 == (2 : Int) || !(FitF (Play.mk p.length p.slack (min (500 : Int) (IntKind.i64.wrap (p.loose + IntKind.i64.wrap y.n))) p.damp) a b).2 != (0 : Int) && (FitF
    p a b).1 == (2 : Int))) (Tree.bnd ((FitF p a b).1 == (2 : Int) && (FitF (Play.mk p.length p.slack (min (500 : Int) (IntKind.i64.wrap (p.loose + IntKind.i64.wrap y.n))) p.damp) a
    b).1 != (FitF p a b).1) fun x13 => Tree.need ((FitF (Play.mk p.length p.slack (min (500 : Int) (IntKind.i64.wrap (p.loose + IntKind.i64.wrap y.n))) p.damp) a b).2 != (0 : Int) ||
    !(FitF (Play.mk p.length p.slack (min (500 : Int) (IntKind.i64.wrap (p.loose + IntKind.i64.wrap y.n))) p.damp) a b).2 != (0 : Int)) (Tree.bnd ((FitF (Play.mk p.length p.slack (min
    (500 : Int) (IntKind.i64.wrap (p.loose + IntKind.i64.wrap y.n))) p.damp) a b).2 != (0 : Int) || x13) fun x14 => Tree.need (!!x14 || !x14) (Tree.need (!!x14 || !x14) (Tree.need
    (!(!x14 && (FitF p a b).1 == (1 : Int)) || !x14 && (FitF p a b).1 == (1 : Int)) (Tree.need (!!x14 || !x14 && (!(FitF p a b).1 == (1 : Int) || !x14 && (FitF p a b).1 == (1 : Int)))
    (Tree.bnd ((FitF p a b).1 == (1 : Int) && (FitF (Play.mk p.length p.slack (min (500 : Int) (IntKind.i64.wrap (p.loose + IntKind.i64.wrap y.n))) p.damp) a b).1 == (0 : Int)) fun x15
    => Tree.need (!!x14 || !x14) (Tree.need (!(!x14 && x15) || !x14 && x15 && (!x14 && x15)) (Tree.need (!!x14 || !x14 && (!x15 || !x14 && x15)) (Tree.bnd (x15 && !(p.length == p.length
    && (p.slack == p.slack && (min (500 : Int) (IntKind.i64.wrap (p.loose + IntKind.i64.wrap y.n)) == p.loose && (p.damp.lo == p.damp.lo && (p.damp.hi == max p.damp.lo (IntKind.i64.wrap
    (p.damp.hi - (IntKind.i64.wrap y.n).tmod (5 : Int))) && true) && true))))) fun x16 => Tree.need (x14 || !x14) (Tree.bnd (x14 || x16) fun x17 => Tree.br x17 (Tree.leaf (AV.bool true
    false) []) (Tree.need true (Tree.need (!!(FitF (Play.mk p.length p.slack p.loose (Sp.mk p.damp.lo (max p.damp.lo (IntKind.i64.wrap (p.damp.hi - (IntKind.i64.wrap y.n).tmod (5 :
    Int)))))) a b).2 != (0 : Int) || !(FitF (Play.mk p.length p.slack p.loose (Sp.mk p.damp.lo (max p.damp.lo (IntKind.i64.wrap (p.damp.hi - (IntKind.i64.wrap y.n).tmod (5 : Int)))))) a
    b).2 != (0 : Int)) (Tree.need (!!(FitF (Play.mk p.length p.slack p.loose (Sp.mk p.damp.lo (max p.damp.lo (IntKind.i64.wrap (p.damp.hi - (IntKind.i64.wrap y.n).tmod (5 : Int)))))) a
    b).2 != (0 : Int) || !(FitF (Play.mk p.length p.slack p.loose (Sp.mk p.damp.lo (max p.damp.lo (IntKind.i64.wrap (p.damp.hi - (IntKind.i64.wrap y.n).tmod (5 : Int)))))) a b).2 != (0
    : Int)) (Tree.need (!(!(FitF (Play.mk p.length p.slack p.loose (Sp.mk p.damp.lo (max p.damp.lo (IntKind.i64.wrap (p.damp.hi - (IntKind.i64.wrap y.n).tmod (5 : Int)))))) a b).2 != (0
    : Int) && (FitF p a b).1 == (2 : Int)) || !(FitF (Play.mk p.length p.slack p.loose (Sp.mk p.damp.lo (max p.damp.lo (IntKind.i64.wrap (p.damp.hi - (IntKind.i64.wrap y.n).tmod (5 :
    Int)))))) a b).2 != (0 : Int) && (FitF p a b).1 == (2 : Int) && (!(FitF (Play.mk p.length p.slack p.loose (Sp.mk p.damp.lo (max p.damp.lo (IntKind.i64.wrap (p.damp.hi -
    (IntKind.i64.wrap y.n).tmod (5 : Int)))))) a b).2 != (0 : Int) && (FitF p a b).1 == (2 : Int))) (Tree.need (!!(FitF (Play.mk p.length p.slack p.loose (Sp.mk p.damp.lo (max p.damp.lo
    (IntKind.i64.wrap (p.damp.hi - (IntKind.i64.wrap y.n).tmod (5 : Int)))))) a b).2 != (0 : Int) || !(FitF (Play.mk p.length p.slack p.loose (Sp.mk p.damp.lo (max p.damp.lo
    (IntKind.i64.wrap (p.damp.hi - (IntKind.i64.wrap y.n).tmod (5 : Int)))))) a b).2 != (0 : Int) && (!(FitF p a b).1 == (2 : Int) || !(FitF (Play.mk p.length p.slack p.loose (Sp.mk
    p.damp.lo (max p.damp.lo (IntKind.i64.wrap (p.damp.hi - (IntKind.i64.wrap y.n).tmod (5 : Int)))))) a b).2 != (0 : Int) && (FitF p a b).1 == (2 : Int))) (Tree.bnd ((FitF p a b).1 ==
    (2 : Int) && (FitF (Play.mk p.length p.slack p.loose (Sp.mk p.damp.lo (max p.damp.lo (IntKind.i64.wrap (p.damp.hi - (IntKind.i64.wrap y.n).tmod (5 : Int)))))) a b).1 != (FitF p a
    b).1) fun x18 => Tree.need ((FitF (Play.mk p.length p.slack p.loose (Sp.mk p.damp.lo (max p.damp.lo (IntKind.i64.wrap (p.damp.hi - (IntKind.i64.wrap y.n).tmod (5 : Int)))))) a b).2
    != (0 : Int) || !(FitF (Play.mk p.length p.slack p.loose (Sp.mk p.damp.lo (max p.damp.lo (IntKind.i64.wrap (p.damp.hi - (IntKind.i64.wrap y.n).tmod (5 : Int)))))) a b).2 != (0 :
    Int)) (Tree.bnd ((FitF (Play.mk p.length p.slack p.loose (Sp.mk p.damp.lo (max p.damp.lo (IntKind.i64.wrap (p.damp.hi - (IntKind.i64.wrap y.n).tmod (5 : Int)))))) a b).2 != (0 :
    Int) || x18) fun x19 => Tree.need (!!x19 || !x19) (Tree.need (!!x19 || !x19) (Tree.need (!(!x19 && (FitF p a b).1 == (1 : Int)) || !x19 && (FitF p a b).1 == (1 : Int)) (Tree.need
    (!!x19 || !x19 && (!(FitF p a b).1 == (1 : Int) || !x19 && (FitF p a b).1 == (1 : Int))) (Tree.bnd ((FitF p a b).1 == (1 : Int) && (FitF (Play.mk p.length p.slack p.loose (Sp.mk
    p.damp.lo (max p.damp.lo (IntKind.i64.wrap (p.damp.hi - (IntKind.i64.wrap y.n).tmod (5 : Int)))))) a b).1 == (0 : Int)) fun x20 => Tree.need (!!x19 || !x19) (Tree.need (!(!x19 &&
    x20) || !x19 && x20 && (!x19 && x20)) (Tree.need (!!x19 || !x19 && (!x20 || !x19 && x20)) (Tree.bnd (x20 && !(p.length == p.length && (p.slack == p.slack && (p.loose == p.loose &&
    (p.damp.lo == p.damp.lo && (max p.damp.lo (IntKind.i64.wrap (p.damp.hi - (IntKind.i64.wrap y.n).tmod (5 : Int))) == max p.damp.lo (IntKind.i64.wrap (p.damp.hi - (IntKind.i64.wrap
    y.n).tmod (5 : Int))) && true) && true))))) fun x21 => Tree.need (x19 || !x19) (Tree.bnd (x19 || x21) fun x22 => Tree.br x22 (Tree.leaf (AV.bool true false) []) (Tree.need true
    (Tree.need (!(FitF p (Edge.mk a.kind (Sp.mk a.at_.lo (max a.at_.lo (IntKind.i64.wrap (a.at_.hi - (IntKind.i64.wrap y.n).tmod (7 : Int))))) (Sp.mk (min a.wide.hi (IntKind.i64.wrap
    (a.wide.lo + (IntKind.i64.wrap y.n).tmod (5 : Int)))) a.wide.hi) (Sp.mk a.deep.lo (max a.deep.lo (IntKind.i64.wrap (a.deep.hi - (IntKind.i64.wrap y.n).tmod (3 : Int)))))) b).2 == (0
    : Int) || (FitF p (Edge.mk a.kind (Sp.mk a.at_.lo (max a.at_.lo (IntKind.i64.wrap (a.at_.hi - (IntKind.i64.wrap y.n).tmod (7 : Int))))) (Sp.mk (min a.wide.hi (IntKind.i64.wrap
    (a.wide.lo + (IntKind.i64.wrap y.n).tmod (5 : Int)))) a.wide.hi) (Sp.mk a.deep.lo (max a.deep.lo (IntKind.i64.wrap (a.deep.hi - (IntKind.i64.wrap y.n).tmod (3 : Int)))))) b).2 == (0
    : Int)) (Tree.need (!(FitF p (Edge.mk a.kind (Sp.mk a.at_.lo (max a.at_.lo (IntKind.i64.wrap (a.at_.hi - (IntKind.i64.wrap y.n).tmod (7 : Int))))) (Sp.mk (min a.wide.hi
    (IntKind.i64.wrap (a.wide.lo + (IntKind.i64.wrap y.n).tmod (5 : Int)))) a.wide.hi) (Sp.mk a.deep.lo (max a.deep.lo (IntKind.i64.wrap (a.deep.hi - (IntKind.i64.wrap y.n).tmod (3 :
    Int)))))) b).2 == (0 : Int) || (FitF p (Edge.mk a.kind (Sp.mk a.at_.lo (max a.at_.lo (IntKind.i64.wrap (a.at_.hi - (IntKind.i64.wrap y.n).tmod (7 : Int))))) (Sp.mk (min a.wide.hi
    (IntKind.i64.wrap (a.wide.lo + (IntKind.i64.wrap y.n).tmod (5 : Int)))) a.wide.hi) (Sp.mk a.deep.lo (max a.deep.lo (IntKind.i64.wrap (a.deep.hi - (IntKind.i64.wrap y.n).tmod (3 :
    Int)))))) b).2 == (0 : Int)) (Tree.need (!((FitF p (Edge.mk a.kind (Sp.mk a.at_.lo (max a.at_.lo (IntKind.i64.wrap (a.at_.hi - (IntKind.i64.wrap y.n).tmod (7 : Int))))) (Sp.mk (min
    a.wide.hi (IntKind.i64.wrap (a.wide.lo + (IntKind.i64.wrap y.n).tmod (5 : Int)))) a.wide.hi) (Sp.mk a.deep.lo (max a.deep.lo (IntKind.i64.wrap (a.deep.hi - (IntKind.i64.wrap
    y.n).tmod (3 : Int)))))) b).2 == (0 : Int) && !(FitF p a b).1 == (1 : Int)) || (FitF p (Edge.mk a.kind (Sp.mk a.at_.lo (max a.at_.lo (IntKind.i64.wrap (a.at_.hi - (IntKind.i64.wrap
    y.n).tmod (7 : Int))))) (Sp.mk (min a.wide.hi (IntKind.i64.wrap (a.wide.lo + (IntKind.i64.wrap y.n).tmod (5 : Int)))) a.wide.hi) (Sp.mk a.deep.lo (max a.deep.lo (IntKind.i64.wrap
    (a.deep.hi - (IntKind.i64.wrap y.n).tmod (3 : Int)))))) b).2 == (0 : Int) && !(FitF p a b).1 == (1 : Int) && ((FitF p (Edge.mk a.kind (Sp.mk a.at_.lo (max a.at_.lo (IntKind.i64.wrap
    (a.at_.hi - (IntKind.i64.wrap y.n).tmod (7 : Int))))) (Sp.mk (min a.wide.hi (IntKind.i64.wrap (a.wide.lo + (IntKind.i64.wrap y.n).tmod (5 : Int)))) a.wide.hi) (Sp.mk a.deep.lo (max
    a.deep.lo (IntKind.i64.wrap (a.deep.hi - (IntKind.i64.wrap y.n).tmod (3 : Int)))))) b).2 == (0 : Int) && !(FitF p a b).1 == (1 : Int))) (Tree.need (!(FitF p (Edge.mk a.kind (Sp.mk
    a.at_.lo (max a.at_.lo (IntKind.i64.wrap (a.at_.hi - (IntKind.i64.wrap y.n).tmod (7 : Int))))) (Sp.mk (min a.wide.hi (IntKind.i64.wrap (a.wide.lo + (IntKind.i64.wrap y.n).tmod (5 :
    Int)))) a.wide.hi) (Sp.mk a.deep.lo (max a.deep.lo (IntKind.i64.wrap (a.deep.hi - (IntKind.i64.wrap y.n).tmod (3 : Int)))))) b).2 == (0 : Int) || (FitF p (Edge.mk a.kind (Sp.mk
    a.at_.lo (max a.at_.lo (IntKind.i64.wrap (a.at_.hi - (IntKind.i64.wrap y.n).tmod (7 : Int))))) (Sp.mk (min a.wide.hi (IntKind.i64.wrap (a.wide.lo + (IntKind.i64.wrap y.n).tmod (5 :
    Int)))) a.wide.hi) (Sp.mk a.deep.lo (max a.deep.lo (IntKind.i64.wrap (a.deep.hi - (IntKind.i64.wrap y.n).tmod (3 : Int)))))) b).2 == (0 : Int) && ((FitF p a b).1 == (1 : Int) ||
    (FitF p (Edge.mk a.kind (Sp.mk a.at_.lo (max a.at_.lo (IntKind.i64.wrap (a.at_.hi - (IntKind.i64.wrap y.n).tmod (7 : Int))))) (Sp.mk (min a.wide.hi (IntKind.i64.wrap (a.wide.lo +
    (IntKind.i64.wrap y.n).tmod (5 : Int)))) a.wide.hi) (Sp.mk a.deep.lo (max a.deep.lo (IntKind.i64.wrap (a.deep.hi - (IntKind.i64.wrap y.n).tmod (3 : Int)))))) b).2 == (0 : Int) &&
    !(FitF p a b).1 == (1 : Int))) (Tree.bnd ((FitF p a b).1 == (1 : Int) || (FitF p (Edge.mk a.kind (Sp.mk a.at_.lo (max a.at_.lo (IntKind.i64.wrap (a.at_.hi - (IntKind.i64.wrap
    y.n).tmod (7 : Int))))) (Sp.mk (min a.wide.hi (IntKind.i64.wrap (a.wide.lo + (IntKind.i64.wrap y.n).tmod (5 : Int)))) a.wide.hi) (Sp.mk a.deep.lo (max a.deep.lo (IntKind.i64.wrap
    (a.deep.hi - (IntKind.i64.wrap y.n).tmod (3 : Int)))))) b).1 == (FitF p a b).1) fun x23 => Tree.need (!(FitF p (Edge.mk a.kind (Sp.mk a.at_.lo (max a.at_.lo (IntKind.i64.wrap
    (a.at_.hi - (IntKind.i64.wrap y.n).tmod (7 : Int))))) (Sp.mk (min a.wide.hi (IntKind.i64.wrap (a.wide.lo + (IntKind.i64.wrap y.n).tmod (5 : Int)))) a.wide.hi) (Sp.mk a.deep.lo (max
    a.deep.lo (IntKind.i64.wrap (a.deep.hi - (IntKind.i64.wrap y.n).tmod (3 : Int)))))) b).2 == (0 : Int) || (FitF p (Edge.mk a.kind (Sp.mk a.at_.lo (max a.at_.lo (IntKind.i64.wrap
    (a.at_.hi - (IntKind.i64.wrap y.n).tmod (7 : Int))))) (Sp.mk (min a.wide.hi (IntKind.i64.wrap (a.wide.lo + (IntKind.i64.wrap y.n).tmod (5 : Int)))) a.wide.hi) (Sp.mk a.deep.lo (max
    a.deep.lo (IntKind.i64.wrap (a.deep.hi - (IntKind.i64.wrap y.n).tmod (3 : Int)))))) b).2 == (0 : Int)) (Tree.bnd ((FitF p (Edge.mk a.kind (Sp.mk a.at_.lo (max a.at_.lo
    (IntKind.i64.wrap (a.at_.hi - (IntKind.i64.wrap y.n).tmod (7 : Int))))) (Sp.mk (min a.wide.hi (IntKind.i64.wrap (a.wide.lo + (IntKind.i64.wrap y.n).tmod (5 : Int)))) a.wide.hi)
    (Sp.mk a.deep.lo (max a.deep.lo (IntKind.i64.wrap (a.deep.hi - (IntKind.i64.wrap y.n).tmod (3 : Int)))))) b).2 == (0 : Int) && x23) fun x24 => Tree.need (!x24 || x24) (Tree.bnd (x24
    || false) fun x25 => Tree.leaf (AV.bool false x25) []))))))))))))))))))))))))))))))))))))))))))))))))))))))))))))))))))))))))))) := by kernel_rfl
set_option maxHeartbeats 4000000 in
theorem fitMore_s : FSound Try.prog 12 fitMoreC := by
  refine plain_fnS tab_lawSpan_ok 8 Try.func12 (by kernel_rfl) (by kernel_rfl) ?_
  rintro ⟨p, a, b, w, y, ⟨⟩⟩ hp
  rw [fitMore_t p a b w y]
  simp only [fitMoreF, Tree.den, AV.same, AV.sameL, and_true, true_and] at hp ⊢
  simp only [decide_eq_true_eq] at hp
  rw [fit_sym p a b, between_sym p a b, last_sym p a b w, w64 (n := y.n) (by omega) (by omega)]
  rcases fit_cases p a b with ⟨eF, _⟩ | ⟨eF, hpk, ha, hb⟩
  · rw [eF]; simp
  · have hpi := hpk
    rw [Play.ok_iff] at hpi
    have h5 : 0 ≤ y.n.tmod 5 ∧ y.n.tmod 5 ≤ 4 := by
      rcases tdiv_k y.n 5 (by omega) with ⟨_, _, e⟩ | ⟨_, _, _⟩ <;> omega
    have h7 : 0 ≤ y.n.tmod 7 ∧ y.n.tmod 7 ≤ 6 := by
      rcases tdiv_k y.n 7 (by omega) with ⟨_, _, e⟩ | ⟨_, _, _⟩ <;> omega
    have h3 : 0 ≤ y.n.tmod 3 ∧ y.n.tmod 3 ≤ 2 := by
      rcases tdiv_k y.n 3 (by omega) with ⟨_, _, e⟩ | ⟨_, _, _⟩ <;> omega
    generalize y.n.tmod 5 = n5 at *
    generalize y.n.tmod 7 = n7 at *
    generalize y.n.tmod 3 = n3 at *
    rw [w64 (n := p.slack + y.n) (by omega) (by omega), w64 (n := p.loose + y.n) (by omega) (by omega), w64 (n := p.damp.hi - n5) (by omega) (by omega)]
    obtain ⟨r1, f1, f2, f3⟩ := fit_slack (n := y.n) hpk ha hb hp.1
    obtain ⟨r2, g1, g2, g3⟩ := fit_loose (n := y.n) hpk ha hb hp.1
    obtain ⟨r3, k1, k2, k3⟩ := fit_damp (n := n5) hpk ha hb h5.1
    obtain ⟨r4, t1, t2⟩ := fit_narrow (i := max a.at_.lo (IntKind.i64.wrap (a.at_.hi - n7))) (j := min a.wide.hi (IntKind.i64.wrap (a.wide.lo + n5))) (k := max a.deep.lo (IntKind.i64.wrap (a.deep.hi - n3))) hpk ha hb (fun hk => by
      rw [Edge.ok_iff] at ha
      rw [w64 (n := a.at_.hi - n7) (by omega) (by omega), w64 (n := a.wide.lo + n5) (by omega) (by omega), w64 (n := a.deep.hi - n3) (by omega) (by omega)]
      omega)
    rw [eF, f1, g1, k1, t1]
    clear f1 g1 k1 t1 eF
    rcases fits_cases p a b with hn | hn | hn <;> rw [hn] at t2 f2 f3 g2 g3 k2 k3 ⊢
    · have : r4 = 0 := by omega
      simp [this, hpk]
    · have e1 := f3 rfl
      have e2 := g3 rfl
      have e3 := k3 rfl
      simp [hpk, e1, e2, e3]
    · have e1 := f2 rfl
      have e2 := g2 rfl
      have e3 := k2 rfl
      have e4 : r4 = 2 := by omega
      simp [hpk, e1, e2, e3, e4]
def tab_fitMore : Tab := addF tab_lawSpan 12 fitMoreC
theorem tab_fitMore_ok : TabOk tab_fitMore := tab_lawSpan_ok.add fitMore_s
end Go.Proofs.Ytdaanchagjamfaa
