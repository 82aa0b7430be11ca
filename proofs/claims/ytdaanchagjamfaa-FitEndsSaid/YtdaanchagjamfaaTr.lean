/- The law FitEnds, of the code. -/
import Derived.Test.YtdaanchagjamfaaTo
namespace Go.Proofs.Ytdaanchagjamfaa
open Go.SX

set_option maxRecDepth 100000 in
theorem fitEnds_t (p : Play) (a b : Edge) : execFn (mkJ Try.prog tab_lawSpan []) (hnd (mkJ Try.prog tab_lawSpan []) 14) false Try.f8 (EncL.enc ((p, a, b, ()) : Play × Edge × Edge × Unit)) [] 0 =
    Tree.need true (Tree.need true (Tree.need (!!(BetweenF p a b).2 != (0 : Int) || true && !(BetweenF p a b).2 != (0 : Int)) (Tree.need (!!(BetweenF p a b).2 != (0 : Int) || !(BetweenF
    p a b).2 != (0 : Int)) (Tree.need ((BetweenF p a b).2 != (0 : Int) || !(BetweenF p a b).2 != (0 : Int)) (Tree.bnd ((BetweenF p a b).2 != (0 : Int) || !p.ok) fun x0 => Tree.br x0
    (Tree.need (!((BetweenF p a b).1.off.lo == (0 : Int) && ((BetweenF p a b).1.off.hi == (0 : Int) && true) && ((BetweenF p a b).1.wide.lo == (0 : Int) && ((BetweenF p a b).1.wide.hi
    == (0 : Int) && true) && ((BetweenF p a b).1.deep.lo == (0 : Int) && ((BetweenF p a b).1.deep.hi == (0 : Int) && true) && true))) || (BetweenF p a b).1.off.lo == (0 : Int) &&
    ((BetweenF p a b).1.off.hi == (0 : Int) && true) && ((BetweenF p a b).1.wide.lo == (0 : Int) && ((BetweenF p a b).1.wide.hi == (0 : Int) && true) && ((BetweenF p a b).1.deep.lo ==
    (0 : Int) && ((BetweenF p a b).1.deep.hi == (0 : Int) && true) && true))) (Tree.need (!((BetweenF p a b).1.off.lo == (0 : Int) && ((BetweenF p a b).1.off.hi == (0 : Int) && true) &&
    ((BetweenF p a b).1.wide.lo == (0 : Int) && ((BetweenF p a b).1.wide.hi == (0 : Int) && true) && ((BetweenF p a b).1.deep.lo == (0 : Int) && ((BetweenF p a b).1.deep.hi == (0 : Int)
    && true) && true))) || (BetweenF p a b).1.off.lo == (0 : Int) && ((BetweenF p a b).1.off.hi == (0 : Int) && true) && ((BetweenF p a b).1.wide.lo == (0 : Int) && ((BetweenF p a
    b).1.wide.hi == (0 : Int) && true) && ((BetweenF p a b).1.deep.lo == (0 : Int) && ((BetweenF p a b).1.deep.hi == (0 : Int) && true) && true))) (Tree.need (!((BetweenF p a
    b).1.off.lo == (0 : Int) && ((BetweenF p a b).1.off.hi == (0 : Int) && true) && ((BetweenF p a b).1.wide.lo == (0 : Int) && ((BetweenF p a b).1.wide.hi == (0 : Int) && true) &&
    ((BetweenF p a b).1.deep.lo == (0 : Int) && ((BetweenF p a b).1.deep.hi == (0 : Int) && true) && true)) && !(BetweenF p a b).2 == (1 : Int)) || (BetweenF p a b).1.off.lo == (0 :
    Int) && ((BetweenF p a b).1.off.hi == (0 : Int) && true) && ((BetweenF p a b).1.wide.lo == (0 : Int) && ((BetweenF p a b).1.wide.hi == (0 : Int) && true) && ((BetweenF p a
    b).1.deep.lo == (0 : Int) && ((BetweenF p a b).1.deep.hi == (0 : Int) && true) && true)) && !(BetweenF p a b).2 == (1 : Int)) (Tree.need (!((BetweenF p a b).1.off.lo == (0 : Int) &&
    ((BetweenF p a b).1.off.hi == (0 : Int) && true) && ((BetweenF p a b).1.wide.lo == (0 : Int) && ((BetweenF p a b).1.wide.hi == (0 : Int) && true) && ((BetweenF p a b).1.deep.lo ==
    (0 : Int) && ((BetweenF p a b).1.deep.hi == (0 : Int) && true) && true))) || (BetweenF p a b).1.off.lo == (0 : Int) && ((BetweenF p a b).1.off.hi == (0 : Int) && true) && ((BetweenF
    p a b).1.wide.lo == (0 : Int) && ((BetweenF p a b).1.wide.hi == (0 : Int) && true) && ((BetweenF p a b).1.deep.lo == (0 : Int) && ((BetweenF p a b).1.deep.hi == (0 : Int) && true)
    && true)) && ((BetweenF p a b).2 == (1 : Int) || (BetweenF p a b).1.off.lo == (0 : Int) && ((BetweenF p a b).1.off.hi == (0 : Int) && true) && ((BetweenF p a b).1.wide.lo == (0 :
    Int) && ((BetweenF p a b).1.wide.hi == (0 : Int) && true) && ((BetweenF p a b).1.deep.lo == (0 : Int) && ((BetweenF p a b).1.deep.hi == (0 : Int) && true) && true)) && !(BetweenF p
    a b).2 == (1 : Int))) (Tree.bnd ((BetweenF p a b).2 == (1 : Int) || (BetweenF p a b).2 == (6 : Int)) fun x1 => Tree.need (!((BetweenF p a b).1.off.lo == (0 : Int) && ((BetweenF p a
    b).1.off.hi == (0 : Int) && true) && ((BetweenF p a b).1.wide.lo == (0 : Int) && ((BetweenF p a b).1.wide.hi == (0 : Int) && true) && ((BetweenF p a b).1.deep.lo == (0 : Int) &&
    ((BetweenF p a b).1.deep.hi == (0 : Int) && true) && true))) || (BetweenF p a b).1.off.lo == (0 : Int) && ((BetweenF p a b).1.off.hi == (0 : Int) && true) && ((BetweenF p a
    b).1.wide.lo == (0 : Int) && ((BetweenF p a b).1.wide.hi == (0 : Int) && true) && ((BetweenF p a b).1.deep.lo == (0 : Int) && ((BetweenF p a b).1.deep.hi == (0 : Int) && true) &&
    true))) (Tree.bnd ((BetweenF p a b).1.off.lo == (0 : Int) && ((BetweenF p a b).1.off.hi == (0 : Int) && true) && ((BetweenF p a b).1.wide.lo == (0 : Int) && ((BetweenF p a
    b).1.wide.hi == (0 : Int) && true) && ((BetweenF p a b).1.deep.lo == (0 : Int) && ((BetweenF p a b).1.deep.hi == (0 : Int) && true) && true)) && x1) fun x2 => Tree.need (!x2 || x2)
    (Tree.need (!x2 || x2) (Tree.need (!(x2 && !(FitF p a b).2 == (0 : Int)) || x2 && !(FitF p a b).2 == (0 : Int) && (x2 && !(FitF p a b).2 == (0 : Int))) (Tree.need (!x2 || x2 &&
    ((FitF p a b).2 == (0 : Int) || x2 && !(FitF p a b).2 == (0 : Int))) (Tree.bnd ((FitF p a b).2 == (0 : Int) || (FitF p a b).2 == (BetweenF p a b).2) fun x3 => Tree.need (!x2 || x2)
    (Tree.bnd (x2 && x3) fun x4 => Tree.need (!x4 || x4) (Tree.bnd (x4 || false) fun x5 => Tree.leaf (AV.bool false x5) [])))))))))))) (Tree.need (!a.kind == (1 : Int) || a.kind == (1 :
    Int)) (Tree.need (!a.kind == (1 : Int) || a.kind == (1 : Int)) (Tree.need (!a.kind == (1 : Int) || a.kind == (1 : Int)) (Tree.bnd (a.kind == (1 : Int) && b.kind == (2 : Int)) fun x6
    => Tree.br x6 (Tree.br ((FitF p a b).2 != (0 : Int)) (Tree.leaf (AV.bool true false) []) (Tree.need (decide (Couple.mk p a b).B) (Tree.bndI (IntKind.i64.wrap ((offBy p a b).lo *
    IntKind.i64.wrap ((1000 : Int) + p.damp.lo))) fun y7 => Tree.bndI (IntKind.i64.wrap ((offBy p a b).hi * IntKind.i64.wrap ((1000 : Int) + p.damp.lo))) fun y8 => Tree.bndI
    (IntKind.i64.wrap ((offBy p a b).lo * IntKind.i64.wrap ((1000 : Int) + p.damp.lo))) fun y9 => Tree.bndI (IntKind.i64.wrap ((offBy p a b).hi * IntKind.i64.wrap ((1000 : Int) +
    p.damp.lo))) fun y10 => Tree.bndI (IntKind.i64.wrap ((offBy p a b).lo * IntKind.i64.wrap ((1000 : Int) + p.damp.lo))) fun y11 => Tree.bndI (IntKind.i64.wrap ((1000 : Int) *
    IntKind.i64.wrap ((0 : Int) - p.slack))) fun y12 => Tree.need (!decide (y11 ≥ y12) || decide (y11 ≥ y12)) (Tree.need (!decide (y11 ≥ y12) || decide (y11 ≥ y12)) (Tree.need (!decide
    (y11 ≥ y12) || decide (y11 ≥ y12) && decide (y11 ≥ y12)) (Tree.need (!decide (y11 ≥ y12) || decide (y11 ≥ y12)) (Tree.need (!decide (y11 ≥ y12) || decide (y11 ≥ y12) && decide (y11
    ≥ y12)) (Tree.need (!decide (y11 ≥ y12) || decide (y11 ≥ y12)) (Tree.bnd (decide (y11 ≥ y12) && decide (IntKind.i64.wrap ((offBy p a b).hi * IntKind.i64.wrap ((1000 : Int) +
    p.damp.lo)) ≤ IntKind.i64.wrap ((1000 : Int) * p.slack))) fun x13 => Tree.bndI (IntKind.i64.wrap ((offBy p a b).lo * IntKind.i64.wrap ((1000 : Int) + p.damp.hi))) fun y14 =>
    Tree.bndI (IntKind.i64.wrap ((offBy p a b).hi * IntKind.i64.wrap ((1000 : Int) + p.damp.hi))) fun y15 => Tree.need (!x13 || x13) (Tree.need (!x13 || x13) (Tree.need (!x13 || x13 &&
    x13) (Tree.need (!x13 || x13) (Tree.need (!x13 || x13 && x13) (Tree.need (!x13 || x13) (Tree.bnd (x13 && decide (IntKind.i64.wrap ((offBy p a b).lo * IntKind.i64.wrap ((1000 : Int)
    + p.damp.hi)) ≥ IntKind.i64.wrap ((1000 : Int) * IntKind.i64.wrap ((0 : Int) - p.slack)))) fun x16 => Tree.need (!x16 || x16) (Tree.need (!x16 || x16) (Tree.need (!x16 || x16 &&
    x16) (Tree.need (!x16 || x16) (Tree.need (!x16 || x16 && x16) (Tree.need (!x16 || x16) (Tree.bnd (x16 && decide (IntKind.i64.wrap ((offBy p a b).hi * IntKind.i64.wrap ((1000 : Int)
    + p.damp.hi)) ≤ IntKind.i64.wrap ((1000 : Int) * p.slack))) fun x17 => Tree.all fun g18 => Tree.all fun g19 => Tree.bndI (IntKind.i64.wrap ((bif decide ((offBy p a b).hi < (0 :
    Int)) then (offBy p a b).hi else bif decide ((offBy p a b).lo > (0 : Int)) then (offBy p a b).lo else (0 : Int)) * IntKind.i64.wrap ((1000 : Int) + p.damp.lo))) fun y20 => Tree.bndI
    (IntKind.i64.wrap ((1000 : Int) * IntKind.i64.wrap ((0 : Int) - p.slack))) fun y21 => Tree.need (!!decide (y20 < y21) || !decide (y20 < y21)) (Tree.need (!!decide (y20 < y21) ||
    !decide (y20 < y21)) (Tree.need (!!decide (y20 < y21) || !decide (y20 < y21)) (Tree.need (!!decide (y20 < y21) || !decide (y20 < y21) && !decide (y20 < y21)) (Tree.need (!!decide
    (y20 < y21) || !decide (y20 < y21)) (Tree.need (!!decide (y20 < y21) || !decide (y20 < y21) && !decide (y20 < y21)) (Tree.need (decide (y20 < y21) || !decide (y20 < y21)) (Tree.bnd
    (decide (y20 < y21) || decide (IntKind.i64.wrap ((bif decide ((offBy p a b).hi < (0 : Int)) then (offBy p a b).hi else bif decide ((offBy p a b).lo > (0 : Int)) then (offBy p a
    b).lo else (0 : Int)) * IntKind.i64.wrap ((1000 : Int) + p.damp.lo)) > IntKind.i64.wrap ((1000 : Int) * p.slack))) fun x22 => Tree.need (decide (Sm (min (min y7 y9) y14) ∧ (1000 :
    Int) = (1000 : Int))) (Tree.need (!!(BetweenF p a b).1.off.lo != down (min (min y7 y9) y14) || !(BetweenF p a b).1.off.lo != down (min (min y7 y9) y14)) (Tree.need (!!(BetweenF p a
    b).1.off.lo != down (min (min y7 y9) y14) || decide (Sm (max (max y8 y10) y15) ∧ (1000 : Int) = (1000 : Int)) && !(BetweenF p a b).1.off.lo != down (min (min y7 y9) y14)) (Tree.need
    (!!(BetweenF p a b).1.off.lo != down (min (min y7 y9) y14) || !(BetweenF p a b).1.off.lo != down (min (min y7 y9) y14) && !(BetweenF p a b).1.off.lo != down (min (min y7 y9) y14))
    (Tree.need ((BetweenF p a b).1.off.lo != down (min (min y7 y9) y14) || !(BetweenF p a b).1.off.lo != down (min (min y7 y9) y14)) (Tree.bnd ((BetweenF p a b).1.off.lo != down (min
    (min y7 y9) y14) || (BetweenF p a b).1.off.hi != up (max (max y8 y10) y15)) fun x23 => Tree.br x23 (Tree.leaf (AV.bool true false) []) (Tree.bndI (IntKind.i64.wrap ((wideBy a b).lo
    * IntKind.i64.wrap ((1000 : Int) + p.damp.lo))) fun y24 => Tree.bndI (IntKind.i64.wrap ((wideBy a b).hi * IntKind.i64.wrap ((1000 : Int) + p.damp.lo))) fun y25 => Tree.bndI
    (IntKind.i64.wrap ((wideBy a b).lo * IntKind.i64.wrap ((1000 : Int) + p.damp.lo))) fun y26 => Tree.bndI (IntKind.i64.wrap ((wideBy a b).hi * IntKind.i64.wrap ((1000 : Int) +
    p.damp.lo))) fun y27 => Tree.need (!x17 || x17) (Tree.need (!x17 || x17) (Tree.need (!x17 || x17 && x17) (Tree.need (!x17 || x17) (Tree.need (!x17 || x17 && x17) (Tree.need (!x17 ||
    x17) (Tree.bnd (x17 && decide (IntKind.i64.wrap ((wideBy a b).lo * IntKind.i64.wrap ((1000 : Int) + p.damp.lo)) ≥ (0 : Int))) fun x28 => Tree.need (!x28 || x28) (Tree.need (!x28 ||
    x28) (Tree.need (!x28 || x28 && x28) (Tree.need (!x28 || x28) (Tree.need (!x28 || x28 && x28) (Tree.need (!x28 || x28) (Tree.bnd (x28 && decide (IntKind.i64.wrap ((wideBy a b).hi *
    IntKind.i64.wrap ((1000 : Int) + p.damp.lo)) ≤ IntKind.i64.wrap ((1000 : Int) * p.loose))) fun x29 => Tree.bndI (IntKind.i64.wrap ((wideBy a b).lo * IntKind.i64.wrap ((1000 : Int) +
    p.damp.hi))) fun y30 => Tree.bndI (IntKind.i64.wrap ((wideBy a b).hi * IntKind.i64.wrap ((1000 : Int) + p.damp.hi))) fun y31 => Tree.need (!x29 || x29) (Tree.need (!x29 || x29)
    (Tree.need (!x29 || x29 && x29) (Tree.need (!x29 || x29) (Tree.need (!x29 || x29 && x29) (Tree.need (!x29 || x29) (Tree.bnd (x29 && decide (IntKind.i64.wrap ((wideBy a b).lo *
    IntKind.i64.wrap ((1000 : Int) + p.damp.hi)) ≥ (0 : Int))) fun x32 => Tree.need (!x32 || x32) (Tree.need (!x32 || x32) (Tree.need (!x32 || x32 && x32) (Tree.need (!x32 || x32)
    (Tree.need (!x32 || x32 && x32) (Tree.need (!x32 || x32) (Tree.bnd (x32 && decide (IntKind.i64.wrap ((wideBy a b).hi * IntKind.i64.wrap ((1000 : Int) + p.damp.hi)) ≤
    IntKind.i64.wrap ((1000 : Int) * p.loose))) fun x33 => Tree.all fun g34 => Tree.all fun g35 => Tree.need (!!x22 || !x22) (Tree.need (!!x22 || !x22) (Tree.need (!!x22 || !x22)
    (Tree.need (!!x22 || !x22 && !x22) (Tree.need (!!x22 || !x22) (Tree.need (!!x22 || !x22 && !x22) (Tree.need (x22 || !x22) (Tree.bnd (x22 || decide (IntKind.i64.wrap ((bif decide
    ((wideBy a b).hi < (0 : Int)) then (wideBy a b).hi else bif decide ((wideBy a b).lo > (0 : Int)) then (wideBy a b).lo else (0 : Int)) * IntKind.i64.wrap ((1000 : Int) + p.damp.lo))
    < (0 : Int))) fun x36 => Tree.need (!!x36 || !x36) (Tree.need (!!x36 || !x36) (Tree.need (!!x36 || !x36) (Tree.need (!!x36 || !x36 && !x36) (Tree.need (!!x36 || !x36) (Tree.need
    (!!x36 || !x36 && !x36) (Tree.need (x36 || !x36) (Tree.bnd (x36 || decide (IntKind.i64.wrap ((bif decide ((wideBy a b).hi < (0 : Int)) then (wideBy a b).hi else bif decide ((wideBy
    a b).lo > (0 : Int)) then (wideBy a b).lo else (0 : Int)) * IntKind.i64.wrap ((1000 : Int) + p.damp.lo)) > IntKind.i64.wrap ((1000 : Int) * p.loose))) fun x37 => Tree.need (decide
    (Sm (min (min y24 y26) y30) ∧ (1000 : Int) = (1000 : Int))) (Tree.need (!!(BetweenF p a b).1.wide.lo != down (min (min y24 y26) y30) || !(BetweenF p a b).1.wide.lo != down (min (min
    y24 y26) y30)) (Tree.need (!!(BetweenF p a b).1.wide.lo != down (min (min y24 y26) y30) || decide (Sm (max (max y25 y27) y31) ∧ (1000 : Int) = (1000 : Int)) && !(BetweenF p a
    b).1.wide.lo != down (min (min y24 y26) y30)) (Tree.need (!!(BetweenF p a b).1.wide.lo != down (min (min y24 y26) y30) || !(BetweenF p a b).1.wide.lo != down (min (min y24 y26) y30)
    && !(BetweenF p a b).1.wide.lo != down (min (min y24 y26) y30)) (Tree.need ((BetweenF p a b).1.wide.lo != down (min (min y24 y26) y30) || !(BetweenF p a b).1.wide.lo != down (min
    (min y24 y26) y30)) (Tree.bnd ((BetweenF p a b).1.wide.lo != down (min (min y24 y26) y30) || (BetweenF p a b).1.wide.hi != up (max (max y25 y27) y31)) fun x38 => Tree.br x38
    (Tree.leaf (AV.bool true false) []) (Tree.bndI (IntKind.i64.wrap ((deepBy a b).lo * IntKind.i64.wrap ((1000 : Int) + p.damp.lo))) fun y39 => Tree.bndI (IntKind.i64.wrap ((deepBy a
    b).hi * IntKind.i64.wrap ((1000 : Int) + p.damp.lo))) fun y40 => Tree.bndI (IntKind.i64.wrap ((deepBy a b).lo * IntKind.i64.wrap ((1000 : Int) + p.damp.lo))) fun y41 => Tree.bndI
    (IntKind.i64.wrap ((deepBy a b).hi * IntKind.i64.wrap ((1000 : Int) + p.damp.lo))) fun y42 => Tree.need (!x33 || x33) (Tree.need (!x33 || x33) (Tree.need (!x33 || x33 && x33)
    (Tree.need (!x33 || x33) (Tree.need (!x33 || x33 && x33) (Tree.need (!x33 || x33) (Tree.bnd (x33 && decide (IntKind.i64.wrap ((deepBy a b).lo * IntKind.i64.wrap ((1000 : Int) +
    p.damp.lo)) ≥ (0 : Int))) fun x43 => Tree.need (!x43 || x43) (Tree.need (!x43 || x43) (Tree.need (!x43 || x43 && x43) (Tree.need (!x43 || x43) (Tree.need (!x43 || x43 && x43)
    (Tree.need (!x43 || x43) (Tree.bnd (x43 && decide (IntKind.i64.wrap ((deepBy a b).hi * IntKind.i64.wrap ((1000 : Int) + p.damp.lo)) ≤ IntKind.i64.wrap ((1000 : Int) * p.loose))) fun
    x44 => Tree.bndI (IntKind.i64.wrap ((deepBy a b).lo * IntKind.i64.wrap ((1000 : Int) + p.damp.hi))) fun y45 => Tree.bndI (IntKind.i64.wrap ((deepBy a b).hi * IntKind.i64.wrap ((1000
    : Int) + p.damp.hi))) fun y46 => Tree.need (!x44 || x44) (Tree.need (!x44 || x44) (Tree.need (!x44 || x44 && x44) (Tree.need (!x44 || x44) (Tree.need (!x44 || x44 && x44) (Tree.need
    (!x44 || x44) (Tree.bnd (x44 && decide (IntKind.i64.wrap ((deepBy a b).lo * IntKind.i64.wrap ((1000 : Int) + p.damp.hi)) ≥ (0 : Int))) fun x47 => Tree.need (!x47 || x47) (Tree.need
    (!x47 || x47) (Tree.need (!x47 || x47 && x47) (Tree.need (!x47 || x47) (Tree.need (!x47 || x47 && x47) (Tree.need (!x47 || x47) (Tree.bnd (x47 && decide (IntKind.i64.wrap ((deepBy a
    b).hi * IntKind.i64.wrap ((1000 : Int) + p.damp.hi)) ≤ IntKind.i64.wrap ((1000 : Int) * p.loose))) fun x48 => Tree.all fun g49 => Tree.all fun g50 => Tree.need (!!x37 || !x37)
    (Tree.need (!!x37 || !x37) (Tree.need (!!x37 || !x37) (Tree.need (!!x37 || !x37 && !x37) (Tree.need (!!x37 || !x37) (Tree.need (!!x37 || !x37 && !x37) (Tree.need (x37 || !x37)
    (Tree.bnd (x37 || decide (IntKind.i64.wrap ((bif decide ((deepBy a b).hi < (0 : Int)) then (deepBy a b).hi else bif decide ((deepBy a b).lo > (0 : Int)) then (deepBy a b).lo else (0
    : Int)) * IntKind.i64.wrap ((1000 : Int) + p.damp.lo)) < (0 : Int))) fun x51 => Tree.need (!!x51 || !x51) (Tree.need (!!x51 || !x51) (Tree.need (!!x51 || !x51) (Tree.need (!!x51 ||
    !x51 && !x51) (Tree.need (!!x51 || !x51) (Tree.need (!!x51 || !x51 && !x51) (Tree.need (x51 || !x51) (Tree.bnd (x51 || decide (IntKind.i64.wrap ((bif decide ((deepBy a b).hi < (0 :
    Int)) then (deepBy a b).hi else bif decide ((deepBy a b).lo > (0 : Int)) then (deepBy a b).lo else (0 : Int)) * IntKind.i64.wrap ((1000 : Int) + p.damp.lo)) > IntKind.i64.wrap
    ((1000 : Int) * p.loose))) fun x52 => Tree.need (decide (Sm (min (min y39 y41) y45) ∧ (1000 : Int) = (1000 : Int))) (Tree.need (!!(BetweenF p a b).1.deep.lo != down (min (min y39
    y41) y45) || !(BetweenF p a b).1.deep.lo != down (min (min y39 y41) y45)) (Tree.need (!!(BetweenF p a b).1.deep.lo != down (min (min y39 y41) y45) || decide (Sm (max (max y40 y42)
    y46) ∧ (1000 : Int) = (1000 : Int)) && !(BetweenF p a b).1.deep.lo != down (min (min y39 y41) y45)) (Tree.need (!!(BetweenF p a b).1.deep.lo != down (min (min y39 y41) y45) ||
    !(BetweenF p a b).1.deep.lo != down (min (min y39 y41) y45) && !(BetweenF p a b).1.deep.lo != down (min (min y39 y41) y45)) (Tree.need ((BetweenF p a b).1.deep.lo != down (min (min
    y39 y41) y45) || !(BetweenF p a b).1.deep.lo != down (min (min y39 y41) y45)) (Tree.bnd ((BetweenF p a b).1.deep.lo != down (min (min y39 y41) y45) || (BetweenF p a b).1.deep.hi !=
    up (max (max y40 y42) y46)) fun x53 => Tree.br x53 (Tree.leaf (AV.bool true false) []) (Tree.need (!((FitF p a b).1 == (2 : Int)) == x48 || ((FitF p a b).1 == (2 : Int)) == x48)
    (Tree.need (!((FitF p a b).1 == (2 : Int)) == x48 || ((FitF p a b).1 == (2 : Int)) == x48 && ((FitF p a b).1 == (2 : Int)) == x48) (Tree.need (!((FitF p a b).1 == (2 : Int)) == x48
    || ((FitF p a b).1 == (2 : Int)) == x48) (Tree.bnd (((FitF p a b).1 == (2 : Int)) == x48 && ((FitF p a b).1 == (0 : Int)) == x52) fun x54 => Tree.need (!x54 || x54) (Tree.bnd (x54
    || false) fun x55 => Tree.leaf (AV.bool false x55) []))))))))))))))))))))))))))))))))))))))))))))))))))))))))))))))))))))))))))))))))))))))))))))))))))))))))))))))))))))))))))))))
    (Tree.need (!b.kind == (1 : Int) || b.kind == (1 : Int)) (Tree.need (!b.kind == (1 : Int) || b.kind == (1 : Int)) (Tree.need (!b.kind == (1 : Int) || b.kind == (1 : Int)) (Tree.bnd
    (b.kind == (1 : Int) && a.kind == (2 : Int)) fun x56 => Tree.br x56 (Tree.br ((FitF p a b).2 != (0 : Int)) (Tree.leaf (AV.bool true false) []) (Tree.need (decide (Couple.mk p b
    a).B) (Tree.bndI (IntKind.i64.wrap ((offBy p b a).lo * IntKind.i64.wrap ((1000 : Int) + p.damp.lo))) fun y57 => Tree.bndI (IntKind.i64.wrap ((offBy p b a).hi * IntKind.i64.wrap
    ((1000 : Int) + p.damp.lo))) fun y58 => Tree.bndI (IntKind.i64.wrap ((offBy p b a).lo * IntKind.i64.wrap ((1000 : Int) + p.damp.lo))) fun y59 => Tree.bndI (IntKind.i64.wrap ((offBy
    p b a).hi * IntKind.i64.wrap ((1000 : Int) + p.damp.lo))) fun y60 => Tree.bndI (IntKind.i64.wrap ((offBy p b a).lo * IntKind.i64.wrap ((1000 : Int) + p.damp.lo))) fun y61 =>
    Tree.bndI (IntKind.i64.wrap ((1000 : Int) * IntKind.i64.wrap ((0 : Int) - p.slack))) fun y62 => Tree.need (!decide (y61 ≥ y62) || decide (y61 ≥ y62)) (Tree.need (!decide (y61 ≥ y62)
    || decide (y61 ≥ y62)) (Tree.need (!decide (y61 ≥ y62) || decide (y61 ≥ y62) && decide (y61 ≥ y62)) (Tree.need (!decide (y61 ≥ y62) || decide (y61 ≥ y62)) (Tree.need (!decide (y61 ≥
    y62) || decide (y61 ≥ y62) && decide (y61 ≥ y62)) (Tree.need (!decide (y61 ≥ y62) || decide (y61 ≥ y62)) (Tree.bnd (decide (y61 ≥ y62) && decide (IntKind.i64.wrap ((offBy p b a).hi
    * IntKind.i64.wrap ((1000 : Int) + p.damp.lo)) ≤ IntKind.i64.wrap ((1000 : Int) * p.slack))) fun x63 => Tree.bndI (IntKind.i64.wrap ((offBy p b a).lo * IntKind.i64.wrap ((1000 :
    Int) + p.damp.hi))) fun y64 => Tree.bndI (IntKind.i64.wrap ((offBy p b a).hi * IntKind.i64.wrap ((1000 : Int) + p.damp.hi))) fun y65 => Tree.need (!x63 || x63) (Tree.need (!x63 ||
    x63) (Tree.need (!x63 || x63 && x63) (Tree.need (!x63 || x63) (Tree.need (!x63 || x63 && x63) (Tree.need (!x63 || x63) (Tree.bnd (x63 && decide (IntKind.i64.wrap ((offBy p b a).lo *
    IntKind.i64.wrap ((1000 : Int) + p.damp.hi)) ≥ IntKind.i64.wrap ((1000 : Int) * IntKind.i64.wrap ((0 : Int) - p.slack)))) fun x66 => Tree.need (!x66 || x66) (Tree.need (!x66 || x66)
    (Tree.need (!x66 || x66 && x66) (Tree.need (!x66 || x66) (Tree.need (!x66 || x66 && x66) (Tree.need (!x66 || x66) (Tree.bnd (x66 && decide (IntKind.i64.wrap ((offBy p b a).hi *
    IntKind.i64.wrap ((1000 : Int) + p.damp.hi)) ≤ IntKind.i64.wrap ((1000 : Int) * p.slack))) fun x67 => Tree.all fun g68 => Tree.all fun g69 => Tree.bndI (IntKind.i64.wrap ((bif
    decide ((offBy p b a).hi < (0 : Int)) then (offBy p b a).hi else bif decide ((offBy p b a).lo > (0 : Int)) then (offBy p b a).lo else (0 : Int)) * IntKind.i64.wrap ((1000 : Int) +
    p.damp.lo))) fun y70 => Tree.bndI (IntKind.i64.wrap ((1000 : Int) * IntKind.i64.wrap ((0 : Int) - p.slack))) fun y71 => Tree.need (!!decide (y70 < y71) || !decide (y70 < y71))
    (Tree.need (!!decide (y70 < y71) || !decide (y70 < y71)) (Tree.need (!!decide (y70 < y71) || !decide (y70 < y71)) (Tree.need (!!decide (y70 < y71) || !decide (y70 < y71) && !decide
    (y70 < y71)) (Tree.need (!!decide (y70 < y71) || !decide (y70 < y71)) (Tree.need (!!decide (y70 < y71) || !decide (y70 < y71) && !decide (y70 < y71)) (Tree.need (decide (y70 < y71)
    || !decide (y70 < y71)) (Tree.bnd (decide (y70 < y71) || decide (IntKind.i64.wrap ((bif decide ((offBy p b a).hi < (0 : Int)) then (offBy p b a).hi else bif decide ((offBy p b a).lo
    > (0 : Int)) then (offBy p b a).lo else (0 : Int)) * IntKind.i64.wrap ((1000 : Int) + p.damp.lo)) > IntKind.i64.wrap ((1000 : Int) * p.slack))) fun x72 => Tree.need (decide (Sm (min
    (min y57 y59) y64) ∧ (1000 : Int) = (1000 : Int))) (Tree.need (!!(BetweenF p a b).1.off.lo != down (min (min y57 y59) y64) || !(BetweenF p a b).1.off.lo != down (min (min y57 y59)
    y64)) (Tree.need (!!(BetweenF p a b).1.off.lo != down (min (min y57 y59) y64) || decide (Sm (max (max y58 y60) y65) ∧ (1000 : Int) = (1000 : Int)) && !(BetweenF p a b).1.off.lo !=
    down (min (min y57 y59) y64)) (Tree.need (!!(BetweenF p a b).1.off.lo != down (min (min y57 y59) y64) || !(BetweenF p a b).1.off.lo != down (min (min y57 y59) y64) && !(BetweenF p a
    b).1.off.lo != down (min (min y57 y59) y64)) (Tree.need ((BetweenF p a b).1.off.lo != down (min (min y57 y59) y64) || !(BetweenF p a b).1.off.lo != down (min (min y57 y59) y64))
    (Tree.bnd ((BetweenF p a b).1.off.lo != down (min (min y57 y59) y64) || (BetweenF p a b).1.off.hi != up (max (max y58 y60) y65)) fun x73 => Tree.br x73 (Tree.leaf (AV.bool true
    false) []) (Tree.bndI (IntKind.i64.wrap ((wideBy b a).lo * IntKind.i64.wrap ((1000 : Int) + p.damp.lo))) fun y74 => Tree.bndI (IntKind.i64.wrap ((wideBy b a).hi * IntKind.i64.wrap
    ((1000 : Int) + p.damp.lo))) fun y75 => Tree.bndI (IntKind.i64.wrap ((wideBy b a).lo * IntKind.i64.wrap ((1000 : Int) + p.damp.lo))) fun y76 => Tree.bndI (IntKind.i64.wrap ((wideBy
    b a).hi * IntKind.i64.wrap ((1000 : Int) + p.damp.lo))) fun y77 => Tree.need (!x67 || x67) (Tree.need (!x67 || x67) (Tree.need (!x67 || x67 && x67) (Tree.need (!x67 || x67)
    (Tree.need (!x67 || x67 && x67) (Tree.need (!x67 || x67) (Tree.bnd (x67 && decide (IntKind.i64.wrap ((wideBy b a).lo * IntKind.i64.wrap ((1000 : Int) + p.damp.lo)) ≥ (0 : Int))) fun
    x78 => Tree.need (!x78 || x78) (Tree.need (!x78 || x78) (Tree.need (!x78 || x78 && x78) (Tree.need (!x78 || x78) (Tree.need (!x78 || x78 && x78) (Tree.need (!x78 || x78) (Tree.bnd
    (x78 && decide (IntKind.i64.wrap ((wideBy b a).hi * IntKind.i64.wrap ((1000 : Int) + p.damp.lo)) ≤ IntKind.i64.wrap ((1000 : Int) * p.loose))) fun x79 => Tree.bndI (IntKind.i64.wrap
    ((wideBy b a).lo * IntKind.i64.wrap ((1000 : Int) + p.damp.hi))) fun y80 => Tree.bndI (IntKind.i64.wrap ((wideBy b a).hi * IntKind.i64.wrap ((1000 : Int) + p.damp.hi))) fun y81 =>
    Tree.need (!x79 || x79) (Tree.need (!x79 || x79) (Tree.need (!x79 || x79 && x79) (Tree.need (!x79 || x79) (Tree.need (!x79 || x79 && x79) (Tree.need (!x79 || x79) (Tree.bnd (x79 &&
    decide (IntKind.i64.wrap ((wideBy b a).lo * IntKind.i64.wrap ((1000 : Int) + p.damp.hi)) ≥ (0 : Int))) fun x82 => Tree.need (!x82 || x82) (Tree.need (!x82 || x82) (Tree.need (!x82
    || x82 && x82) (Tree.need (!x82 || x82) (Tree.need (!x82 || x82 && x82) (Tree.need (!x82 || x82) (Tree.bnd (x82 && decide (IntKind.i64.wrap ((wideBy b a).hi * IntKind.i64.wrap
    ((1000 : Int) + p.damp.hi)) ≤ IntKind.i64.wrap ((1000 : Int) * p.loose))) fun x83 => Tree.all fun g84 => Tree.all fun g85 => Tree.need (!!x72 || !x72) (Tree.need (!!x72 || !x72)
    (Tree.need (!!x72 || !x72) (Tree.need (!!x72 || !x72 && !x72) (Tree.need (!!x72 || !x72) (Tree.need (!!x72 || !x72 && !x72) (Tree.need (x72 || !x72) (Tree.bnd (x72 || decide
    (IntKind.i64.wrap ((bif decide ((wideBy b a).hi < (0 : Int)) then (wideBy b a).hi else bif decide ((wideBy b a).lo > (0 : Int)) then (wideBy b a).lo else (0 : Int)) *
    IntKind.i64.wrap ((1000 : Int) + p.damp.lo)) < (0 : Int))) fun x86 => Tree.need (!!x86 || !x86) (Tree.need (!!x86 || !x86) (Tree.need (!!x86 || !x86) (Tree.need (!!x86 || !x86 &&
    !x86) (Tree.need (!!x86 || !x86) (Tree.need (!!x86 || !x86 && !x86) (Tree.need (x86 || !x86) (Tree.bnd (x86 || decide (IntKind.i64.wrap ((bif decide ((wideBy b a).hi < (0 : Int))
    then (wideBy b a).hi else bif decide ((wideBy b a).lo > (0 : Int)) then (wideBy b a).lo else (0 : Int)) * IntKind.i64.wrap ((1000 : Int) + p.damp.lo)) > IntKind.i64.wrap ((1000 :
    Int) * p.loose))) fun x87 => Tree.need (decide (Sm (min (min y74 y76) y80) ∧ (1000 : Int) = (1000 : Int))) (Tree.need (!!(BetweenF p a b).1.wide.lo != down (min (min y74 y76) y80)
    || !(BetweenF p a b).1.wide.lo != down (min (min y74 y76) y80)) (Tree.need (!!(BetweenF p a b).1.wide.lo != down (min (min y74 y76) y80) || decide (Sm (max (max y75 y77) y81) ∧
    (1000 : Int) = (1000 : Int)) && !(BetweenF p a b).1.wide.lo != down (min (min y74 y76) y80)) (Tree.need (!!(BetweenF p a b).1.wide.lo != down (min (min y74 y76) y80) || !(BetweenF p
    a b).1.wide.lo != down (min (min y74 y76) y80) && !(BetweenF p a b).1.wide.lo != down (min (min y74 y76) y80)) (Tree.need ((BetweenF p a b).1.wide.lo != down (min (min y74 y76) y80)
    || !(BetweenF p a b).1.wide.lo != down (min (min y74 y76) y80)) (Tree.bnd ((BetweenF p a b).1.wide.lo != down (min (min y74 y76) y80) || (BetweenF p a b).1.wide.hi != up (max (max
    y75 y77) y81)) fun x88 => Tree.br x88 (Tree.leaf (AV.bool true false) []) (Tree.bndI (IntKind.i64.wrap ((deepBy b a).lo * IntKind.i64.wrap ((1000 : Int) + p.damp.lo))) fun y89 =>
    Tree.bndI (IntKind.i64.wrap ((deepBy b a).hi * IntKind.i64.wrap ((1000 : Int) + p.damp.lo))) fun y90 => Tree.bndI (IntKind.i64.wrap ((deepBy b a).lo * IntKind.i64.wrap ((1000 : Int)
    + p.damp.lo))) fun y91 => Tree.bndI (IntKind.i64.wrap ((deepBy b a).hi * IntKind.i64.wrap ((1000 : Int) + p.damp.lo))) fun y92 => Tree.need (!x83 || x83) (Tree.need (!x83 || x83)
    (Tree.need (!x83 || x83 && x83) (Tree.need (!x83 || x83) (Tree.need (!x83 || x83 && x83) (Tree.need (!x83 || x83) (Tree.bnd (x83 && decide (IntKind.i64.wrap ((deepBy b a).lo *
    IntKind.i64.wrap ((1000 : Int) + p.damp.lo)) ≥ (0 : Int))) fun x93 => Tree.need (!x93 || x93) (Tree.need (!x93 || x93) (Tree.need (!x93 || x93 && x93) (Tree.need (!x93 || x93)
    (Tree.need (!x93 || x93 && x93) (Tree.need (!x93 || x93) (Tree.bnd (x93 && decide (IntKind.i64.wrap ((deepBy b a).hi * IntKind.i64.wrap ((1000 : Int) + p.damp.lo)) ≤
    IntKind.i64.wrap ((1000 : Int) * p.loose))) fun x94 => Tree.bndI (IntKind.i64.wrap ((deepBy b a).lo * IntKind.i64.wrap ((1000 : Int) + p.damp.hi))) fun y95 => Tree.bndI
    (IntKind.i64.wrap ((deepBy b a).hi * IntKind.i64.wrap ((1000 : Int) + p.damp.hi))) fun y96 => Tree.need (!x94 || x94) (Tree.need (!x94 || x94) (Tree.need (!x94 || x94 && x94)
    (Tree.need (!x94 || x94) (Tree.need (!x94 || x94 && x94) (Tree.need (!x94 || x94) (Tree.bnd (x94 && decide (IntKind.i64.wrap ((deepBy b a).lo * IntKind.i64.wrap ((1000 : Int) +
    p.damp.hi)) ≥ (0 : Int))) fun x97 => Tree.need (!x97 || x97) (Tree.need (!x97 || x97) (Tree.need (!x97 || x97 && x97) (Tree.need (!x97 || x97) (Tree.need (!x97 || x97 && x97)
    (Tree.need (!x97 || x97) (Tree.bnd (x97 && decide (IntKind.i64.wrap ((deepBy b a).hi * IntKind.i64.wrap ((1000 : Int) + p.damp.hi)) ≤ IntKind.i64.wrap ((1000 : Int) * p.loose))) fun
    x98 => Tree.all fun g99 => Tree.all fun g100 => Tree.need (!!x87 || !x87) (Tree.need (!!x87 || !x87) (Tree.need (!!x87 || !x87) (Tree.need (!!x87 || !x87 && !x87) (Tree.need (!!x87
    || !x87) (Tree.need (!!x87 || !x87 && !x87) (Tree.need (x87 || !x87) (Tree.bnd (x87 || decide (IntKind.i64.wrap ((bif decide ((deepBy b a).hi < (0 : Int)) then (deepBy b a).hi else
    bif decide ((deepBy b a).lo > (0 : Int)) then (deepBy b a).lo else (0 : Int)) * IntKind.i64.wrap ((1000 : Int) + p.damp.lo)) < (0 : Int))) fun x101 => Tree.need (!!x101 || !x101)
    (Tree.need (!!x101 || !x101) (Tree.need (!!x101 || !x101) (Tree.need (!!x101 || !x101 && !x101) (Tree.need (!!x101 || !x101) (Tree.need (!!x101 || !x101 && !x101) (Tree.need (x101
    || !x101) (Tree.bnd (x101 || decide (IntKind.i64.wrap ((bif decide ((deepBy b a).hi < (0 : Int)) then (deepBy b a).hi else bif decide ((deepBy b a).lo > (0 : Int)) then (deepBy b
    a).lo else (0 : Int)) * IntKind.i64.wrap ((1000 : Int) + p.damp.lo)) > IntKind.i64.wrap ((1000 : Int) * p.loose))) fun x102 => Tree.need (decide (Sm (min (min y89 y91) y95) ∧ (1000
    : Int) = (1000 : Int))) (Tree.need (!!(BetweenF p a b).1.deep.lo != down (min (min y89 y91) y95) || !(BetweenF p a b).1.deep.lo != down (min (min y89 y91) y95)) (Tree.need
    (!!(BetweenF p a b).1.deep.lo != down (min (min y89 y91) y95) || decide (Sm (max (max y90 y92) y96) ∧ (1000 : Int) = (1000 : Int)) && !(BetweenF p a b).1.deep.lo != down (min (min
    y89 y91) y95)) (Tree.need (!!(BetweenF p a b).1.deep.lo != down (min (min y89 y91) y95) || !(BetweenF p a b).1.deep.lo != down (min (min y89 y91) y95) && !(BetweenF p a b).1.deep.lo
    != down (min (min y89 y91) y95)) (Tree.need ((BetweenF p a b).1.deep.lo != down (min (min y89 y91) y95) || !(BetweenF p a b).1.deep.lo != down (min (min y89 y91) y95)) (Tree.bnd
    ((BetweenF p a b).1.deep.lo != down (min (min y89 y91) y95) || (BetweenF p a b).1.deep.hi != up (max (max y90 y92) y96)) fun x103 => Tree.br x103 (Tree.leaf (AV.bool true false) [])
    (Tree.need (!((FitF p a b).1 == (2 : Int)) == x98 || ((FitF p a b).1 == (2 : Int)) == x98) (Tree.need (!((FitF p a b).1 == (2 : Int)) == x98 || ((FitF p a b).1 == (2 : Int)) == x98
    && ((FitF p a b).1 == (2 : Int)) == x98) (Tree.need (!((FitF p a b).1 == (2 : Int)) == x98 || ((FitF p a b).1 == (2 : Int)) == x98) (Tree.bnd (((FitF p a b).1 == (2 : Int)) == x98
    && ((FitF p a b).1 == (0 : Int)) == x102) fun x104 => Tree.need (!x104 || x104) (Tree.bnd (x104 || false) fun x105 => Tree.leaf (AV.bool false x105)
    [])))))))))))))))))))))))))))))))))))))))))))))))))))))))))))))))))))))))))))))))))))))))))))))))))))))))))))))))))))))))))))))) (Tree.leaf (AV.bool true false) [])))))))))))))) := by kernel_rfl
end Go.Proofs.Ytdaanchagjamfaa
