/- The law FitEnds, of the code: its tree. -/
import Derived.Test.YtdaanchagjamfaaTr
import Derived.Test.YtdaanchagjamfaaPg
import Derived.Test.YtdaanchagjamfaaSw
namespace Go.Proofs.Ytdaanchagjamfaa
open Go.SX

theorem den_all {Q : AV → List (Nat × Go.SX.Blk) → Prop} {f : (Nat → Value) → Go.SX.Tree} (h : ∀ g, (f g).den Q) : (Go.SX.Tree.all f).den Q := h
theorem al4 {c1 c2 c3 c4 : Prop} [Decidable c1] [Decidable c2] [Decidable c3] [Decidable c4] {a1 a2 a3 : Bool} (h1 : a1 = (decide c1 && decide c2)) (h2 : a2 = (a1 && decide c3)) (h3 : a3 = (a2 && decide c4)) : a3 = true ↔ (c1 ∧ c2) ∧ c3 ∧ c4 := by
  subst h1 h2 h3; simp only [Bool.and_eq_true, decide_eq_true_eq, and_assoc]
theorem al5 {c1 c2 c3 c4 : Prop} [Decidable c1] [Decidable c2] [Decidable c3] [Decidable c4] {a0 a1 a2 a3 a4 : Bool} (h1 : a1 = (a0 && decide c1)) (h2 : a2 = (a1 && decide c2)) (h3 : a3 = (a2 && decide c3)) (h4 : a4 = (a3 && decide c4)) : a4 = true ↔ a0 = true ∧ (c1 ∧ c2) ∧ c3 ∧ c4 := by
  subst h1 h2 h3 h4; simp only [Bool.and_eq_true, decide_eq_true_eq, and_assoc]
theorem nv2 {c1 c2 : Prop} [Decidable c1] [Decidable c2] {a1 : Bool} (h1 : a1 = (decide c1 || decide c2)) : a1 = true ↔ c1 ∨ c2 := by
  subst h1; simp only [Bool.or_eq_true, decide_eq_true_eq]
theorem nv3 {c1 c2 : Prop} [Decidable c1] [Decidable c2] {a0 a1 a2 : Bool} (h1 : a1 = (a0 || decide c1)) (h2 : a2 = (a1 || decide c2)) : a2 = true ↔ a0 = true ∨ c1 ∨ c2 := by
  subst h1 h2; simp only [Bool.or_eq_true, decide_eq_true_eq, or_assoc]
set_option maxRecDepth 100000 in
set_option maxHeartbeats 20000000 in
theorem fitEnds_den (p : Play) (a b : Edge) : DenOk (fun v _ => v.same (.bool false true)) (execFn (mkJ Try.prog tab_lawSpan []) (hnd (mkJ Try.prog tab_lawSpan []) 14) false Try.f8 (EncL.enc ((p, a, b, ()) : Play × Edge × Edge × Unit)) [] 0) := by
  refine ⟨?_⟩
  rw [fitEnds_t]
  rcases fit_cases p a b with ⟨eF, hno⟩ | ⟨eF, hpk, ha, hb⟩
  · have eB : BetweenF p a b = (Gap.zero, 1) := by unfold BetweenF; rw [if_neg hno]
    rw [eF, eB]
    simp only [Gap.zero]
    repeat' first | refine den_need rfl ?_ | refine den_need (by grind) ?_ | refine den_bnd fun x hx => ?_
    refine den_br (fun _ => ?_) (fun hx => by exfalso; grind)
    repeat' first | refine den_need rfl ?_ | refine den_need (by grind) ?_ | refine den_bnd fun x hx => ?_
    have : x = true := by grind
    rw [this]; trivial
  have hpi := hpk
  rw [Play.ok_iff] at hpi
  rw [eF]
  by_cases kA : a.kind = 1 ∧ b.kind = 2
  ·
    have ht : a.ok = true := ha
    have hh : b.ok = true := hb
    have ti := ht
    rw [Edge.ok_iff] at ti
    have hi := hh
    rw [Edge.ok_iff] at hi
    have eB : BetweenF p a b = (gapOf p a b, 0) := by unfold BetweenF; rw [if_pos ⟨hpk, ha, hb⟩, if_pos kA]
    have eV : fitsF p a b = verd p a b := by unfold fitsF; rw [if_neg (by omega), if_pos kA]
    have sp := spans (p := p) ht hh kA.1 kA.2
    have b0 : (-100000 ≤ (offBy p a b).lo ∧ (offBy p a b).lo ≤ 100000) ∧ -100000 ≤ (offBy p a b).hi ∧ (offBy p a b).hi ≤ 100000 := by simp only [offBy, wideBy, deepBy]; omega
    have f0 := span_facts (s := offBy p a b) (lo := (-p.slack)) (hi := p.slack) hpk sp.1 (by omega) (by omega)
    have b1 : (-100000 ≤ (wideBy a b).lo ∧ (wideBy a b).lo ≤ 100000) ∧ -100000 ≤ (wideBy a b).hi ∧ (wideBy a b).hi ≤ 100000 := by simp only [offBy, wideBy, deepBy]; omega
    have f1 := span_facts (s := wideBy a b) (lo := 0) (hi := p.loose) hpk sp.2.1 (by omega) (by omega)
    have b2 : (-100000 ≤ (deepBy a b).lo ∧ (deepBy a b).lo ≤ 100000) ∧ -100000 ≤ (deepBy a b).hi ∧ (deepBy a b).hi ≤ 100000 := by simp only [offBy, wideBy, deepBy]; omega
    have f2 := span_facts (s := deepBy a b) (lo := 0) (hi := p.loose) hpk sp.2.2 (by omega) (by omega)
    have vA := verd_always (p := p) (t := a) (h := b)
    have vN := verd_never hpk ht hh kA.1 kA.2
    rw [f0.1, f1.1, f2.1] at vA
    rw [f0.2, f1.2, f2.2] at vN
    clear f0 f1 f2
    have gl0 : (gapOf p a b).off.lo = down (min (min ((offBy p a b).lo * (1000 + p.damp.lo)) ((offBy p a b).lo * (1000 + p.damp.lo))) ((offBy p a b).lo * (1000 + p.damp.hi))) := by simp only [gapOf, Sp.damped, Int.min_self]
    have gh0 : (gapOf p a b).off.hi = up (max (max ((offBy p a b).hi * (1000 + p.damp.lo)) ((offBy p a b).hi * (1000 + p.damp.lo))) ((offBy p a b).hi * (1000 + p.damp.hi))) := by simp only [gapOf, Sp.damped, Int.max_self]
    have gl1 : (gapOf p a b).wide.lo = down (min (min ((wideBy a b).lo * (1000 + p.damp.lo)) ((wideBy a b).lo * (1000 + p.damp.lo))) ((wideBy a b).lo * (1000 + p.damp.hi))) := by simp only [gapOf, Sp.damped, Int.min_self]
    have gh1 : (gapOf p a b).wide.hi = up (max (max ((wideBy a b).hi * (1000 + p.damp.lo)) ((wideBy a b).hi * (1000 + p.damp.lo))) ((wideBy a b).hi * (1000 + p.damp.hi))) := by simp only [gapOf, Sp.damped, Int.max_self]
    have gl2 : (gapOf p a b).deep.lo = down (min (min ((deepBy a b).lo * (1000 + p.damp.lo)) ((deepBy a b).lo * (1000 + p.damp.lo))) ((deepBy a b).lo * (1000 + p.damp.hi))) := by simp only [gapOf, Sp.damped, Int.min_self]
    have gh2 : (gapOf p a b).deep.hi = up (max (max ((deepBy a b).hi * (1000 + p.damp.lo)) ((deepBy a b).hi * (1000 + p.damp.lo))) ((deepBy a b).hi * (1000 + p.damp.hi))) := by simp only [gapOf, Sp.damped, Int.max_self]
    rw [eB, eV, w64 (n := 1000 + p.damp.lo) (by omega) (by omega), w64 (n := 1000 + p.damp.hi) (by omega) (by omega), w64 (n := 0 - p.slack) (by omega) (by omega), show (0 : Int) - p.slack = -p.slack by omega, w64 (n := 1000 * -p.slack) (by omega) (by omega), w64 (n := 1000 * p.slack) (by omega) (by omega), w64 (n := 1000 * p.loose) (by omega) (by omega)]
    have nb0 : -100000 ≤ (cond (decide ((offBy p a b).hi < 0)) (offBy p a b).hi (cond (decide ((offBy p a b).lo > 0)) (offBy p a b).lo 0)) ∧ (cond (decide ((offBy p a b).hi < 0)) (offBy p a b).hi (cond (decide ((offBy p a b).lo > 0)) (offBy p a b).lo 0)) ≤ 100000 := by
      by_cases c1 : (offBy p a b).hi < 0 <;> by_cases c2 : (offBy p a b).lo > 0 <;> simp [c1, c2] <;> omega
    have mX0 := mul_sm (a := (offBy p a b).lo) (m := 1000 + p.damp.lo) (by omega) (by omega) (by omega) (by omega)
    rw [w64 (n := (offBy p a b).lo * (1000 + p.damp.lo)) (by omega) (by omega)]
    have mZ0 := mul_sm (a := (offBy p a b).hi) (m := 1000 + p.damp.lo) (by omega) (by omega) (by omega) (by omega)
    rw [w64 (n := (offBy p a b).hi * (1000 + p.damp.lo)) (by omega) (by omega)]
    have mY0 := mul_sm (a := (offBy p a b).lo) (m := 1000 + p.damp.hi) (by omega) (by omega) (by omega) (by omega)
    rw [w64 (n := (offBy p a b).lo * (1000 + p.damp.hi)) (by omega) (by omega)]
    have mW0 := mul_sm (a := (offBy p a b).hi) (m := 1000 + p.damp.hi) (by omega) (by omega) (by omega) (by omega)
    rw [w64 (n := (offBy p a b).hi * (1000 + p.damp.hi)) (by omega) (by omega)]
    have mN0 := mul_sm (a := (cond (decide ((offBy p a b).hi < 0)) (offBy p a b).hi (cond (decide ((offBy p a b).lo > 0)) (offBy p a b).lo 0))) (m := 1000 + p.damp.lo) (by omega) (by omega) (by omega) (by omega)
    rw [w64 (n := (cond (decide ((offBy p a b).hi < 0)) (offBy p a b).hi (cond (decide ((offBy p a b).lo > 0)) (offBy p a b).lo 0)) * (1000 + p.damp.lo)) (by omega) (by omega)]
    have nb1 : -100000 ≤ (cond (decide ((wideBy a b).hi < 0)) (wideBy a b).hi (cond (decide ((wideBy a b).lo > 0)) (wideBy a b).lo 0)) ∧ (cond (decide ((wideBy a b).hi < 0)) (wideBy a b).hi (cond (decide ((wideBy a b).lo > 0)) (wideBy a b).lo 0)) ≤ 100000 := by
      by_cases c1 : (wideBy a b).hi < 0 <;> by_cases c2 : (wideBy a b).lo > 0 <;> simp [c1, c2] <;> omega
    have mX1 := mul_sm (a := (wideBy a b).lo) (m := 1000 + p.damp.lo) (by omega) (by omega) (by omega) (by omega)
    rw [w64 (n := (wideBy a b).lo * (1000 + p.damp.lo)) (by omega) (by omega)]
    have mZ1 := mul_sm (a := (wideBy a b).hi) (m := 1000 + p.damp.lo) (by omega) (by omega) (by omega) (by omega)
    rw [w64 (n := (wideBy a b).hi * (1000 + p.damp.lo)) (by omega) (by omega)]
    have mY1 := mul_sm (a := (wideBy a b).lo) (m := 1000 + p.damp.hi) (by omega) (by omega) (by omega) (by omega)
    rw [w64 (n := (wideBy a b).lo * (1000 + p.damp.hi)) (by omega) (by omega)]
    have mW1 := mul_sm (a := (wideBy a b).hi) (m := 1000 + p.damp.hi) (by omega) (by omega) (by omega) (by omega)
    rw [w64 (n := (wideBy a b).hi * (1000 + p.damp.hi)) (by omega) (by omega)]
    have mN1 := mul_sm (a := (cond (decide ((wideBy a b).hi < 0)) (wideBy a b).hi (cond (decide ((wideBy a b).lo > 0)) (wideBy a b).lo 0))) (m := 1000 + p.damp.lo) (by omega) (by omega) (by omega) (by omega)
    rw [w64 (n := (cond (decide ((wideBy a b).hi < 0)) (wideBy a b).hi (cond (decide ((wideBy a b).lo > 0)) (wideBy a b).lo 0)) * (1000 + p.damp.lo)) (by omega) (by omega)]
    have nb2 : -100000 ≤ (cond (decide ((deepBy a b).hi < 0)) (deepBy a b).hi (cond (decide ((deepBy a b).lo > 0)) (deepBy a b).lo 0)) ∧ (cond (decide ((deepBy a b).hi < 0)) (deepBy a b).hi (cond (decide ((deepBy a b).lo > 0)) (deepBy a b).lo 0)) ≤ 100000 := by
      by_cases c1 : (deepBy a b).hi < 0 <;> by_cases c2 : (deepBy a b).lo > 0 <;> simp [c1, c2] <;> omega
    have mX2 := mul_sm (a := (deepBy a b).lo) (m := 1000 + p.damp.lo) (by omega) (by omega) (by omega) (by omega)
    rw [w64 (n := (deepBy a b).lo * (1000 + p.damp.lo)) (by omega) (by omega)]
    have mZ2 := mul_sm (a := (deepBy a b).hi) (m := 1000 + p.damp.lo) (by omega) (by omega) (by omega) (by omega)
    rw [w64 (n := (deepBy a b).hi * (1000 + p.damp.lo)) (by omega) (by omega)]
    have mY2 := mul_sm (a := (deepBy a b).lo) (m := 1000 + p.damp.hi) (by omega) (by omega) (by omega) (by omega)
    rw [w64 (n := (deepBy a b).lo * (1000 + p.damp.hi)) (by omega) (by omega)]
    have mW2 := mul_sm (a := (deepBy a b).hi) (m := 1000 + p.damp.hi) (by omega) (by omega) (by omega) (by omega)
    rw [w64 (n := (deepBy a b).hi * (1000 + p.damp.hi)) (by omega) (by omega)]
    have mN2 := mul_sm (a := (cond (decide ((deepBy a b).hi < 0)) (deepBy a b).hi (cond (decide ((deepBy a b).lo > 0)) (deepBy a b).lo 0))) (m := 1000 + p.damp.lo) (by omega) (by omega) (by omega) (by omega)
    rw [w64 (n := (cond (decide ((deepBy a b).hi < 0)) (deepBy a b).hi (cond (decide ((deepBy a b).lo > 0)) (deepBy a b).lo 0)) * (1000 + p.damp.lo)) (by omega) (by omega)]
    generalize (cond (decide ((offBy p a b).hi < 0)) (offBy p a b).hi (cond (decide ((offBy p a b).lo > 0)) (offBy p a b).lo 0)) * (1000 + p.damp.lo) = N0 at *
    generalize (offBy p a b).lo * (1000 + p.damp.lo) = X0 at *
    generalize (offBy p a b).hi * (1000 + p.damp.lo) = Z0 at *
    generalize (offBy p a b).lo * (1000 + p.damp.hi) = Y0 at *
    generalize (offBy p a b).hi * (1000 + p.damp.hi) = W0 at *
    generalize (cond (decide ((wideBy a b).hi < 0)) (wideBy a b).hi (cond (decide ((wideBy a b).lo > 0)) (wideBy a b).lo 0)) * (1000 + p.damp.lo) = N1 at *
    generalize (wideBy a b).lo * (1000 + p.damp.lo) = X1 at *
    generalize (wideBy a b).hi * (1000 + p.damp.lo) = Z1 at *
    generalize (wideBy a b).lo * (1000 + p.damp.hi) = Y1 at *
    generalize (wideBy a b).hi * (1000 + p.damp.hi) = W1 at *
    generalize (cond (decide ((deepBy a b).hi < 0)) (deepBy a b).hi (cond (decide ((deepBy a b).lo > 0)) (deepBy a b).lo 0)) * (1000 + p.damp.lo) = N2 at *
    generalize (deepBy a b).lo * (1000 + p.damp.lo) = X2 at *
    generalize (deepBy a b).hi * (1000 + p.damp.lo) = Z2 at *
    generalize (deepBy a b).lo * (1000 + p.damp.hi) = Y2 at *
    generalize (deepBy a b).hi * (1000 + p.damp.hi) = W2 at *
    clear nb0 nb1 nb2 b0 b1 b2 sp ti hi
    generalize gapOf p a b = G at *
    have hB := couple_B hpk ht hh kA.1 kA.2
    have sl0 : Sm (min (min X0 X0) Y0) := by unfold Sm; omega
    have sh0 : Sm (max (max Z0 Z0) W0) := by unfold Sm; omega
    have sl1 : Sm (min (min X1 X1) Y1) := by unfold Sm; omega
    have sh1 : Sm (max (max Z1 Z1) W1) := by unfold Sm; omega
    have sl2 : Sm (min (min X2 X2) Y2) := by unfold Sm; omega
    have sh2 : Sm (max (max Z2 Z2) W2) := by unfold Sm; omega
    repeat' first | refine den_need rfl ?_ | refine den_need (by grind) ?_ | refine den_bnd fun x hx => ?_
    refine den_br (fun hx => by exfalso; grind) (fun _ => ?_)
    repeat' first | refine den_need rfl ?_ | refine den_need (by grind) ?_ | refine den_bnd fun x hx => ?_
    refine den_br (fun _ => ?_) (fun hx => by exfalso; grind)
    refine den_br (fun hx => by cases hx) (fun _ => ?_)
    refine den_need (decide_eq_true hB) ?_
    clear hB
    refine den_bndI fun y hy => ?_
    have hy := hy.symm
    subst hy
    refine den_bndI fun y hy => ?_
    have hy := hy.symm
    subst hy
    refine den_bndI fun y hy => ?_
    have hy := hy.symm
    subst hy
    refine den_bndI fun y hy => ?_
    have hy := hy.symm
    subst hy
    refine den_bndI fun y hy => ?_
    have hy := hy.symm
    subst hy
    refine den_bndI fun y hy => ?_
    have hy := hy.symm
    subst hy
    repeat' first | refine den_need rfl ?_ | refine den_need (by grind) ?_
    refine den_bnd fun a1 h1 => ?_
    refine den_bndI fun y hy => ?_
    have hy := hy.symm
    subst hy
    refine den_bndI fun y hy => ?_
    have hy := hy.symm
    subst hy
    repeat' first | refine den_need rfl ?_ | refine den_need (by grind) ?_
    refine den_bnd fun a2 h2 => ?_
    repeat' first | refine den_need rfl ?_ | refine den_need (by grind) ?_
    refine den_bnd fun a3 h3 => ?_
    have e0 := al4 h1 h2 h3
    clear h1 h2 h3
    refine den_all fun _ => ?_
    refine den_all fun _ => ?_
    refine den_bndI fun y hy => ?_
    have hy := hy.symm
    subst hy
    refine den_bndI fun y hy => ?_
    have hy := hy.symm
    subst hy
    repeat' first | refine den_need rfl ?_ | refine den_need (by grind) ?_
    refine den_bnd fun n1 k1 => ?_
    have d0 := nv2 k1
    clear k1
    refine den_need (decide_eq_true ⟨sl0, rfl⟩) ?_
    rw [decide_eq_true (⟨sh0, rfl⟩ : Sm (max (max Z0 Z0) W0) ∧ (1000 : Int) = 1000)]
    repeat' first | refine den_need rfl ?_ | refine den_need (by grind) ?_
    refine den_bnd fun q hq => ?_
    refine den_br (fun hx => by exfalso; rw [hq, gl0, gh0] at hx; simp at hx) (fun _ => ?_)
    refine den_bndI fun y hy => ?_
    have hy := hy.symm
    subst hy
    refine den_bndI fun y hy => ?_
    have hy := hy.symm
    subst hy
    refine den_bndI fun y hy => ?_
    have hy := hy.symm
    subst hy
    refine den_bndI fun y hy => ?_
    have hy := hy.symm
    subst hy
    repeat' first | refine den_need rfl ?_ | refine den_need (by grind) ?_
    refine den_bnd fun c1 h1 => ?_
    repeat' first | refine den_need rfl ?_ | refine den_need (by grind) ?_
    refine den_bnd fun c2 h2 => ?_
    refine den_bndI fun y hy => ?_
    have hy := hy.symm
    subst hy
    refine den_bndI fun y hy => ?_
    have hy := hy.symm
    subst hy
    repeat' first | refine den_need rfl ?_ | refine den_need (by grind) ?_
    refine den_bnd fun c3 h3 => ?_
    repeat' first | refine den_need rfl ?_ | refine den_need (by grind) ?_
    refine den_bnd fun c4 h4 => ?_
    have e1 := al5 h1 h2 h3 h4
    clear h1 h2 h3 h4
    refine den_all fun _ => ?_
    refine den_all fun _ => ?_
    repeat' first | refine den_need rfl ?_ | refine den_need (by grind) ?_
    refine den_bnd fun r1 k1 => ?_
    repeat' first | refine den_need rfl ?_ | refine den_need (by grind) ?_
    refine den_bnd fun r2 k2 => ?_
    have d1 := nv3 k1 k2
    clear k1 k2
    refine den_need (decide_eq_true ⟨sl1, rfl⟩) ?_
    rw [decide_eq_true (⟨sh1, rfl⟩ : Sm (max (max Z1 Z1) W1) ∧ (1000 : Int) = 1000)]
    repeat' first | refine den_need rfl ?_ | refine den_need (by grind) ?_
    refine den_bnd fun q1 hq1 => ?_
    refine den_br (fun hx => by exfalso; rw [hq1, gl1, gh1] at hx; simp at hx) (fun _ => ?_)
    refine den_bndI fun y hy => ?_
    have hy := hy.symm
    subst hy
    refine den_bndI fun y hy => ?_
    have hy := hy.symm
    subst hy
    refine den_bndI fun y hy => ?_
    have hy := hy.symm
    subst hy
    refine den_bndI fun y hy => ?_
    have hy := hy.symm
    subst hy
    repeat' first | refine den_need rfl ?_ | refine den_need (by grind) ?_
    refine den_bnd fun u1 h1 => ?_
    repeat' first | refine den_need rfl ?_ | refine den_need (by grind) ?_
    refine den_bnd fun u2 h2 => ?_
    refine den_bndI fun y hy => ?_
    have hy := hy.symm
    subst hy
    refine den_bndI fun y hy => ?_
    have hy := hy.symm
    subst hy
    repeat' first | refine den_need rfl ?_ | refine den_need (by grind) ?_
    refine den_bnd fun u3 h3 => ?_
    repeat' first | refine den_need rfl ?_ | refine den_need (by grind) ?_
    refine den_bnd fun u4 h4 => ?_
    have e2 := al5 h1 h2 h3 h4
    clear h1 h2 h3 h4
    refine den_all fun _ => ?_
    refine den_all fun _ => ?_
    repeat' first | refine den_need rfl ?_ | refine den_need (by grind) ?_
    refine den_bnd fun s1 k1 => ?_
    repeat' first | refine den_need rfl ?_ | refine den_need (by grind) ?_
    refine den_bnd fun s2 k2 => ?_
    have d2 := nv3 k1 k2
    clear k1 k2
    refine den_need (decide_eq_true ⟨sl2, rfl⟩) ?_
    rw [decide_eq_true (⟨sh2, rfl⟩ : Sm (max (max Z2 Z2) W2) ∧ (1000 : Int) = 1000)]
    repeat' first | refine den_need rfl ?_ | refine den_need (by grind) ?_
    refine den_bnd fun q2 hq2 => ?_
    refine den_br (fun hx => by exfalso; rw [hq2, gl2, gh2] at hx; simp at hx) (fun _ => ?_)
    have hA : ((verd p a b, (0 : Int)).1 == 2) = u4 := by
      rw [Bool.eq_iff_iff, beq_iff_eq]
      simp only
      rw [vA, e2, e1, e0]
      constructor <;> intro h <;> omega
    have hN : ((verd p a b, (0 : Int)).1 == 0) = s2 := by
      rw [Bool.eq_iff_iff, beq_iff_eq]
      simp only
      rw [vN, d2, d1, d0]
      constructor <;> intro h <;> omega
    rw [hA, hN]
    repeat' first | refine den_need rfl ?_ | refine den_need (by grind) ?_ | refine den_bnd fun x hx => ?_
    have : x = true := by first | grind | (subst_vars; simp)
    rw [this]; trivial
  by_cases kB : b.kind = 1 ∧ a.kind = 2
  · have kA := kB
    have ht : b.ok = true := hb
    have hh : a.ok = true := ha
    have ti := ht
    rw [Edge.ok_iff] at ti
    have hi := hh
    rw [Edge.ok_iff] at hi
    have eB : BetweenF p a b = (gapOf p b a, 0) := by unfold BetweenF; rw [if_pos ⟨hpk, ha, hb⟩, if_neg (by omega), if_pos kA]
    have eV : fitsF p a b = verd p b a := by unfold fitsF; rw [if_pos kA.2, if_pos kA.1]
    have sp := spans (p := p) ht hh kA.1 kA.2
    have b0 : (-100000 ≤ (offBy p b a).lo ∧ (offBy p b a).lo ≤ 100000) ∧ -100000 ≤ (offBy p b a).hi ∧ (offBy p b a).hi ≤ 100000 := by simp only [offBy, wideBy, deepBy]; omega
    have f0 := span_facts (s := offBy p b a) (lo := (-p.slack)) (hi := p.slack) hpk sp.1 (by omega) (by omega)
    have b1 : (-100000 ≤ (wideBy b a).lo ∧ (wideBy b a).lo ≤ 100000) ∧ -100000 ≤ (wideBy b a).hi ∧ (wideBy b a).hi ≤ 100000 := by simp only [offBy, wideBy, deepBy]; omega
    have f1 := span_facts (s := wideBy b a) (lo := 0) (hi := p.loose) hpk sp.2.1 (by omega) (by omega)
    have b2 : (-100000 ≤ (deepBy b a).lo ∧ (deepBy b a).lo ≤ 100000) ∧ -100000 ≤ (deepBy b a).hi ∧ (deepBy b a).hi ≤ 100000 := by simp only [offBy, wideBy, deepBy]; omega
    have f2 := span_facts (s := deepBy b a) (lo := 0) (hi := p.loose) hpk sp.2.2 (by omega) (by omega)
    have vA := verd_always (p := p) (t := b) (h := a)
    have vN := verd_never hpk ht hh kA.1 kA.2
    rw [f0.1, f1.1, f2.1] at vA
    rw [f0.2, f1.2, f2.2] at vN
    clear f0 f1 f2
    have gl0 : (gapOf p b a).off.lo = down (min (min ((offBy p b a).lo * (1000 + p.damp.lo)) ((offBy p b a).lo * (1000 + p.damp.lo))) ((offBy p b a).lo * (1000 + p.damp.hi))) := by simp only [gapOf, Sp.damped, Int.min_self]
    have gh0 : (gapOf p b a).off.hi = up (max (max ((offBy p b a).hi * (1000 + p.damp.lo)) ((offBy p b a).hi * (1000 + p.damp.lo))) ((offBy p b a).hi * (1000 + p.damp.hi))) := by simp only [gapOf, Sp.damped, Int.max_self]
    have gl1 : (gapOf p b a).wide.lo = down (min (min ((wideBy b a).lo * (1000 + p.damp.lo)) ((wideBy b a).lo * (1000 + p.damp.lo))) ((wideBy b a).lo * (1000 + p.damp.hi))) := by simp only [gapOf, Sp.damped, Int.min_self]
    have gh1 : (gapOf p b a).wide.hi = up (max (max ((wideBy b a).hi * (1000 + p.damp.lo)) ((wideBy b a).hi * (1000 + p.damp.lo))) ((wideBy b a).hi * (1000 + p.damp.hi))) := by simp only [gapOf, Sp.damped, Int.max_self]
    have gl2 : (gapOf p b a).deep.lo = down (min (min ((deepBy b a).lo * (1000 + p.damp.lo)) ((deepBy b a).lo * (1000 + p.damp.lo))) ((deepBy b a).lo * (1000 + p.damp.hi))) := by simp only [gapOf, Sp.damped, Int.min_self]
    have gh2 : (gapOf p b a).deep.hi = up (max (max ((deepBy b a).hi * (1000 + p.damp.lo)) ((deepBy b a).hi * (1000 + p.damp.lo))) ((deepBy b a).hi * (1000 + p.damp.hi))) := by simp only [gapOf, Sp.damped, Int.max_self]
    rw [eB, eV, w64 (n := 1000 + p.damp.lo) (by omega) (by omega), w64 (n := 1000 + p.damp.hi) (by omega) (by omega), w64 (n := 0 - p.slack) (by omega) (by omega), show (0 : Int) - p.slack = -p.slack by omega, w64 (n := 1000 * -p.slack) (by omega) (by omega), w64 (n := 1000 * p.slack) (by omega) (by omega), w64 (n := 1000 * p.loose) (by omega) (by omega)]
    have nb0 : -100000 ≤ (cond (decide ((offBy p b a).hi < 0)) (offBy p b a).hi (cond (decide ((offBy p b a).lo > 0)) (offBy p b a).lo 0)) ∧ (cond (decide ((offBy p b a).hi < 0)) (offBy p b a).hi (cond (decide ((offBy p b a).lo > 0)) (offBy p b a).lo 0)) ≤ 100000 := by
      by_cases c1 : (offBy p b a).hi < 0 <;> by_cases c2 : (offBy p b a).lo > 0 <;> simp [c1, c2] <;> omega
    have mX0 := mul_sm (a := (offBy p b a).lo) (m := 1000 + p.damp.lo) (by omega) (by omega) (by omega) (by omega)
    rw [w64 (n := (offBy p b a).lo * (1000 + p.damp.lo)) (by omega) (by omega)]
    have mZ0 := mul_sm (a := (offBy p b a).hi) (m := 1000 + p.damp.lo) (by omega) (by omega) (by omega) (by omega)
    rw [w64 (n := (offBy p b a).hi * (1000 + p.damp.lo)) (by omega) (by omega)]
    have mY0 := mul_sm (a := (offBy p b a).lo) (m := 1000 + p.damp.hi) (by omega) (by omega) (by omega) (by omega)
    rw [w64 (n := (offBy p b a).lo * (1000 + p.damp.hi)) (by omega) (by omega)]
    have mW0 := mul_sm (a := (offBy p b a).hi) (m := 1000 + p.damp.hi) (by omega) (by omega) (by omega) (by omega)
    rw [w64 (n := (offBy p b a).hi * (1000 + p.damp.hi)) (by omega) (by omega)]
    have mN0 := mul_sm (a := (cond (decide ((offBy p b a).hi < 0)) (offBy p b a).hi (cond (decide ((offBy p b a).lo > 0)) (offBy p b a).lo 0))) (m := 1000 + p.damp.lo) (by omega) (by omega) (by omega) (by omega)
    rw [w64 (n := (cond (decide ((offBy p b a).hi < 0)) (offBy p b a).hi (cond (decide ((offBy p b a).lo > 0)) (offBy p b a).lo 0)) * (1000 + p.damp.lo)) (by omega) (by omega)]
    have nb1 : -100000 ≤ (cond (decide ((wideBy b a).hi < 0)) (wideBy b a).hi (cond (decide ((wideBy b a).lo > 0)) (wideBy b a).lo 0)) ∧ (cond (decide ((wideBy b a).hi < 0)) (wideBy b a).hi (cond (decide ((wideBy b a).lo > 0)) (wideBy b a).lo 0)) ≤ 100000 := by
      by_cases c1 : (wideBy b a).hi < 0 <;> by_cases c2 : (wideBy b a).lo > 0 <;> simp [c1, c2] <;> omega
    have mX1 := mul_sm (a := (wideBy b a).lo) (m := 1000 + p.damp.lo) (by omega) (by omega) (by omega) (by omega)
    rw [w64 (n := (wideBy b a).lo * (1000 + p.damp.lo)) (by omega) (by omega)]
    have mZ1 := mul_sm (a := (wideBy b a).hi) (m := 1000 + p.damp.lo) (by omega) (by omega) (by omega) (by omega)
    rw [w64 (n := (wideBy b a).hi * (1000 + p.damp.lo)) (by omega) (by omega)]
    have mY1 := mul_sm (a := (wideBy b a).lo) (m := 1000 + p.damp.hi) (by omega) (by omega) (by omega) (by omega)
    rw [w64 (n := (wideBy b a).lo * (1000 + p.damp.hi)) (by omega) (by omega)]
    have mW1 := mul_sm (a := (wideBy b a).hi) (m := 1000 + p.damp.hi) (by omega) (by omega) (by omega) (by omega)
    rw [w64 (n := (wideBy b a).hi * (1000 + p.damp.hi)) (by omega) (by omega)]
    have mN1 := mul_sm (a := (cond (decide ((wideBy b a).hi < 0)) (wideBy b a).hi (cond (decide ((wideBy b a).lo > 0)) (wideBy b a).lo 0))) (m := 1000 + p.damp.lo) (by omega) (by omega) (by omega) (by omega)
    rw [w64 (n := (cond (decide ((wideBy b a).hi < 0)) (wideBy b a).hi (cond (decide ((wideBy b a).lo > 0)) (wideBy b a).lo 0)) * (1000 + p.damp.lo)) (by omega) (by omega)]
    have nb2 : -100000 ≤ (cond (decide ((deepBy b a).hi < 0)) (deepBy b a).hi (cond (decide ((deepBy b a).lo > 0)) (deepBy b a).lo 0)) ∧ (cond (decide ((deepBy b a).hi < 0)) (deepBy b a).hi (cond (decide ((deepBy b a).lo > 0)) (deepBy b a).lo 0)) ≤ 100000 := by
      by_cases c1 : (deepBy b a).hi < 0 <;> by_cases c2 : (deepBy b a).lo > 0 <;> simp [c1, c2] <;> omega
    have mX2 := mul_sm (a := (deepBy b a).lo) (m := 1000 + p.damp.lo) (by omega) (by omega) (by omega) (by omega)
    rw [w64 (n := (deepBy b a).lo * (1000 + p.damp.lo)) (by omega) (by omega)]
    have mZ2 := mul_sm (a := (deepBy b a).hi) (m := 1000 + p.damp.lo) (by omega) (by omega) (by omega) (by omega)
    rw [w64 (n := (deepBy b a).hi * (1000 + p.damp.lo)) (by omega) (by omega)]
    have mY2 := mul_sm (a := (deepBy b a).lo) (m := 1000 + p.damp.hi) (by omega) (by omega) (by omega) (by omega)
    rw [w64 (n := (deepBy b a).lo * (1000 + p.damp.hi)) (by omega) (by omega)]
    have mW2 := mul_sm (a := (deepBy b a).hi) (m := 1000 + p.damp.hi) (by omega) (by omega) (by omega) (by omega)
    rw [w64 (n := (deepBy b a).hi * (1000 + p.damp.hi)) (by omega) (by omega)]
    have mN2 := mul_sm (a := (cond (decide ((deepBy b a).hi < 0)) (deepBy b a).hi (cond (decide ((deepBy b a).lo > 0)) (deepBy b a).lo 0))) (m := 1000 + p.damp.lo) (by omega) (by omega) (by omega) (by omega)
    rw [w64 (n := (cond (decide ((deepBy b a).hi < 0)) (deepBy b a).hi (cond (decide ((deepBy b a).lo > 0)) (deepBy b a).lo 0)) * (1000 + p.damp.lo)) (by omega) (by omega)]
    generalize (cond (decide ((offBy p b a).hi < 0)) (offBy p b a).hi (cond (decide ((offBy p b a).lo > 0)) (offBy p b a).lo 0)) * (1000 + p.damp.lo) = N0 at *
    generalize (offBy p b a).lo * (1000 + p.damp.lo) = X0 at *
    generalize (offBy p b a).hi * (1000 + p.damp.lo) = Z0 at *
    generalize (offBy p b a).lo * (1000 + p.damp.hi) = Y0 at *
    generalize (offBy p b a).hi * (1000 + p.damp.hi) = W0 at *
    generalize (cond (decide ((wideBy b a).hi < 0)) (wideBy b a).hi (cond (decide ((wideBy b a).lo > 0)) (wideBy b a).lo 0)) * (1000 + p.damp.lo) = N1 at *
    generalize (wideBy b a).lo * (1000 + p.damp.lo) = X1 at *
    generalize (wideBy b a).hi * (1000 + p.damp.lo) = Z1 at *
    generalize (wideBy b a).lo * (1000 + p.damp.hi) = Y1 at *
    generalize (wideBy b a).hi * (1000 + p.damp.hi) = W1 at *
    generalize (cond (decide ((deepBy b a).hi < 0)) (deepBy b a).hi (cond (decide ((deepBy b a).lo > 0)) (deepBy b a).lo 0)) * (1000 + p.damp.lo) = N2 at *
    generalize (deepBy b a).lo * (1000 + p.damp.lo) = X2 at *
    generalize (deepBy b a).hi * (1000 + p.damp.lo) = Z2 at *
    generalize (deepBy b a).lo * (1000 + p.damp.hi) = Y2 at *
    generalize (deepBy b a).hi * (1000 + p.damp.hi) = W2 at *
    clear nb0 nb1 nb2 b0 b1 b2 sp ti hi
    generalize gapOf p b a = G at *
    have hB := couple_B hpk ht hh kA.1 kA.2
    have sl0 : Sm (min (min X0 X0) Y0) := by unfold Sm; omega
    have sh0 : Sm (max (max Z0 Z0) W0) := by unfold Sm; omega
    have sl1 : Sm (min (min X1 X1) Y1) := by unfold Sm; omega
    have sh1 : Sm (max (max Z1 Z1) W1) := by unfold Sm; omega
    have sl2 : Sm (min (min X2 X2) Y2) := by unfold Sm; omega
    have sh2 : Sm (max (max Z2 Z2) W2) := by unfold Sm; omega
    repeat' first | refine den_need rfl ?_ | refine den_need (by grind) ?_ | refine den_bnd fun x hx => ?_
    refine den_br (fun hx => by exfalso; grind) (fun _ => ?_)
    repeat' first | refine den_need rfl ?_ | refine den_need (by grind) ?_ | refine den_bnd fun x hx => ?_
    refine den_br (fun hx => by exfalso; grind) (fun _ => ?_)
    repeat' first | refine den_need rfl ?_ | refine den_need (by grind) ?_ | refine den_bnd fun x hx => ?_
    refine den_br (fun _ => ?_) (fun hx => by exfalso; grind)
    refine den_br (fun hx => by cases hx) (fun _ => ?_)
    refine den_need (decide_eq_true hB) ?_
    clear hB
    refine den_bndI fun y hy => ?_
    have hy := hy.symm
    subst hy
    refine den_bndI fun y hy => ?_
    have hy := hy.symm
    subst hy
    refine den_bndI fun y hy => ?_
    have hy := hy.symm
    subst hy
    refine den_bndI fun y hy => ?_
    have hy := hy.symm
    subst hy
    refine den_bndI fun y hy => ?_
    have hy := hy.symm
    subst hy
    refine den_bndI fun y hy => ?_
    have hy := hy.symm
    subst hy
    repeat' first | refine den_need rfl ?_ | refine den_need (by grind) ?_
    refine den_bnd fun a1 h1 => ?_
    refine den_bndI fun y hy => ?_
    have hy := hy.symm
    subst hy
    refine den_bndI fun y hy => ?_
    have hy := hy.symm
    subst hy
    repeat' first | refine den_need rfl ?_ | refine den_need (by grind) ?_
    refine den_bnd fun a2 h2 => ?_
    repeat' first | refine den_need rfl ?_ | refine den_need (by grind) ?_
    refine den_bnd fun a3 h3 => ?_
    have e0 := al4 h1 h2 h3
    clear h1 h2 h3
    refine den_all fun _ => ?_
    refine den_all fun _ => ?_
    refine den_bndI fun y hy => ?_
    have hy := hy.symm
    subst hy
    refine den_bndI fun y hy => ?_
    have hy := hy.symm
    subst hy
    repeat' first | refine den_need rfl ?_ | refine den_need (by grind) ?_
    refine den_bnd fun n1 k1 => ?_
    have d0 := nv2 k1
    clear k1
    refine den_need (decide_eq_true ⟨sl0, rfl⟩) ?_
    rw [decide_eq_true (⟨sh0, rfl⟩ : Sm (max (max Z0 Z0) W0) ∧ (1000 : Int) = 1000)]
    repeat' first | refine den_need rfl ?_ | refine den_need (by grind) ?_
    refine den_bnd fun q hq => ?_
    refine den_br (fun hx => by exfalso; rw [hq, gl0, gh0] at hx; simp at hx) (fun _ => ?_)
    refine den_bndI fun y hy => ?_
    have hy := hy.symm
    subst hy
    refine den_bndI fun y hy => ?_
    have hy := hy.symm
    subst hy
    refine den_bndI fun y hy => ?_
    have hy := hy.symm
    subst hy
    refine den_bndI fun y hy => ?_
    have hy := hy.symm
    subst hy
    repeat' first | refine den_need rfl ?_ | refine den_need (by grind) ?_
    refine den_bnd fun c1 h1 => ?_
    repeat' first | refine den_need rfl ?_ | refine den_need (by grind) ?_
    refine den_bnd fun c2 h2 => ?_
    refine den_bndI fun y hy => ?_
    have hy := hy.symm
    subst hy
    refine den_bndI fun y hy => ?_
    have hy := hy.symm
    subst hy
    repeat' first | refine den_need rfl ?_ | refine den_need (by grind) ?_
    refine den_bnd fun c3 h3 => ?_
    repeat' first | refine den_need rfl ?_ | refine den_need (by grind) ?_
    refine den_bnd fun c4 h4 => ?_
    have e1 := al5 h1 h2 h3 h4
    clear h1 h2 h3 h4
    refine den_all fun _ => ?_
    refine den_all fun _ => ?_
    repeat' first | refine den_need rfl ?_ | refine den_need (by grind) ?_
    refine den_bnd fun r1 k1 => ?_
    repeat' first | refine den_need rfl ?_ | refine den_need (by grind) ?_
    refine den_bnd fun r2 k2 => ?_
    have d1 := nv3 k1 k2
    clear k1 k2
    refine den_need (decide_eq_true ⟨sl1, rfl⟩) ?_
    rw [decide_eq_true (⟨sh1, rfl⟩ : Sm (max (max Z1 Z1) W1) ∧ (1000 : Int) = 1000)]
    repeat' first | refine den_need rfl ?_ | refine den_need (by grind) ?_
    refine den_bnd fun q1 hq1 => ?_
    refine den_br (fun hx => by exfalso; rw [hq1, gl1, gh1] at hx; simp at hx) (fun _ => ?_)
    refine den_bndI fun y hy => ?_
    have hy := hy.symm
    subst hy
    refine den_bndI fun y hy => ?_
    have hy := hy.symm
    subst hy
    refine den_bndI fun y hy => ?_
    have hy := hy.symm
    subst hy
    refine den_bndI fun y hy => ?_
    have hy := hy.symm
    subst hy
    repeat' first | refine den_need rfl ?_ | refine den_need (by grind) ?_
    refine den_bnd fun u1 h1 => ?_
    repeat' first | refine den_need rfl ?_ | refine den_need (by grind) ?_
    refine den_bnd fun u2 h2 => ?_
    refine den_bndI fun y hy => ?_
    have hy := hy.symm
    subst hy
    refine den_bndI fun y hy => ?_
    have hy := hy.symm
    subst hy
    repeat' first | refine den_need rfl ?_ | refine den_need (by grind) ?_
    refine den_bnd fun u3 h3 => ?_
    repeat' first | refine den_need rfl ?_ | refine den_need (by grind) ?_
    refine den_bnd fun u4 h4 => ?_
    have e2 := al5 h1 h2 h3 h4
    clear h1 h2 h3 h4
    refine den_all fun _ => ?_
    refine den_all fun _ => ?_
    repeat' first | refine den_need rfl ?_ | refine den_need (by grind) ?_
    refine den_bnd fun s1 k1 => ?_
    repeat' first | refine den_need rfl ?_ | refine den_need (by grind) ?_
    refine den_bnd fun s2 k2 => ?_
    have d2 := nv3 k1 k2
    clear k1 k2
    refine den_need (decide_eq_true ⟨sl2, rfl⟩) ?_
    rw [decide_eq_true (⟨sh2, rfl⟩ : Sm (max (max Z2 Z2) W2) ∧ (1000 : Int) = 1000)]
    repeat' first | refine den_need rfl ?_ | refine den_need (by grind) ?_
    refine den_bnd fun q2 hq2 => ?_
    refine den_br (fun hx => by exfalso; rw [hq2, gl2, gh2] at hx; simp at hx) (fun _ => ?_)
    have hA : ((verd p b a, (0 : Int)).1 == 2) = u4 := by
      rw [Bool.eq_iff_iff, beq_iff_eq]
      simp only
      rw [vA, e2, e1, e0]
      constructor <;> intro h <;> omega
    have hN : ((verd p b a, (0 : Int)).1 == 0) = s2 := by
      rw [Bool.eq_iff_iff, beq_iff_eq]
      simp only
      rw [vN, d2, d1, d0]
      constructor <;> intro h <;> omega
    rw [hA, hN]
    repeat' first | refine den_need rfl ?_ | refine den_need (by grind) ?_ | refine den_bnd fun x hx => ?_
    have : x = true := by first | grind | (subst_vars; simp)
    rw [this]; trivial
  · have eB : BetweenF p a b = (Gap.zero, 6) := by unfold BetweenF; rw [if_pos ⟨hpk, ha, hb⟩, if_neg kA, if_neg kB]
    rw [eB]
    simp only [Gap.zero]
    repeat' first | refine den_need rfl ?_ | refine den_need (by grind) ?_ | refine den_bnd fun x hx => ?_
    refine den_br (fun _ => ?_) (fun hx => by exfalso; grind)
    repeat' first | refine den_need rfl ?_ | refine den_need (by grind) ?_ | refine den_bnd fun x hx => ?_
    have : x = true := by grind
    rw [this]; trivial
def fitEndsF : Play × Edge × Edge × Unit → Bool × AV := fun | (_, _, _, _) => (true, .bool false true)
def fitEndsC : FC := pureFC (pfOf fitEndsF)
set_option maxRecDepth 100000 in
theorem fitEnds_s : FSound Try.prog 8 fitEndsC := by
  refine fn_plain (mkJ_ok tab_lawSpan_ok []) (H := hnd (mkJ Try.prog tab_lawSpan []) 14) Try.func8 (c := bodyOf Try.f8) (by kernel_rfl) (by kernel_rfl) (fun G _ hG => hnd_hndOk (mkJ_ok tab_lawSpan_ok []) 14 G _ hG) ?_
  rintro ⟨p, a, b, ⟨⟩⟩ _
  exact (fitEnds_den p a b).den
end Go.Proofs.Ytdaanchagjamfaa
