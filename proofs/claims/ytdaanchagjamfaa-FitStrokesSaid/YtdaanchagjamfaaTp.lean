/- The law FitStrokes, of the code. -/
import Derived.Test.YtdaanchagjamfaaTo
namespace Go.Proofs.Ytdaanchagjamfaa
open Go.SX

def fitStrokesF : Play × Edge × Edge × Sp × U16 × U8 × Unit → Bool × AV := fun | (p, (a, (b, (w, (s, (y, _)))))) => (decide ((0 ≤ s.n ∧ s.n ≤ 65535) ∧ 0 ≤ y.n ∧ y.n ≤ 255), .bool false true)
def fitStrokesC : FC := pureFC (pfOf fitStrokesF)
set_option maxRecDepth 100000 in
theorem fitStrokes_t (p : Play) (a : Edge) (b : Edge) (w : Sp) (s : U16) (y : U8) : execFn (mkS Try.prog tab_lawSpan) (hnd (mkS Try.prog tab_lawSpan) 0) false Try.f9 (EncL.enc ((p, a, b, w, s, y, ()) : Play × Edge × Edge × Sp × U16 × U8 × Unit)) [] 0 =
    Tree.need true
      (Tree.need (!(LastF p a b w).2.2 != (0 : Int) || (LastF p a b w).2.2 != (0 : Int))
        (Tree.need (!(LastF p a b w).2.2 != (0 : Int) || (LastF p a b w).2.2 != (0 : Int))
          (Tree.bnd ((LastF p a b w).2.2 != (0 : Int) && (LastF p a b w).2.2 != (4 : Int)) fun x0 =>
            Tree.br x0
              (Tree.need (!(LastF p a b w).1 == (0 : Int) || (LastF p a b w).1 == (0 : Int))
                (Tree.need (!(LastF p a b w).1 == (0 : Int) || (LastF p a b w).1 == (0 : Int))
                  (Tree.bnd ((LastF p a b w).1 == (0 : Int) && (LastF p a b w).2.1 == (0 : Int)) fun x1 => Tree.need (!x1 || x1) (Tree.bnd (x1 || false) fun x2 => Tree.leaf (AV.bool false x2) []))))
              (Tree.need (!!decide (w.lo < (0 : Int)) || !decide (w.lo < (0 : Int)))
                (Tree.need (!!decide (w.lo < (0 : Int)) || !decide (w.lo < (0 : Int)))
                  (Tree.need (!!decide (w.lo < (0 : Int)) || !decide (w.lo < (0 : Int)) && !decide (w.lo < (0 : Int)))
                    (Tree.need (decide (w.lo < (0 : Int)) || !decide (w.lo < (0 : Int)))
                      (Tree.bnd (decide (w.lo < (0 : Int)) || decide (w.lo > w.hi)) fun x3 =>
                        Tree.need (!!x3 || !x3)
                          (Tree.need (!!x3 || !x3)
                            (Tree.need (x3 || !x3)
                              (Tree.bnd (x3 || decide (w.hi > (100 : Int))) fun x4 =>
                                Tree.need (!!x4 || true && !x4)
                                  (Tree.need (!!x4 || !x4)
                                    (Tree.need (x4 || !x4)
                                      (Tree.bnd (x4 || !p.ok) fun x5 =>
                                        Tree.br x5 (Tree.leaf (AV.bool true false) [])
                                          (Tree.br ((LastF p a b w).2.2 != (0 : Int))
                                            (Tree.need (!(LastF p a b w).1 == (0 : Int) || (LastF p a b w).1 == (0 : Int))
                                              (Tree.need (!(LastF p a b w).1 == (0 : Int) || (LastF p a b w).1 == (0 : Int))
                                                (Tree.bnd ((LastF p a b w).1 == (0 : Int) && (LastF p a b w).2.1 == (0 : Int)) fun x6 =>
                                                  Tree.need (!x6 || p.ok && (x6 && x6))
                                                    (Tree.need (!x6 || x6)
                                                      (Tree.need (!x6 || x6)
                                                        (Tree.bnd (x6 && !lastsB p a b w ((IntKind.i64.wrap s.n).tmod (20001 : Int))) fun x7 =>
                                                          Tree.need (!x7 || p.ok && x7)
                                                            (Tree.need (!x7 || x7)
                                                              (Tree.need (!x7 || x7)
                                                                (Tree.bnd (x7 && !lastsB p a b w (0 : Int)) fun x8 =>
                                                                  Tree.need (!x8 || p.ok && x8)
                                                                    (Tree.need (!x8 || x8)
                                                                      (Tree.need (!x8 || x8)
                                                                        (Tree.bnd (x8 && !lastsB p a b w (20000 : Int)) fun x9 =>
                                                                          Tree.need (!x9 || x9) (Tree.bnd (x9 || false) fun x10 => Tree.leaf (AV.bool false x10) [])))))))))))))
                                            (Tree.need (!!decide ((LastF p a b w).1 < (0 : Int)) || !decide ((LastF p a b w).1 < (0 : Int)) && !decide ((LastF p a b w).1 < (0 : Int)))
                                              (Tree.need (decide ((LastF p a b w).1 < (0 : Int)) || !decide ((LastF p a b w).1 < (0 : Int)))
                                                (Tree.bnd (decide ((LastF p a b w).1 < (0 : Int)) || decide ((LastF p a b w).1 > (LastF p a b w).2.1)) fun x11 =>
                                                  Tree.need (!!x11 || !x11)
                                                    (Tree.need (x11 || !x11)
                                                      (Tree.bnd (x11 || decide ((LastF p a b w).2.1 > (20000 : Int))) fun x12 =>
                                                        Tree.need (!!x12 || p.ok && (!x12 && !x12))
                                                          (Tree.need (!!x12 || !x12)
                                                            (Tree.need (x12 || !x12)
                                                              (Tree.bnd (x12 || !lastsB p a b w (LastF p a b w).1) fun x13 =>
                                                                Tree.need (!!x13 || p.ok && (!x13 && !x13))
                                                                  (Tree.need (!!x13 || !x13)
                                                                    (Tree.need (x13 || !x13)
                                                                      (Tree.bnd (x13 || !lastsB p a b w (LastF p a b w).2.1) fun x14 =>
                                                                        Tree.need (!!x14 || p.ok && (!x14 && !x14))
                                                                          (Tree.need (!!x14 || !x14 && !x14)
                                                                            (Tree.need (!!x14 || !x14)
                                                                              (Tree.need
                                                                                (!(!x14 && decide ((IntKind.i64.wrap s.n).tmod (20001 : Int) ≥ (LastF p a b w).1)) ||
                                                                                  !x14 && decide ((IntKind.i64.wrap s.n).tmod (20001 : Int) ≥ (LastF p a b w).1) &&
                                                                                    (!x14 && decide ((IntKind.i64.wrap s.n).tmod (20001 : Int) ≥ (LastF p a b w).1)))
                                                                                (Tree.need
                                                                                  (!!x14 ||
                                                                                    !x14 &&
                                                                                      (!decide ((IntKind.i64.wrap s.n).tmod (20001 : Int) ≥ (LastF p a b w).1) ||
                                                                                        !x14 && decide ((IntKind.i64.wrap s.n).tmod (20001 : Int) ≥ (LastF p a b w).1)))
                                                                                  (Tree.bnd
                                                                                    (decide ((IntKind.i64.wrap s.n).tmod (20001 : Int) ≥ (LastF p a b w).1) &&
                                                                                      decide ((IntKind.i64.wrap s.n).tmod (20001 : Int) ≤ (LastF p a b w).2.1))
                                                                                    fun x15 =>
                                                                                    Tree.need (!!x14 || !x14 && !x14)
                                                                                      (Tree.need (x14 || !x14)
                                                                                        (Tree.bnd (x14 || !lastsB p a b w ((IntKind.i64.wrap s.n).tmod (20001 : Int)) == x15) fun x16 =>
                                                                                          Tree.need (!!x16 || !x16)
                                                                                            (Tree.need (!!x16 || !x16)
                                                                                              (Tree.need
                                                                                                (!(!x16 && decide ((LastF p a b w).1 > (0 : Int))) || !x16 && decide ((LastF p a b w).1 > (0 : Int)))
                                                                                                (Tree.need
                                                                                                  (!(!x16 && decide ((LastF p a b w).1 > (0 : Int))) ||
                                                                                                    p.ok &&
                                                                                                      (!x16 && decide ((LastF p a b w).1 > (0 : Int)) && (!x16 && decide ((LastF p a b w).1 > (0 : Int)))))
                                                                                                  (Tree.need
                                                                                                    (!!x16 ||
                                                                                                      !x16 && (!decide ((LastF p a b w).1 > (0 : Int)) || !x16 && decide ((LastF p a b w).1 > (0 : Int))))
                                                                                                    (Tree.bnd
                                                                                                      (decide ((LastF p a b w).1 > (0 : Int)) &&
                                                                                                        lastsB p a b w (IntKind.i64.wrap ((LastF p a b w).1 - (1 : Int))))
                                                                                                      fun x17 =>
                                                                                                      Tree.need (x16 || !x16)
                                                                                                        (Tree.bnd (x16 || x17) fun x18 =>
                                                                                                          Tree.need (!!x18 || !x18)
                                                                                                            (Tree.need (!!x18 || !x18)
                                                                                                              (Tree.need
                                                                                                                (!(!x18 && decide ((LastF p a b w).2.1 < (20000 : Int))) ||
                                                                                                                  !x18 && decide ((LastF p a b w).2.1 < (20000 : Int)))
                                                                                                                (Tree.need
                                                                                                                  (!(!x18 && decide ((LastF p a b w).2.1 < (20000 : Int))) ||
                                                                                                                    p.ok &&
                                                                                                                      (!x18 && decide ((LastF p a b w).2.1 < (20000 : Int)) &&
                                                                                                                        (!x18 && decide ((LastF p a b w).2.1 < (20000 : Int)))))
                                                                                                                  (Tree.need
                                                                                                                    (!!x18 ||
                                                                                                                      !x18 &&
                                                                                                                        (!decide ((LastF p a b w).2.1 < (20000 : Int)) ||
                                                                                                                          !x18 && decide ((LastF p a b w).2.1 < (20000 : Int))))
                                                                                                                    (Tree.bnd
                                                                                                                      (decide ((LastF p a b w).2.1 < (20000 : Int)) &&
                                                                                                                        lastsB p a b w (IntKind.i64.wrap ((LastF p a b w).2.1 + (1 : Int))))
                                                                                                                      fun x19 =>
                                                                                                                      Tree.need (x18 || !x18)
                                                                                                                        (Tree.bnd (x18 || x19) fun x20 =>
                                                                                                                          Tree.br x20 (Tree.leaf (AV.bool true false) [])
                                                                                                                            (Tree.need true
                                                                                                                              (Tree.need true
                                                                                                                                (Tree.need
                                                                                                                                  (!(LastF p a b
                                                                                                                                              (Sp.mk
                                                                                                                                                (min w.hi
                                                                                                                                                  (IntKind.i64.wrap
                                                                                                                                                    (w.lo + (IntKind.i64.wrap y.n).tmod (3 : Int))))
                                                                                                                                                w.hi)).2.2 ==
                                                                                                                                        (0 : Int) ||
                                                                                                                                    (LastF p a b
                                                                                                                                              (Sp.mk
                                                                                                                                                (min w.hi
                                                                                                                                                  (IntKind.i64.wrap
                                                                                                                                                    (w.lo + (IntKind.i64.wrap y.n).tmod (3 : Int))))
                                                                                                                                                w.hi)).2.2 ==
                                                                                                                                        (0 : Int) &&
                                                                                                                                      (LastF p a b
                                                                                                                                              (Sp.mk
                                                                                                                                                (min w.hi
                                                                                                                                                  (IntKind.i64.wrap
                                                                                                                                                    (w.lo + (IntKind.i64.wrap y.n).tmod (3 : Int))))
                                                                                                                                                w.hi)).2.2 ==
                                                                                                                                        (0 : Int))
                                                                                                                                  (Tree.need
                                                                                                                                    (!(LastF p a b
                                                                                                                                                (Sp.mk
                                                                                                                                                  (min w.hi
                                                                                                                                                    (IntKind.i64.wrap
                                                                                                                                                      (w.lo + (IntKind.i64.wrap y.n).tmod (3 : Int))))
                                                                                                                                                  w.hi)).2.2 ==
                                                                                                                                          (0 : Int) ||
                                                                                                                                      (LastF p a b
                                                                                                                                              (Sp.mk
                                                                                                                                                (min w.hi
                                                                                                                                                  (IntKind.i64.wrap
                                                                                                                                                    (w.lo + (IntKind.i64.wrap y.n).tmod (3 : Int))))
                                                                                                                                                w.hi)).2.2 ==
                                                                                                                                        (0 : Int))
                                                                                                                                    (Tree.bnd
                                                                                                                                      ((LastF p a b
                                                                                                                                                (Sp.mk
                                                                                                                                                  (min w.hi
                                                                                                                                                    (IntKind.i64.wrap
                                                                                                                                                      (w.lo + (IntKind.i64.wrap y.n).tmod (3 : Int))))
                                                                                                                                                  w.hi)).2.2 ==
                                                                                                                                          (0 : Int) &&
                                                                                                                                        decide
                                                                                                                                          ((LastF p a b
                                                                                                                                                (Sp.mk
                                                                                                                                                  (min w.hi
                                                                                                                                                    (IntKind.i64.wrap
                                                                                                                                                      (w.lo + (IntKind.i64.wrap y.n).tmod (3 : Int))))
                                                                                                                                                  w.hi)).1 ≤
                                                                                                                                            (LastF p a b w).1))
                                                                                                                                      fun x21 =>
                                                                                                                                      Tree.need (!x21 || x21 && x21)
                                                                                                                                        (Tree.need (!x21 || x21)
                                                                                                                                          (Tree.bnd
                                                                                                                                            (x21 &&
                                                                                                                                              decide
                                                                                                                                                ((LastF p a b
                                                                                                                                                        (Sp.mk
                                                                                                                                                          (min w.hi
                                                                                                                                                            (IntKind.i64.wrap
                                                                                                                                                              (w.lo +
                                                                                                                                                                (IntKind.i64.wrap y.n).tmod (3 : Int))))
                                                                                                                                                          w.hi)).2.1 ≥
                                                                                                                                                  (LastF p a b w).2.1))
                                                                                                                                            fun x22 =>
                                                                                                                                            Tree.need (!x22 || x22)
                                                                                                                                              (Tree.bnd (x22 || false) fun x23 =>
                                                                                                                                                Tree.leaf (AV.bool false x23)
                                                                                                                                                  []))))))))))))))))))))))))))))))))))))))))))))))))))))) := by kernel_rfl
theorem fitStrokes_s : FSound Try.prog 9 fitStrokesC := by
  refine plain_fnS tab_lawSpan_ok 0 Try.func9 (by kernel_rfl) (by kernel_rfl) ?_
  rintro ⟨p, a, b, w, s, y, ⟨⟩⟩ hp
  rw [fitStrokes_t p a b w s y]
  simp only [fitStrokesF, Tree.den, AV.same, AV.sameL, and_true, true_and] at hp ⊢
  simp only [decide_eq_true_eq] at hp
  rw [w64 (n := s.n) (by omega) (by omega), w64 (n := y.n) (by omega) (by omega)]
  have hN : 0 ≤ s.n.tmod 20001 ∧ s.n.tmod 20001 ≤ 20000 := by
    rcases tdiv_k s.n 20001 (by omega) with ⟨_, _, e⟩ | ⟨_, _, _⟩ <;> omega
  have hM : 0 ≤ y.n.tmod 3 ∧ y.n.tmod 3 ≤ 2 := by
    rcases tdiv_k y.n 3 (by omega) with ⟨_, _, e⟩ | ⟨_, _, _⟩ <;> omega
  generalize s.n.tmod 20001 = N at *
  generalize y.n.tmod 3 = M at *
  by_cases hk : pairOk p a b w
  · have hw := hk.2.2.2.1
    rw [Sp.isIn_iff] at hw
    have hpk := hk.1
    rw [w64 (n := w.lo + M) (by omega) (by omega)]
    have hv : w.lo ≤ min w.hi (w.lo + M) ∧ min w.hi (w.lo + M) ≤ w.hi ∧ w.hi = w.hi := by omega
    have hwear := lasts_wear (v := Sp.mk (min w.hi (w.lo + M)) w.hi) hk hv
    generalize Sp.mk (min w.hi (w.lo + M)) w.hi = v at *
    have e1 : decide (w.lo < 0) = false := by simp; omega
    have e2 : decide (w.lo > w.hi) = false := by simp; omega
    have e3 : decide (w.hi > 100) = false := by simp; omega
    rcases last_good hk with ⟨f, l, f0, fl, l1, eL, hB⟩ | ⟨eL, hB⟩
    · have v1 : (LastF p a b v).1 ≤ f ∧ l - 1 ≤ (LastF p a b v).2.1 ∧ (LastF p a b v).2.2 = 0 := by
        have g1 := hwear.2 f f0 (by omega) (by rw [hB f f0 (by omega)]; simp; omega)
        have g2 := hwear.2 (l - 1) (by omega) (by omega) (by rw [hB (l - 1) (by omega) (by omega)]; simp; omega)
        rcases last_good hwear.1 with ⟨f', l', _, _, _, eL', hB'⟩ | ⟨_, hB'⟩
        · rw [hB' f f0 (by omega)] at g1
          rw [hB' (l - 1) (by omega) (by omega)] at g2
          simp only [decide_eq_true_eq] at g1 g2
          rw [eL']
          exact ⟨g1.1, by simp only; omega, rfl⟩
        · rw [hB' f f0 (by omega)] at g1; cases g1
      obtain ⟨v1, v2, v3⟩ := v1
      have w1 : IntKind.i64.wrap (f - 1) = f - 1 := w64 (by omega) (by omega)
      have w2 : IntKind.i64.wrap (l - 1 + 1) = l := by rw [w64 (by omega) (by omega)]; omega
      have b1 := hB f f0 (by omega)
      have b2 := hB (l - 1) (by omega) (by omega)
      have b3 := hB N (by omega) (by omega)
      have c1 : decide (f ≤ f ∧ f < l) = true := by simp; omega
      have c2 : decide (f ≤ l - 1 ∧ l - 1 < l) = true := by simp; omega
      rw [c1] at b1
      rw [c2] at b2
      have d1 : decide (f < 0) = false := by simp; omega
      have d2 : decide (f > l - 1) = false := by simp; omega
      have d3 : decide (l - 1 > 20000) = false := by simp; omega
      have b4 : 0 < f → lastsB p a b w (f - 1) = false := fun h => by
        rw [hB _ (by omega) (by omega)]; simp; omega
      have b5 : l - 1 < 20000 → lastsB p a b w l = false := fun h => by
        rw [hB _ (by omega) (by omega)]; simp
      have d4 : decide ((LastF p a b v).1 ≤ f) = true := by simpa using v1
      have d5 : decide ((LastF p a b v).2.1 ≥ l - 1) = true := by simpa using v2
      rw [eL]
      have b6 : lastsB p a b w N = (decide (f ≤ N) && decide (N ≤ l - 1)) := by
        rw [b3]
        by_cases q1 : f ≤ N <;> by_cases q2 : N < l
        · simp [q1, q2, show N ≤ l - 1 by omega]
        · simp [q1, q2, show ¬ N ≤ l - 1 by omega]
        · simp [q1, q2]
        · simp [q1, q2]
      simp only [e1, e2, e3, hpk, b1, b2, d1, d2, d3, d4, d5, v3, w1, w2]
      have b7 : N < f ∨ f ≤ N := by omega
      by_cases g1 : 0 < f <;> by_cases g2 : l - 1 < 20000 <;> simp [g1, g2, b4, b5, b6, b7]
    · rw [eL]
      simp only [e1, e2, e3, hpk, hB N (by omega) (by omega), hB 0 (by omega) (by omega), hB 20000 (by omega) (by omega)]
      simp
  · obtain ⟨e, eL, he⟩ := last_err hk
    rw [eL]
    rcases he with rfl | rfl | rfl <;> simp
def tab_fitStrokes : Tab := addF tab_lawSpan 9 fitStrokesC
theorem tab_fitStrokes_ok : TabOk tab_fitStrokes := tab_lawSpan_ok.add fitStrokes_s
end Go.Proofs.Ytdaanchagjamfaa
