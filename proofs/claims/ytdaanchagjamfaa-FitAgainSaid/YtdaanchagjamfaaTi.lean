/- The law FitAgain, of the code. -/
import Derived.Test.YtdaanchagjamfaaTf
import Derived.Test.YtdaanchagjamfaaPa
namespace Go.Proofs.Ytdaanchagjamfaa
open Go.SX

def fitAgainF : Edge × Sp × Int × Int × Unit → Bool × AV := fun | (s, (w, (a, (b, _)))) => (true, .bool false true)
def fitAgainC : FC := pureFC (pfOf fitAgainF)
set_option maxRecDepth 100000 in
theorem fitAgain_t (s : Edge) (w : Sp) (a : Int) (b : Int) : execFn (mkE Try.prog tab_alive) (hnd (mkE Try.prog tab_alive) 0) false Try.f10 (EncL.enc ((s, w, a, b, ()) : Edge × Sp × Int × Int × Unit)) [] 0 =
    Tree.br (decide (a < (0 : Int))) (Tree.leaf (AV.bool true true) [])
      (Tree.br (decide (b < (0 : Int))) (Tree.leaf (AV.bool true true) [])
        (Tree.br (decide (a > (20000 : Int))) (Tree.leaf (AV.bool true true) [])
          (Tree.br (decide (b > IntKind.i64.wrap ((20000 : Int) - a))) (Tree.leaf (AV.bool true true) [])
            (Tree.need true
              (Tree.br ((WornF s w (0 : Int)).2 != (0 : Int))
                (Tree.br
                  ((WornF s w (0 : Int)).1.kind == (0 : Int) &&
                    ((WornF s w (0 : Int)).1.at_.lo == (0 : Int) && ((WornF s w (0 : Int)).1.at_.hi == (0 : Int) && true) &&
                      ((WornF s w (0 : Int)).1.wide.lo == (0 : Int) && ((WornF s w (0 : Int)).1.wide.hi == (0 : Int) && true) &&
                        ((WornF s w (0 : Int)).1.deep.lo == (0 : Int) && ((WornF s w (0 : Int)).1.deep.hi == (0 : Int) && true) && true))))
                  (Tree.need true (Tree.br (((WornF s w (0 : Int)).2 == (1 : Int)) == !s.ok) (Tree.leaf (AV.bool true true) []) (Tree.leaf (AV.bool true false) []))) (Tree.leaf (AV.bool true false) []))
                (Tree.br
                  (!((WornF s w (0 : Int)).1.kind == s.kind &&
                      ((WornF s w (0 : Int)).1.at_.lo == s.at_.lo && ((WornF s w (0 : Int)).1.at_.hi == s.at_.hi && true) &&
                        ((WornF s w (0 : Int)).1.wide.lo == s.wide.lo && ((WornF s w (0 : Int)).1.wide.hi == s.wide.hi && true) &&
                          ((WornF s w (0 : Int)).1.deep.lo == s.deep.lo && ((WornF s w (0 : Int)).1.deep.hi == s.deep.hi && true) && true)))))
                  (Tree.leaf (AV.bool true false) [])
                  (Tree.need true
                    (Tree.need true
                      (Tree.br ((WornF s w a).2 != (0 : Int))
                        (Tree.br ((WornF s w a).2 == (11 : Int)) (Tree.br ((WornF s w (IntKind.i64.wrap (a + b))).2 == (11 : Int)) (Tree.leaf (AV.bool true true) []) (Tree.leaf (AV.bool true false) []))
                          (Tree.leaf (AV.bool true false) []))
                        (Tree.need true
                          (Tree.br ((WornF s w (IntKind.i64.wrap (a + b))).2 != (0 : Int))
                            (Tree.br ((WornF s w (IntKind.i64.wrap (a + b))).2 == (11 : Int))
                              (Tree.br ((WornF (WornF s w a).1 w b).2 == (11 : Int)) (Tree.leaf (AV.bool true true) []) (Tree.leaf (AV.bool true false) [])) (Tree.leaf (AV.bool true false) []))
                            (Tree.br ((WornF (WornF s w a).1 w b).2 == (0 : Int))
                              (Tree.br (decide ((WornF (WornF s w a).1 w b).1.wide.lo > (WornF s w (IntKind.i64.wrap (a + b))).1.wide.lo)) (Tree.leaf (AV.bool true false) [])
                                (Tree.br (decide ((WornF (WornF s w a).1 w b).1.wide.hi < (WornF s w (IntKind.i64.wrap (a + b))).1.wide.hi)) (Tree.leaf (AV.bool true false) [])
                                  (Tree.br ((WornF (WornF s w a).1 w b).2 != (0 : Int))
                                    (Tree.br ((WornF (WornF s w a).1 w b).2 != (11 : Int)) (Tree.leaf (AV.bool true false) [])
                                      (Tree.br (s.kind == (1 : Int))
                                        (Tree.br (decide ((WornF s w (IntKind.i64.wrap (a + b))).1.wide.lo ≤ s.wide.lo))
                                          (Tree.br (decide ((WornF s w (IntKind.i64.wrap (a + b))).1.wide.hi ≤ s.wide.hi)) (Tree.leaf (AV.bool true true) []) (Tree.leaf (AV.bool true false) []))
                                          (Tree.leaf (AV.bool true false) []))
                                        (Tree.br (decide ((WornF s w (IntKind.i64.wrap (a + b))).1.wide.lo ≥ s.wide.lo))
                                          (Tree.br (decide ((WornF s w (IntKind.i64.wrap (a + b))).1.wide.hi ≥ s.wide.hi)) (Tree.leaf (AV.bool true true) []) (Tree.leaf (AV.bool true false) []))
                                          (Tree.leaf (AV.bool true false) []))))
                                    (Tree.br (s.kind == (1 : Int))
                                      (Tree.br (decide ((WornF s w (IntKind.i64.wrap (a + b))).1.wide.lo ≤ s.wide.lo))
                                        (Tree.br (decide ((WornF s w (IntKind.i64.wrap (a + b))).1.wide.hi ≤ s.wide.hi)) (Tree.leaf (AV.bool true true) []) (Tree.leaf (AV.bool true false) []))
                                        (Tree.leaf (AV.bool true false) []))
                                      (Tree.br (decide ((WornF s w (IntKind.i64.wrap (a + b))).1.wide.lo ≥ s.wide.lo))
                                        (Tree.br (decide ((WornF s w (IntKind.i64.wrap (a + b))).1.wide.hi ≥ s.wide.hi)) (Tree.leaf (AV.bool true true) []) (Tree.leaf (AV.bool true false) []))
                                        (Tree.leaf (AV.bool true false) []))))))
                              (Tree.br ((WornF (WornF s w a).1 w b).2 != (0 : Int))
                                (Tree.br ((WornF (WornF s w a).1 w b).2 != (11 : Int)) (Tree.leaf (AV.bool true false) [])
                                  (Tree.br (s.kind == (1 : Int))
                                    (Tree.br (decide ((WornF s w (IntKind.i64.wrap (a + b))).1.wide.lo ≤ s.wide.lo))
                                      (Tree.br (decide ((WornF s w (IntKind.i64.wrap (a + b))).1.wide.hi ≤ s.wide.hi)) (Tree.leaf (AV.bool true true) []) (Tree.leaf (AV.bool true false) []))
                                      (Tree.leaf (AV.bool true false) []))
                                    (Tree.br (decide ((WornF s w (IntKind.i64.wrap (a + b))).1.wide.lo ≥ s.wide.lo))
                                      (Tree.br (decide ((WornF s w (IntKind.i64.wrap (a + b))).1.wide.hi ≥ s.wide.hi)) (Tree.leaf (AV.bool true true) []) (Tree.leaf (AV.bool true false) []))
                                      (Tree.leaf (AV.bool true false) []))))
                                (Tree.br (s.kind == (1 : Int))
                                  (Tree.br (decide ((WornF s w (IntKind.i64.wrap (a + b))).1.wide.lo ≤ s.wide.lo))
                                    (Tree.br (decide ((WornF s w (IntKind.i64.wrap (a + b))).1.wide.hi ≤ s.wide.hi)) (Tree.leaf (AV.bool true true) []) (Tree.leaf (AV.bool true false) []))
                                    (Tree.leaf (AV.bool true false) []))
                                  (Tree.br (decide ((WornF s w (IntKind.i64.wrap (a + b))).1.wide.lo ≥ s.wide.lo))
                                    (Tree.br (decide ((WornF s w (IntKind.i64.wrap (a + b))).1.wide.hi ≥ s.wide.hi)) (Tree.leaf (AV.bool true true) []) (Tree.leaf (AV.bool true false) []))
                                    (Tree.leaf (AV.bool true false) [])))))))))))))))) := by kernel_rfl
theorem fitAgain_s : FSound Try.prog 10 fitAgainC := by
  refine plain_fn tab_alive_ok 0 Try.func10 (by kernel_rfl) (by kernel_rfl) ?_
  rintro ⟨s, w, a, b, ⟨⟩⟩ hp
  rw [fitAgain_t s w a b]
  simp only [fitAgainF, Tree.den, AV.same, AV.sameL, and_true, true_and] at hp ⊢
  by_cases ha : a < 0
  · simp [ha]
  by_cases hb : b < 0
  · simp [ha, hb]
  by_cases ha2 : a > 20000
  · simp [ha, hb, ha2]
  rw [w64 (n := 20000 - a) (by omega) (by omega)]
  by_cases hb2 : b > 20000 - a
  · simp [ha, hb, ha2, hb2]
  rw [w64 (n := a + b) (by omega) (by omega)]
  by_cases h0 : (WornF s w 0).2 = 0
  · have hsame := worn_same h0
    obtain ⟨hs, hw, hk, _, _, _⟩ := worn_ok h0
    have fa := worn_in (n := a) hs hw hk (by omega) (by omega)
    have fl := worn_in (n := a + b) hs hw hk (by omega) (by omega)
    obtain ⟨g1, ⟨g2, g3⟩, g4, g5, g6⟩ := again (a := a) (b := b) hs hw hk (by omega) (by omega)
    by_cases ia : (s.worn w a).wide.isIn 1 3000 = true
    · rw [if_pos ia] at fa
      have fb := worn_in (s := s.worn w a) (w := w) (n := b) (worn_side hs hk ia) hw (by simpa [Edge.worn] using hk) (by omega) (by omega)
      by_cases il : (s.worn w (a + b)).wide.isIn 1 3000 = true
      · rw [if_pos il] at fl
        by_cases ib : ((s.worn w a).worn w b).wide.isIn 1 3000 = true
        · rw [if_pos ib] at fb
          by_cases hk1 : s.kind = 1
          · have := g4 hk1
            simp [ha, hb, ha2, hb2, h0, hsame, fa, fl, fb, hk1, this, Int.not_lt.2 g2, Int.not_lt.2 g3]
          · have := g5 hk1
            simp [ha, hb, ha2, hb2, h0, hsame, fa, fl, fb, hk1, this, Int.not_lt.2 g2, Int.not_lt.2 g3]
        · rw [if_neg ib] at fb
          by_cases hk1 : s.kind = 1
          · have := g4 hk1
            simp [ha, hb, ha2, hb2, h0, hsame, fa, fl, fb, hk1, this]
          · have := g5 hk1
            simp [ha, hb, ha2, hb2, h0, hsame, fa, fl, fb, hk1, this]
      · rw [if_neg il] at fl
        have ib : ¬ ((s.worn w a).worn w b).wide.isIn 1 3000 = true := by
          rw [Sp.isIn_iff] at il ⊢
          omega
        rw [if_neg ib] at fb
        simp [ha, hb, ha2, hb2, h0, hsame, fa, fl, fb]
    · rw [if_neg ia] at fa
      have il : ¬ (s.worn w (a + b)).wide.isIn 1 3000 = true := fun h => ia (g1 h)
      rw [if_neg il] at fl
      simp [ha, hb, ha2, hb2, h0, hsame, fa, fl]
  · obtain ⟨e1, e2⟩ := worn_err h0
    have e3 : ((WornF s w 0).2 == 1) = !s.ok := by
      cases hs : s.ok with
      | true => simpa [hs] using e2
      | false => simpa [hs] using e2
    simp [ha, hb, ha2, hb2, h0, e1, e3, Edge.zero]
def tab_fitAgain : Tab := addF tab_alive 10 fitAgainC
theorem tab_fitAgain_ok : TabOk tab_fitAgain := tab_alive_ok.add fitAgain_s
end Go.Proofs.Ytdaanchagjamfaa
