/- The law FitSides, of the code. -/
import Derived.Test.YtdaanchagjamfaaTf
namespace Go.Proofs.Ytdaanchagjamfaa
open Go.SX

def fitSidesF : Play × Edge × Edge × Sp × Int × Unit → Bool × AV := fun | (p, (a, (b, (w, (n, _))))) => (true, .bool false true)
def fitSidesC : FC := pureFC (pfOf fitSidesF)
set_option maxRecDepth 100000 in
theorem fitSides_t (p : Play) (a : Edge) (b : Edge) (w : Sp) (n : Int) : execFn (mkE Try.prog tab_alive) (hnd (mkE Try.prog tab_alive) 0) false Try.f3 (EncL.enc ((p, a, b, w, n, ()) : Play × Edge × Edge × Sp × Int × Unit)) [] 0 =
    Tree.need true
      (Tree.need true
        (Tree.need true
          (Tree.need true
            (Tree.need true
              (Tree.need true
                (Tree.br ((FitF p a b).1 == (FitF p a b).1)
                  (Tree.br ((FitF p a b).2 == (FitF p a b).2)
                    (Tree.br
                      ((BetweenF p a b).1.off.lo == (BetweenF p a b).1.off.lo && ((BetweenF p a b).1.off.hi == (BetweenF p a b).1.off.hi && true) &&
                        ((BetweenF p a b).1.wide.lo == (BetweenF p a b).1.wide.lo && ((BetweenF p a b).1.wide.hi == (BetweenF p a b).1.wide.hi && true) &&
                          ((BetweenF p a b).1.deep.lo == (BetweenF p a b).1.deep.lo && ((BetweenF p a b).1.deep.hi == (BetweenF p a b).1.deep.hi && true) && true)))
                      (Tree.br ((BetweenF p a b).2 == (BetweenF p a b).2)
                        (Tree.br
                          ((WornF a w n).1.kind == (WornF a w n).1.kind &&
                            ((WornF a w n).1.at_.lo == (WornF a w n).1.at_.lo && ((WornF a w n).1.at_.hi == (WornF a w n).1.at_.hi && true) &&
                              ((WornF a w n).1.wide.lo == (WornF a w n).1.wide.lo && ((WornF a w n).1.wide.hi == (WornF a w n).1.wide.hi && true) &&
                                ((WornF a w n).1.deep.lo == (WornF a w n).1.deep.lo && ((WornF a w n).1.deep.hi == (WornF a w n).1.deep.hi && true) && true))))
                          (Tree.br ((WornF a w n).2 == (WornF a w n).2) (Tree.leaf (AV.bool true true) []) (Tree.leaf (AV.bool true false) [])) (Tree.leaf (AV.bool true false) []))
                        (Tree.leaf (AV.bool true false) []))
                      (Tree.leaf (AV.bool true false) []))
                    (Tree.leaf (AV.bool true false) []))
                  (Tree.leaf (AV.bool true false) []))))))) := by kernel_rfl
theorem fitSides_s : FSound Try.prog 3 fitSidesC := by
  refine plain_fn tab_alive_ok 0 Try.func3 (by kernel_rfl) (by kernel_rfl) ?_
  rintro ⟨p, a, b, w, n, ⟨⟩⟩ hp
  rw [fitSides_t p a b w n]
  simp only [fitSidesF, Tree.den, AV.same, AV.sameL, and_true, true_and] at hp ⊢
  simp
def tab_fitSides : Tab := addF tab_alive 3 fitSidesC
theorem tab_fitSides_ok : TabOk tab_fitSides := tab_alive_ok.add fitSides_s
end Go.Proofs.Ytdaanchagjamfaa
