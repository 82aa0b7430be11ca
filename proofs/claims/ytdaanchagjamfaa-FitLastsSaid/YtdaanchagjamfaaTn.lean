/- The law FitLasts, of the code. -/
import Derived.Test.YtdaanchagjamfaaTm
namespace Go.Proofs.Ytdaanchagjamfaa
open Go.SX

def fitLastsF : Play × Edge × Edge × Sp × Unit → Bool × AV := fun | (p, (a, (b, (w, _)))) => (true, .bool false true)
def fitLastsC : FC := pureFC (pfOf fitLastsF)
set_option maxRecDepth 100000 in
theorem fitLasts_t (p : Play) (a : Edge) (b : Edge) (w : Sp) : execFn (mkE Try.prog tab_rLast) (hnd (mkE Try.prog tab_rLast) 0) false Try.f4 (EncL.enc ((p, a, b, w, ()) : Play × Edge × Edge × Sp × Unit)) [] 0 =
    Tree.need true
      (Tree.need true
        (Tree.br ((LastF p a b w).1 == (LastF p a b w).1)
          (Tree.br ((LastF p a b w).2.1 == (LastF p a b w).2.1) (Tree.br ((LastF p a b w).2.2 == (LastF p a b w).2.2) (Tree.leaf (AV.bool true true) []) (Tree.leaf (AV.bool true false) []))
            (Tree.leaf (AV.bool true false) []))
          (Tree.leaf (AV.bool true false) []))) := by kernel_rfl
theorem fitLasts_s : FSound Try.prog 4 fitLastsC := by
  refine plain_fn tab_rLast_ok 0 Try.func4 (by kernel_rfl) (by kernel_rfl) ?_
  rintro ⟨p, a, b, w, ⟨⟩⟩ hp
  rw [fitLasts_t p a b w]
  simp only [fitLastsF, Tree.den, AV.same, AV.sameL, and_true, true_and] at hp ⊢
  simp
def tab_fitLasts : Tab := addF tab_rLast 4 fitLastsC
theorem tab_fitLasts_ok : TabOk tab_fitLasts := tab_rLast_ok.add fitLasts_s
end Go.Proofs.Ytdaanchagjamfaa
