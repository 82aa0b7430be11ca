/- The law FitNames, of the code: run whole. -/
import Derived.Test.YtdaanchagjamfaaTf
namespace Go.Proofs.Ytdaanchagjamfaa
open Go.SX

set_option maxRecDepth 100000 in
theorem fitNames_t : execFn (mkE Try.prog (tabB Try.prog)) (hnd (mkE Try.prog (tabB Try.prog)) 60) false Try.f6 (EncL.enc ()) [] 0 = .leaf (.bool true true) [] := by kernel_rfl
set_option maxRecDepth 100000 in
theorem fitNames_s : FSound Try.prog 6 yesC := by
  refine plain_fn tabB_ok 60 Try.func6 (by kernel_rfl) (by kernel_rfl) ?_
  rintro ⟨⟩ _
  rw [fitNames_t]
  rfl
end Go.Proofs.Ytdaanchagjamfaa
