/- The law ScanNames, which has no arguments, answers true. No condition. -/
import Derived.Test.YtbpffdkemeoajaaNsx
import Derived.Test.YtbpffdkemeoajaaNsz
namespace Go.Proofs.Ytbpffdkemeoajaa
open Go.SX Go.RowKit Go.ChangeShapes Go.WideShapes Go.ChangeAt

set_option maxRecDepth 100000 in
theorem scanNames_lifted (os : Os) (started : os.Started) (H : Type) (enc : TypeId × Value → H) :
    ReturnsInHanded {} Try.checked os 4 .any (Rows.scanNamesSpec.pre6 enc Try.prog Try.f4 Rows.scanNamesRow.domain false) (Rows.scanNamesSpec.post enc Try.prog Try.f4 false true false false) := by
  refine returnsInHanded_of_change (C := Try.checked) own started (by kernel_rfl) Try.func4
    (ChangeSpec.witness6 (enc := enc) (C := Try.checked) false ⟨#[], #[], []⟩ 8 (by kernel_rfl) (by kernel_rfl) (by kernel_rfl) (by kernel_rfl)) ?_
  intro W base args ds gs before hval0 hW _ _
  have hval : ∀ (j : Nat) t v, Try.f4.params[j]? = some t → args[j]? = some v → Value.okWide Try.prog W .any base t v := hval0
  have hW' := hW
  obtain ⟨p, q, hA0, hV, rfl, _, _⟩ := hW
  have hA : DataW.TrodAll enc Try.prog W 0 (fun _ => true) true Try.f4.params.toList args.toList ds p := hA0
  rw [Try.params4] at hA hval
  obtain ⟨rfl, rfl⟩ := trodVars_none hV
  obtain ⟨args⟩ := args
  obtain ⟨e0, rfl⟩ := trod0 hA
  simp only at e0; subst e0
  clear hA0 hval0
  simp only [List.append_nil] at hW'
  refine (law_calls scanNames_s (x := ()) (u := .bool true) rfl rfl (fun _ => rfl) r0 W).mono fun e W' ⟨he, hg⟩ => ?_
  subst he
  exact ⟨_, rfl, post_plain (pa := p) (pv := []) hW' (fun _ _ _ => shut_yes) (fun sp _ => flat_all (n := 5) _ _ _ _ (by kernel_rfl) hA) (fun _ _ => rfl) hg⟩

theorem scanNames_holds : Rows.ScanNamesSaid :=
  OpenClaim.holds_of_wide 4 Try.f4 rfl rfl rfl rfl rfl rfl rfl ⟨rfl, rfl, rfl, rfl, rfl⟩ rfl rfl rfl rfl rfl (by kernel_rfl) Try.func4 (by kernel_rfl)
    (of_decide_eq_true (by kernel_rfl)) (by unfold Func.isWrapper; first | (rw [if_pos (by decide +kernel)]; kernel_rfl) | (rw [if_neg (by decide +kernel)]; exact ⟨rfl, rfl⟩))
    (fun os started H enc _ => scanNames_lifted os started H enc)
#print axioms scanNames_holds
end Go.Proofs.Ytbpffdkemeoajaa
