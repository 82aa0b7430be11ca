/- The law FitEnds answers true at every input (whatever is allowed, and whatever the sides are), and each argument reads afterwards as before. No condition. -/
import Derived.Test.YtdaanchagjamfaaTx
import Derived.Test.YtdaanchagjamfaaUo
namespace Go.Proofs.Ytdaanchagjamfaa
open Go.SX Go.RowKit Go.ChangeShapes Go.WideShapes Go.ChangeAt

set_option maxRecDepth 100000 in
theorem fitEnds_lifted (os : Os) (started : os.Started) (H : Type) (enc : TypeId × Value → H) :
    ReturnsInHanded {} Try.checked os 8 .any (Rows.fitEndsSpec.pre6 enc Try.prog Try.f8 Rows.fitEndsRow.domain false) (Rows.fitEndsSpec.post enc Try.prog Try.f8 false true false false) := by
  refine returnsInHanded_of_change (C := Try.checked) own started (by kernel_rfl) Try.func8
    (ChangeSpec.witness6 (enc := enc) (C := Try.checked) false ⟨#[], #[.agg #[.int .i64 0, .int .i64 0, .int .i64 0, .int .i64 0, .int .i64 0], .agg #[.int .i64 0, .int .i64 0, .int .i64 0, .int .i64 0, .int .i64 0, .int .i64 0, .int .i64 0], .agg #[.int .i64 0, .int .i64 0, .int .i64 0, .int .i64 0, .int .i64 0, .int .i64 0, .int .i64 0]], []⟩ 8 (by kernel_rfl) (by kernel_rfl) (by kernel_rfl) (by kernel_rfl)) ?_
  intro W base args ds gs before hval0 hW _ _
  have hval : ∀ (j : Nat) t v, Try.f8.params[j]? = some t → args[j]? = some v → Value.okWide Try.prog W .any base t v := hval0
  have hW' := hW
  obtain ⟨p, q, hA0, hV, rfl, _, _⟩ := hW
  have hA : DataW.TrodAll enc Try.prog W 0 (fun _ => true) true Try.f8.params.toList args.toList ds p := hA0
  rw [Try.params8] at hA hval
  obtain ⟨rfl, rfl⟩ := trodVars_none hV
  obtain ⟨args⟩ := args
  obtain ⟨v1, vs1, d1, ds1, _, e1, rfl, h1⟩ := trod1 hA
  simp only at e1; subst e1
  obtain ⟨v2, vs2, d2, ds2, _, e2, rfl, h2⟩ := trod1 h1
  subst e2
  obtain ⟨v3, vs3, d3, ds3, _, e3, rfl, h3⟩ := trod1 h2
  subst e3
  obtain ⟨e0, rfl⟩ := trod0 h3
  subst e0
  obtain ⟨x1, rfl⟩ := open_play (hval 0 _ v1 rfl rfl)
  obtain ⟨x2, rfl⟩ := open_edge (hval 1 _ v2 rfl rfl)
  obtain ⟨x3, rfl⟩ := open_edge (hval 2 _ v3 rfl rfl)
  clear hA0 hval0
  simp only [List.append_nil] at hW'
  refine (law_calls fitEnds_s (x := (x1, x2, x3, ())) (u := .bool true) rfl rfl (fun _ => rfl) r0 W).mono fun e W' ⟨he, hg⟩ => ?_
  subst he
  exact ⟨_, rfl, post_plain (pa := p) (pv := []) hW' (fun _ _ _ => shut_yes) (fun sp _ => flat_all (n := 5) _ _ _ _ (by kernel_rfl) hA) (fun _ _ => rfl) hg⟩

theorem fitEnds_holds : Rows.FitEndsSaid :=
  OpenClaim.holds_of_wide 8 Try.f8 rfl rfl rfl rfl rfl rfl rfl ⟨rfl, rfl, rfl, rfl, rfl⟩ rfl rfl rfl rfl rfl (by kernel_rfl) Try.func8 (by kernel_rfl)
    (of_decide_eq_true (by kernel_rfl)) (by unfold Func.isWrapper; first | (rw [if_pos (by decide +kernel)]; kernel_rfl) | (rw [if_neg (by decide +kernel)]; exact ⟨rfl, rfl⟩))
    (fun os started H enc _ => fitEnds_lifted os started H enc)
#print axioms fitEnds_holds
end Go.Proofs.Ytdaanchagjamfaa
