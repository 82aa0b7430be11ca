/- The law FitMore answers true at every input (whatever is allowed, whatever the sides, the wear and the remainder are), and each argument reads afterwards as before. No condition. -/
import Derived.Test.YtdaanchagjamfaaTq
import Derived.Test.YtdaanchagjamfaaUp
namespace Go.Proofs.Ytdaanchagjamfaa
open Go.SX Go.RowKit Go.ChangeShapes Go.WideShapes Go.ChangeAt

set_option maxRecDepth 100000 in
theorem fitMore_lifted (os : Os) (started : os.Started) (H : Type) (enc : TypeId × Value → H) :
    ReturnsInHanded {} Try.checked os 12 .any (Rows.fitMoreSpec.pre6 enc Try.prog Try.f12 Rows.fitMoreRow.domain false) (Rows.fitMoreSpec.post enc Try.prog Try.f12 false true false false) := by
  refine returnsInHanded_of_change (C := Try.checked) own started (by kernel_rfl) Try.func12
    (ChangeSpec.witness6 (enc := enc) (C := Try.checked) false ⟨#[], #[.agg #[.int .i64 0, .int .i64 0, .int .i64 0, .int .i64 0, .int .i64 0], .agg #[.int .i64 0, .int .i64 0, .int .i64 0, .int .i64 0, .int .i64 0, .int .i64 0, .int .i64 0], .agg #[.int .i64 0, .int .i64 0, .int .i64 0, .int .i64 0, .int .i64 0, .int .i64 0, .int .i64 0], .agg #[.int .i64 0, .int .i64 0], .int .u8 0], []⟩ 8 (by kernel_rfl) (by kernel_rfl) (by kernel_rfl) (by kernel_rfl)) ?_
  intro W base args ds gs before hval0 hW _ _
  have hval : ∀ (j : Nat) t v, Try.f12.params[j]? = some t → args[j]? = some v → Value.okWide Try.prog W .any base t v := hval0
  have hW' := hW
  obtain ⟨p, q, hA0, hV, rfl, _, _⟩ := hW
  have hA : DataW.TrodAll enc Try.prog W 0 (fun _ => true) true Try.f12.params.toList args.toList ds p := hA0
  rw [Try.params12] at hA hval
  obtain ⟨rfl, rfl⟩ := trodVars_none hV
  obtain ⟨args⟩ := args
  obtain ⟨v1, vs1, d1, ds1, _, e1, rfl, h1⟩ := trod1 hA
  simp only at e1; subst e1
  obtain ⟨v2, vs2, d2, ds2, _, e2, rfl, h2⟩ := trod1 h1
  subst e2
  obtain ⟨v3, vs3, d3, ds3, _, e3, rfl, h3⟩ := trod1 h2
  subst e3
  obtain ⟨v4, vs4, d4, ds4, _, e4, rfl, h4⟩ := trod1 h3
  subst e4
  obtain ⟨v5, vs5, d5, ds5, _, e5, rfl, h5⟩ := trod1 h4
  subst e5
  obtain ⟨e0, rfl⟩ := trod0 h5
  subst e0
  obtain ⟨x1, rfl⟩ := open_play (hval 0 _ v1 rfl rfl)
  obtain ⟨x2, rfl⟩ := open_edge (hval 1 _ v2 rfl rfl)
  obtain ⟨x3, rfl⟩ := open_edge (hval 2 _ v3 rfl rfl)
  obtain ⟨x4, rfl⟩ := open_sp (hval 3 _ v4 rfl rfl)
  obtain ⟨x5, rfl, y5⟩ := open_u8 (hval 4 _ v5 rfl rfl)
  clear hA0 hval0
  simp only [List.append_nil] at hW'
  have hF : (fitMoreF (x1, x2, x3, x4, x5, ())).1 = true := by
    simp only [fitMoreF, decide_eq_true_eq]
    omega
  refine (law_calls fitMore_s (x := (x1, x2, x3, x4, x5, ())) (u := .bool true) rfl (Prod.ext hF rfl) (fun _ => rfl) r0 W).mono fun e W' ⟨he, hg⟩ => ?_
  subst he
  exact ⟨_, rfl, post_plain (pa := p) (pv := []) hW' (fun _ _ _ => shut_yes) (fun sp _ => flat_all (n := 5) _ _ _ _ (by kernel_rfl) hA) (fun _ _ => rfl) hg⟩

theorem fitMore_holds : Rows.FitMoreSaid :=
  OpenClaim.holds_of_wide 12 Try.f12 rfl rfl rfl rfl rfl rfl rfl ⟨rfl, rfl, rfl, rfl, rfl⟩ rfl rfl rfl rfl rfl (by kernel_rfl) Try.func12 (by kernel_rfl)
    (of_decide_eq_true (by kernel_rfl)) (by unfold Func.isWrapper; first | (rw [if_pos (by decide +kernel)]; kernel_rfl) | (rw [if_neg (by decide +kernel)]; exact ⟨rfl, rfl⟩))
    (fun os started H enc _ => fitMore_lifted os started H enc)
#print axioms fitMore_holds
end Go.Proofs.Ytdaanchagjamfaa
