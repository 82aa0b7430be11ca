/- The law FitTrue answers true at every input (whatever is allowed, whatever the sides, the wear, the strokes and the remainders are), and each argument reads afterwards as before. No condition. -/
import Derived.Test.YtdaanchagjamfaaTt
import Derived.Test.YtdaanchagjamfaaUl
namespace Go.Proofs.Ytdaanchagjamfaa
open Go.SX Go.RowKit Go.ChangeShapes Go.WideShapes Go.ChangeAt

set_option maxRecDepth 100000 in
set_option maxHeartbeats 4000000 in
theorem fitTrue_lifted (os : Os) (started : os.Started) (H : Type) (enc : TypeId × Value → H) :
    ReturnsInHanded {} Try.checked os 7 .any (Rows.fitTrueSpec.pre6 enc Try.prog Try.f7 Rows.fitTrueRow.domain false) (Rows.fitTrueSpec.post enc Try.prog Try.f7 false true false false) := by
  refine returnsInHanded_of_change (C := Try.checked) own started (by kernel_rfl) Try.func7
    (ChangeSpec.witness6 (enc := enc) (C := Try.checked) false ⟨#[], #[.agg #[.int .i64 0, .int .i64 0, .int .i64 0, .int .i64 0, .int .i64 0], .agg #[.int .i64 0, .int .i64 0, .int .i64 0, .int .i64 0, .int .i64 0, .int .i64 0, .int .i64 0], .agg #[.int .i64 0, .int .i64 0, .int .i64 0, .int .i64 0, .int .i64 0, .int .i64 0, .int .i64 0], .agg #[.int .i64 0, .int .i64 0], .int .i64 0, .slice none 0 0], []⟩ 8 (by kernel_rfl) (by kernel_rfl) (by kernel_rfl) (by kernel_rfl)) ?_
  intro W base args ds gs before hval0 hW _ _
  have hval : ∀ (j : Nat) t v, Try.f7.params[j]? = some t → args[j]? = some v → Value.okWide Try.prog W .any base t v := hval0
  have hW' := hW
  obtain ⟨p, q, hA0, hV, rfl, _, _⟩ := hW
  have hA : DataW.TrodAll enc Try.prog W 0 (fun _ => true) true Try.f7.params.toList args.toList ds p := hA0
  rw [Try.params7] at hA hval
  obtain ⟨rfl, rfl⟩ := trodVars_none hV
  obtain ⟨args⟩ := args
  obtain ⟨v1, vs1, d1, ds1, _, e1, rfl, h1⟩ := trod1 hA
  simp only at e1; subst e1
  obtain ⟨v2, vs2, d2, ds2, _, e2, rfl, h2⟩ := trod1 h1
  subst e2
  obtain ⟨v3, vs3, d3, ds3, _, e3, rfl, h3⟩ := trod1 h2
  subst e3
  obtain ⟨v4, vs4, d4, ds4, _, e4, rfl, h4⟩ := trod1 h3
  subst e4
  obtain ⟨v5, vs5, d5, ds5, _, e5, rfl, h5⟩ := trod1 h4
  subst e5
  obtain ⟨v6, vs6, d6, ds6, _, e6, rfl, h6⟩ := trod1 h5
  subst e6
  obtain ⟨e0, rfl⟩ := trod0 h6
  subst e0
  obtain ⟨x1, rfl⟩ := open_play (hval 0 _ v1 rfl rfl)
  obtain ⟨x2, rfl⟩ := open_edge (hval 1 _ v2 rfl rfl)
  obtain ⟨x3, rfl⟩ := open_edge (hval 2 _ v3 rfl rfl)
  obtain ⟨x4, rfl⟩ := open_sp (hval 3 _ v4 rfl rfl)
  obtain ⟨x5, rfl⟩ := open_i64 (hval 4 _ v5 rfl rfl)
  obtain ⟨_, hT6⟩ := trodH h5
  simp only [List.append_nil] at hW'
  have hstay := fun (W' : World) (hg : Fr W W' (fun _ => False)) (sp : Nat → Bool) (hs : ∀ q ∈ p, sp q.block = true) => args_stay (enc := enc) (sp := sp) laid hg _ _ _ _ (by kernel_rfl) hA hs
  have hfin : ∀ e W', e = Ending.returned (.bool true) ∧ Fr W W' (fun _ => False) → ∃ v, e = Ending.returned v ∧ Rows.fitTrueSpec.post enc Try.checked.prog Try.f7 false true false false W #[(Enc.enc x1).den r0, (Enc.enc x2).den r0, (Enc.enc x3).den r0, (Enc.enc x4).den r0, (Enc.enc x5).den r0, v6] v W' := by
    rintro e W' ⟨he, hg⟩
    exact ⟨_, he, post_plain (pa := p) (pv := []) hW' (fun _ _ _ => shut_yes) (fun sp hsp => hstay W' hg sp (fun q hq => hsp q hq)) (fun _ _ => rfl) hg⟩
  clear hA0 hval0
  rcases open_ints Try.underlying53 Try.underlying72 (by kernel_rfl) (hval 5 _ v6 rfl rfl) hT6 with rfl | ⟨⟨blk, off, spot⟩, len, cap, g, rfl, hsp, hlt, hg⟩
  · refine (law_run' (E := mkB Try.prog (tabT Try.prog) [39]) (mkB_ok tabT_ok _) (H := hnd (mkB Try.prog (tabT Try.prog) [39]) 8) Try.func7 (c := bodyOf Try.f7) (by kernel_rfl) (fun G hG => hnd_hndOk (mkB_ok tabT_ok _) 8 G _ hG) (n := 0)
      (args := [Enc.enc x1, Enc.enc x2, Enc.enc x3, Enc.enc x4, .int false .i64 x5, .nils]) (hp := []) (r := r0) (u := .bool true) (by kernel_rfl) (by simp) ?_).mono hfin
    refine ⟨?_⟩
    rw [fitTrue_n]
    exact fun _ => rfl
  · simp only at hsp hlt hg
    subst hsp
    refine (law_run' (E := mkB Try.prog (tabT Try.prog) [39]) (mkB_ok tabT_ok _) (H := hnd (mkB Try.prog (tabT Try.prog) [39]) 8) Try.func7 (c := bodyOf Try.f7) (by kernel_rfl) (fun G hG => hnd_hndOk (mkB_ok tabT_ok _) 8 G _ hG) (n := 1)
      (args := [Enc.enc x1, Enc.enc x2, Enc.enc x3, Enc.enc x4, .int false .i64 x5, .slice false 0 0 len (.of 0)]) (hp := [(0, .arr 1 len fun i => [.int false .u16 (g i)])]) (r := fun _ => ⟨blk, off, 1, cap⟩) (u := .bool true) (by kernel_rfl) ?_ (fitTrue_den x1 x2 x3 x4 x5 len g)).mono hfin
    intro q hq
    simp only [List.mem_singleton] at hq
    subst hq
    refine ⟨rfl, hlt, fun i hi => ⟨rfl, fun j v hv => ?_⟩⟩
    cases j with
    | zero =>
      simp only [List.getElem?_cons_zero, Option.some.injEq] at hv
      subst hv
      refine ⟨rfl, ?_⟩
      show W.cell? ⟨blk, off + i * 1 + 0, none⟩ = _
      rw [Nat.mul_one, Nat.add_zero]
      exact hg i hi
    | succ j => simp at hv

theorem fitTrue_holds : Rows.FitTrueSaid :=
  OpenClaim.holds_of_wide 7 Try.f7 rfl rfl rfl rfl rfl rfl rfl ⟨rfl, rfl, rfl, rfl, rfl⟩ rfl rfl rfl rfl rfl (by kernel_rfl) Try.func7 (by kernel_rfl)
    (of_decide_eq_true (by kernel_rfl)) (by unfold Func.isWrapper; first | (rw [if_pos (by decide +kernel)]; kernel_rfl) | (rw [if_neg (by decide +kernel)]; exact ⟨rfl, rfl⟩))
    (fun os started H enc _ => fitTrue_lifted os started H enc)
#print axioms fitTrue_holds
end Go.Proofs.Ytdaanchagjamfaa
