/- The law FitLists answers true at every input (whatever the play, the side, the list and the turn are), and each argument reads afterwards as before. No condition. -/
import Derived.Test.YtdaanchagjamfaaVd
import Derived.Test.YtdaanchagjamfaaUo
import Derived.Test.YtdaanchagjamfaaUr
namespace Go.Proofs.Ytdaanchagjamfaa
open Go.SX Go.RowKit Go.ChangeShapes Go.WideShapes Go.ChangeAt

set_option maxRecDepth 100000 in
theorem open_u8n {w : World} {r : Reach} {base : Nat} {v : Value} (h : Value.okWide Try.prog w r base 5 v) : ∃ x : U8n, (∀ r, v = (Enc.enc x).den r) ∧ 0 ≤ x.n ∧ x.n ≤ 255 := by
  obtain ⟨n, rfl, h1, h2⟩ := okWide_intR Try.underlying5 h
  exact ⟨⟨n⟩, fun _ => rfl, h1, h2⟩
theorem laid : laidOutB Try.prog = true := by kernel_rfl
set_option maxRecDepth 100000 in
set_option maxHeartbeats 4000000 in
theorem fitLists_lifted (os : Os) (started : os.Started) (H : Type) (enc : TypeId × Value → H) :
    ReturnsInHanded {} Try.checked os 13 .any (Rows.fitListsSpec.pre6 enc Try.prog Try.f13 Rows.fitListsRow.domain false) (Rows.fitListsSpec.post enc Try.prog Try.f13 false true false false) := by
  refine returnsInHanded_of_change (C := Try.checked) own started (by kernel_rfl) Try.func13
    (ChangeSpec.witness6 (enc := enc) (C := Try.checked) false ⟨#[], #[.agg #[.int .i64 0, .int .i64 0, .int .i64 0, .int .i64 0, .int .i64 0], .agg #[.int .i64 0, .int .i64 0, .int .i64 0, .int .i64 0, .int .i64 0, .int .i64 0, .int .i64 0], .slice none 0 0, .int .u8 0], []⟩ 8 (by kernel_rfl) (by kernel_rfl) (by kernel_rfl) (by kernel_rfl)) ?_
  intro W base args ds gs before hval0 hW _ _
  have hval : ∀ (j : Nat) t v, Try.f13.params[j]? = some t → args[j]? = some v → Value.okWide Try.prog W .any base t v := hval0
  have hW' := hW
  obtain ⟨p, q, hA0, hV, rfl, _, _⟩ := hW
  have hA : DataW.TrodAll enc Try.prog W 0 (fun _ => true) true Try.f13.params.toList args.toList ds p := hA0
  rw [Try.params13] at hA hval
  obtain ⟨rfl, rfl⟩ := trodVars_none hV
  obtain ⟨args⟩ := args
  obtain ⟨v1, vs1, d1, ds1, _, e1, rfl, h1⟩ := trod1 hA
  simp only at e1; subst e1
  obtain ⟨v2, vs2, d2, ds2, _, e2, rfl, h2⟩ := trod1 h1
  subst e2
  obtain ⟨v3, vs3, d3, ds3, _, e3, rfl, h3⟩ := trod1 h2
  subst e3
  obtain ⟨v4, vs4, d4, ds4, _, e4, rfl, h4⟩ := trod1 h3
  subst e4
  obtain ⟨e0, rfl⟩ := trod0 h4
  subst e0
  obtain ⟨x1, rfl⟩ := open_play (hval 0 _ v1 rfl rfl)
  obtain ⟨x2, rfl⟩ := open_edge (hval 1 _ v2 rfl rfl)
  obtain ⟨x4, hx4, y1, y2⟩ := open_u8n (hval 3 _ v4 rfl rfl)
  obtain ⟨_, hT3⟩ := trodH h2
  obtain ⟨x3, L, hL⟩ := open_rows (α := Edge) (m := 5) Try.underlying42 (by kernel_rfl) (by kernel_rfl) (hval 2 _ v3 rfl rfl) hT3
  simp only [List.append_nil] at hW'
  have hstay := fun (W' : World) (hg : Fr W W' (fun _ => False)) (sp : Nat → Bool) (hs : ∀ q ∈ p, sp q.block = true) => args_stay (enc := enc) (sp := sp) laid hg _ _ _ _ (by kernel_rfl) hA hs
  clear hA0 hval0
  have hrun := law_W (mkE_ok tab_mat_ok) Try.func13 (c := bodyOf Try.f13) (by kernel_rfl) fl_hs fl_run (x1, x2, x3, x4, ()) (decide_eq_true ⟨y1, y2⟩) (r := fun _ => L) (w := W) (u := .bool true) rfl (fun q hq => (hL 2 _ rfl).2 q hq) (fun _ => rfl)
  have hargs : (AV.denL (fun _ => L) (ArgsE.vals 0 ((x1, x2, x3, x4, ()) : Play × Edge × Rw Edge × U8n × Unit))) = [(Enc.enc x1).den r0, (Enc.enc x2).den r0, v3, v4] := by
    have h3 := (hL 2 (fun _ => L) rfl).1
    rw [hx4 (fun _ => L), ← h3]
    rfl
  rw [hargs] at hrun
  refine hrun.mono ?_
  rintro e W' ⟨he, hg⟩
  exact ⟨_, he, post_plain (pa := p) (pv := []) hW' (fun _ _ _ => shut_yes) (fun sp hsp => hstay W' hg sp (fun q hq => hsp q hq)) (fun _ _ => rfl) hg⟩

theorem fitLists_holds : Rows.FitListsSaid :=
  OpenClaim.holds_of_wide 13 Try.f13 rfl rfl rfl rfl rfl rfl rfl ⟨rfl, rfl, rfl, rfl, rfl⟩ rfl rfl rfl rfl rfl (by kernel_rfl) Try.func13 (by kernel_rfl)
    (of_decide_eq_true (by kernel_rfl)) (by unfold Func.isWrapper; first | (rw [if_pos (by decide +kernel)]; kernel_rfl) | (rw [if_neg (by decide +kernel)]; exact ⟨rfl, rfl⟩))
    (fun os started H enc _ => fitLists_lifted os started H enc)
#print axioms fitLists_holds
end Go.Proofs.Ytdaanchagjamfaa
