/- The law FitPairs answers true at every input: Matches and Pairs return the document's lists. No condition. -/
import Derived.Test.YtdaanchagjamfaaNpzk
import Derived.Test.YtdaanchagjamfaaNpzm
import Derived.Test.YtdaanchagjamfaaNpzj
namespace Go.Proofs.Ytdaanchagjamfaa
open Go.SX Go.RowKit Go.ChangeShapes Go.WideShapes Go.ChangeAt
theorem laid : laidOutB Try.prog = true := by kernel_rfl
theorem pairs_in {E : Env} (hE : E.Sound) (hP : E.P = Try.prog) (p : Play) (s : Edge) (l tabs holes : Rw Edge) {fn : Func} {c' : Code} (hf : E.P.funcs[27]? = some fn) (hb : fn.body = some c') (G : Ctx) (hrd : G.rd = none) (hG : G.n = 664) : HndOk E G (kHnd E p s l tabs holes) c' := by
  rw [hP, Try.func27] at hf
  simp only [Option.some.injEq] at hf; subst hf
  have e : c' = bodyOf Try.f27 := by unfold bodyOf; rw [hb]; rfl
  subst e
  exact kHnd_ok hE hP p s l tabs holes G hrd hG
set_option maxRecDepth 100000 in
set_option maxHeartbeats 4000000 in
theorem fitPairs_lifted (os : Os) (started : os.Started) (H : Type) (enc : TypeId × Value → H) :
    ReturnsInHanded {} Try.checked os 5 .any (Rows.fitPairsSpec.pre6 enc Try.prog Try.f5 Rows.fitPairsRow.domain false) (Rows.fitPairsSpec.post enc Try.prog Try.f5 false true false false) := by
  refine returnsInHanded_of_change (C := Try.checked) own started (by kernel_rfl) Try.func5
    (ChangeSpec.witness6 (enc := enc) (C := Try.checked) false ⟨#[], #[.agg #[.int .i64 0, .int .i64 0, .int .i64 0, .int .i64 0, .int .i64 0], .agg #[.int .i64 0, .int .i64 0, .int .i64 0, .int .i64 0, .int .i64 0, .int .i64 0, .int .i64 0], .slice none 0 0, .slice none 0 0, .slice none 0 0], []⟩ 8 (by kernel_rfl) (by kernel_rfl) (by kernel_rfl) (by kernel_rfl)) ?_
  intro W base args ds gs before hval0 hW _ _
  have hval : ∀ (j : Nat) t v, Try.f5.params[j]? = some t → args[j]? = some v → Value.okWide Try.prog W .any base t v := hval0
  have hW' := hW
  obtain ⟨p, q, hA0, hV, rfl, _, _⟩ := hW
  have hA : DataW.TrodAll enc Try.prog W 0 (fun _ => true) true Try.f5.params.toList args.toList ds p := hA0
  rw [Try.params5] at hA hval
  obtain ⟨rfl, rfl⟩ := trodVars_none hV
  obtain ⟨args⟩ := args
  obtain ⟨v1, vs1, d1, ds1, _, e1, rfl, h1⟩ := trod1 hA
  simp only at e1; subst e1
  obtain ⟨v2, vs2, d2, ds2, _, e2, rfl, h2⟩ := trod1 h1
  subst e2
  obtain ⟨v3, vs3, d3, ds3, _, e3, rfl, h3⟩ := trod1 h2
  subst e3
  obtain ⟨v4, vs4, d4, ds4, _, e4, rfl, h4⟩ := trod1 h3
  subst e4
  obtain ⟨v5, vs5, d5, ds5, _, e5, rfl, h5⟩ := trod1 h4
  subst e5
  obtain ⟨e0, rfl⟩ := trod0 h5
  subst e0
  obtain ⟨x1, rfl⟩ := open_play (hval 0 _ v1 rfl rfl)
  obtain ⟨x2, rfl⟩ := open_edge (hval 1 _ v2 rfl rfl)
  obtain ⟨_, hT3⟩ := trodH h2
  obtain ⟨x3, L3, hL3⟩ := open_rows (α := Edge) (m := 5) Try.underlying42 (by kernel_rfl) (by kernel_rfl) (hval 2 _ v3 rfl rfl) hT3
  obtain ⟨_, hT4⟩ := trodH h3
  obtain ⟨x4, L4, hL4⟩ := open_rows (α := Edge) (m := 5) Try.underlying42 (by kernel_rfl) (by kernel_rfl) (hval 3 _ v4 rfl rfl) hT4
  obtain ⟨_, hT5⟩ := trodH h4
  obtain ⟨x5, L5, hL5⟩ := open_rows (α := Edge) (m := 5) Try.underlying42 (by kernel_rfl) (by kernel_rfl) (hval 4 _ v5 rfl rfl) hT5
  simp only [List.append_nil] at hW'
  have hstay := fun (W' : World) (hg : Fr W W' (fun _ => False)) (sp : Nat → Bool) (hs : ∀ q ∈ p, sp q.block = true) => args_stay (enc := enc) (sp := sp) laid hg _ _ _ _ (by kernel_rfl) hA hs
  clear hA0 hval0
  let rr : Nat → Go.SX.Loc := fun i => match i with
    | 2 => L3
    | 3 => L4
    | _ => L5
  have g3 := hL3 2 rr rfl
  have g4 := hL4 3 rr rfl
  have g5 := hL5 4 rr rfl
  have hblk : ∀ q ∈ ArgsE.blks 0 ((x1, x2, x3, x4, x5, ()) : Play × Edge × Rw Edge × Rw Edge × Rw Edge × Unit), BRep rr q.1 W q.2 := by
    intro q hq
    have hq : q ∈ ArgE.blk 2 x3 ∨ q ∈ ArgE.blk 3 x4 ∨ q ∈ ArgE.blk 4 x5 := by
      have e : ArgsE.blks 0 ((x1, x2, x3, x4, x5, ()) : Play × Edge × Rw Edge × Rw Edge × Rw Edge × Unit) = ArgE.blk 2 x3 ++ ArgE.blk 3 x4 ++ ArgE.blk 4 x5 := by first | rfl | simp [ArgsE.blks, ArgE.blk]
      rw [e] at hq
      simpa only [List.mem_append, or_assoc] using hq
    rcases hq with hq | hq | hq
    · exact g3.2 q hq
    · exact g4.2 q hq
    · exact g5.2 q hq
  obtain ⟨pb, L, hT, hG⟩ := lw_tab x1 x4 x5
  have hE := mkS_ok hT
  have hrun := law_Wx (E := mkS Try.prog (tab_lw pb (prU x1 x4 x5 nilW [] L))) hE Try.func5 (c := bodyOf Try.f5) (by kernel_rfl) (F := lawF) (x1, x2, x3, x4, x5, ()) (fun G h1 h2 => withCall_ok hE (hnd_hndOk hE 4 G _ h1) (fun fn c' hf hb G' h3 h4 => pairs_in hE rfl x1 x2 x3 x4 x5 hf hb G' h3 h4)) ⟨rfl, by simp [lawF], rfl⟩ (lw_den pb x1 x2 x3 x4 x5 L hG) rfl (r := rr) (w := W) (u := .bool true) rfl hblk (fun _ => rfl)
  have hargs : (AV.denL rr (ArgsE.vals 0 ((x1, x2, x3, x4, x5, ()) : Play × Edge × Rw Edge × Rw Edge × Rw Edge × Unit))) = [(Enc.enc x1).den r0, (Enc.enc x2).den r0, v3, v4, v5] := by
    rw [← g3.1, ← g4.1, ← g5.1]
    rfl
  rw [hargs] at hrun
  refine hrun.mono ?_
  rintro e W' ⟨he, hg⟩
  exact ⟨_, he, post_plain (pa := p) (pv := []) hW' (fun _ _ _ => shut_yes) (fun sp hsp => hstay W' hg sp (fun q hq => hsp q hq)) (fun _ _ => rfl) hg⟩

theorem fitPairs_holds : Rows.FitPairsSaid :=
  OpenClaim.holds_of_wide 5 Try.f5 rfl rfl rfl rfl rfl rfl rfl ⟨rfl, rfl, rfl, rfl, rfl⟩ rfl rfl rfl rfl rfl (by kernel_rfl) Try.func5 (by kernel_rfl)
    (of_decide_eq_true (by kernel_rfl)) (by unfold Func.isWrapper; first | (rw [if_pos (by decide +kernel)]; kernel_rfl) | (rw [if_neg (by decide +kernel)]; exact ⟨rfl, rfl⟩))
    (fun os started H enc _ => fitPairs_lifted os started H enc)
#print axioms fitPairs_holds
end Go.Proofs.Ytdaanchagjamfaa
