/- The law ScanSeats answers true at every input: Check and Seats return the document's cells, sides and seats. No condition. -/
import Derived.Test.YtbpffdkemeoajaaNtza
import Derived.Test.YtbpffdkemeoajaaNtzc
import Derived.Test.YtbpffdkemeoajaaNtze
namespace Go.Proofs.Ytbpffdkemeoajaa
open Go.SX Go.RowKit Go.ChangeShapes Go.WideShapes Go.ChangeAt
theorem laid : laidOutB Try.prog = true := by kernel_rfl
set_option maxRecDepth 100000 in
set_option maxHeartbeats 4000000 in
theorem scanSeats_lifted (os : Os) (started : os.Started) (H : Type) (enc : TypeId × Value → H) :
    ReturnsInHanded {} Try.checked os 3 .any (Rows.scanSeatsSpec.pre6 enc Try.prog Try.f3 Rows.scanSeatsRow.domain false) (Rows.scanSeatsSpec.post enc Try.prog Try.f3 false true false false) := by
  refine returnsInHanded_of_change (C := Try.checked) own started (by kernel_rfl) Try.func3
    (ChangeSpec.witness6 (enc := enc) (C := Try.checked) false ⟨#[], #[.agg #[.int .i64 0, .int .i64 0, .int .i64 0, .int .i64 0, .int .i64 0, .int .i64 0, .int .i64 0, .bool false, .slice none 0 0], .agg #[.int .i64 0, .int .i64 0, .int .i64 0, .int .i64 0, .int .i64 0, .int .i64 0, .int .i64 0, .int .i64 0, .int .i64 0, .int .i64 0, .int .i64 0, .int .i64 0, .int .i64 0, .int .i64 0, .int .i64 0, .int .i64 0, .int .i64 0, .int .i64 0, .int .i64 0, .int .i64 0, .int .i64 0, .int .i64 0, .int .i64 0, .int .i64 0, .int .i64 0, .int .i64 0, .int .i64 0, .int .i64 0]], []⟩ 8 (by kernel_rfl) (by kernel_rfl) (by kernel_rfl) (by kernel_rfl)) ?_
  intro W base args ds gs before hval0 hW _ _
  have hval : ∀ (j : Nat) t v, Try.f3.params[j]? = some t → args[j]? = some v → Value.okWide Try.prog W .any base t v := hval0
  have hW' := hW
  obtain ⟨p, q, hA0, hV, rfl, _, _⟩ := hW
  have hA : DataW.TrodAll enc Try.prog W 0 (fun _ => true) true Try.f3.params.toList args.toList ds p := hA0
  rw [Try.params3] at hA hval
  obtain ⟨rfl, rfl⟩ := trodVars_none hV
  obtain ⟨args⟩ := args
  obtain ⟨v1, vs1, d1, ds1, _, e1, rfl, h1⟩ := trod1 hA
  simp only at e1; subst e1
  obtain ⟨v2, vs2, d2, ds2, _, e2, rfl, h2⟩ := trod1 h1
  subst e2
  obtain ⟨e0, rfl⟩ := trod0 h2
  subst e0
  obtain ⟨x2, rfl⟩ := open_piece (hval 1 _ v2 rfl rfl)
  obtain ⟨_, hT1⟩ := trodH hA
  obtain ⟨x1, L1, hL1⟩ := open_puz (hval 0 _ v1 rfl rfl) hT1
  simp only [List.append_nil] at hW'
  have hstay := fun (W' : World) (hg : Fr W W' (fun _ => False)) (sp : Nat → Bool) (hs : ∀ q ∈ p, sp q.block = true) => args_stay (enc := enc) (sp := sp) laid hg _ _ _ _ (by kernel_rfl) hA hs
  clear hA0 hval0
  let rr : Nat → Go.SX.Loc := fun i => match i with
    | _ => L1
  have g1 := hL1 0 rr rfl
  have hblk : ∀ q ∈ ArgsE.blks 0 ((x1, x2, ()) : Puz × Piece × Unit), BRep rr q.1 W q.2 := by
    intro q hq
    have hq : q ∈ ArgE.blk 0 x1 := by
      have e : ArgsE.blks 0 ((x1, x2, ()) : Puz × Piece × Unit) = ArgE.blk 0 x1 := by first | rfl | simp [ArgsE.blks, ArgE.blk]
      rw [e] at hq
      simpa only [List.mem_append, or_assoc] using hq
    exact g1.2 q hq
  have hrun := law_W (mkS_ok tab_scan_ok) Try.func3 (c := bodyOf Try.f3) (by kernel_rfl) scl_hs scl_run (x1, x2, ()) (rfl) (r := rr) (w := W) (u := .bool true) rfl hblk (fun _ => rfl)
  have hargs : (AV.denL rr (ArgsE.vals 0 ((x1, x2, ()) : Puz × Piece × Unit))) = [v1, (Enc.enc x2).den r0] := by
    rw [← g1.1]
    rfl
  rw [hargs] at hrun
  refine hrun.mono ?_
  rintro e W' ⟨he, hg⟩
  exact ⟨_, he, post_plain (pa := p) (pv := []) hW' (fun _ _ _ => shut_yes) (fun sp hsp => hstay W' hg sp (fun q hq => hsp q hq)) (fun _ _ => rfl) hg⟩

theorem scanSeats_holds : Rows.ScanSeatsSaid :=
  OpenClaim.holds_of_wide 3 Try.f3 rfl rfl rfl rfl rfl rfl rfl ⟨rfl, rfl, rfl, rfl, rfl⟩ rfl rfl rfl rfl rfl (by kernel_rfl) Try.func3 (by kernel_rfl)
    (of_decide_eq_true (by kernel_rfl)) (by unfold Func.isWrapper; first | (rw [if_pos (by decide +kernel)]; kernel_rfl) | (rw [if_neg (by decide +kernel)]; exact ⟨rfl, rfl⟩))
    (fun os started H enc _ => scanSeats_lifted os started H enc)
#print axioms scanSeats_holds
end Go.Proofs.Ytbpffdkemeoajaa
