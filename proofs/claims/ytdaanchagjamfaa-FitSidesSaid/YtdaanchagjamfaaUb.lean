/- The law FitSides answers true at every input (whatever is allowed, whatever the sides, the wear and the strokes are), and each argument reads afterwards as before. No condition. -/
import Derived.Test.YtdaanchagjamfaaTg
import Derived.Test.YtdaanchagjamfaaUa
namespace Go.Proofs.Ytdaanchagjamfaa
open Go.SX Go.RowKit Go.ChangeShapes Go.WideShapes Go.ChangeAt

def r0 : Nat → Go.SX.Loc := fun _ => ⟨0, 0, 0, 0⟩
set_option maxRecDepth 100000 in
theorem open_sp {w : World} {r : Reach} {base : Nat} {v : Value} (h : Value.okWide Try.prog w r base 23 v) : ∃ x : Sp, v = (Enc.enc x).den r0 := by
  obtain ⟨ns, hl, rfl⟩ := okWide_ints (k := .i64) (ts := [3, 3]) Try.underlying23 (by kernel_rfl) (by kernel_rfl) (by kernel_rfl) h
  match ns, hl with
  | [a, b], _ => exact ⟨⟨a, b⟩, rfl⟩
set_option maxRecDepth 100000 in
theorem open_play {w : World} {r : Reach} {base : Nat} {v : Value} (h : Value.okWide Try.prog w r base 25 v) : ∃ x : Play, v = (Enc.enc x).den r0 := by
  obtain ⟨ns, hl, rfl⟩ := okWide_ints (k := .i64) (ts := [3, 3, 3, 3, 3]) Try.underlying25 (by kernel_rfl) (by kernel_rfl) (by kernel_rfl) h
  match ns, hl with
  | [a, b, c, d, e], _ => exact ⟨⟨a, b, c, ⟨d, e⟩⟩, rfl⟩
set_option maxRecDepth 100000 in
theorem open_edge {w : World} {r : Reach} {base : Nat} {v : Value} (h : Value.okWide Try.prog w r base 27 v) : ∃ x : Edge, v = (Enc.enc x).den r0 := by
  obtain ⟨ns, hl, rfl⟩ := okWide_ints (k := .i64) (ts := [3, 3, 3, 3, 3, 3, 3]) Try.underlying27 (by kernel_rfl) (by kernel_rfl) (by kernel_rfl) h
  match ns, hl with
  | [a, b, c, d, e, f, g], _ => exact ⟨⟨a, ⟨b, c⟩, ⟨d, e⟩, ⟨f, g⟩⟩, rfl⟩
set_option maxRecDepth 100000 in
theorem open_i64 {w : World} {r : Reach} {base : Nat} {v : Value} (h : Value.okWide Try.prog w r base 3 v) : ∃ n : Int, v = (Enc.enc n).den r0 := by
  obtain ⟨n, rfl⟩ := okWide_int Try.underlying3 h
  exact ⟨n, rfl⟩
theorem own : ownKnob Try.prog.godebug = none := by kernel_rfl
theorem shut_yes {H : Type} {enc : TypeId × Value → H} {w : World} {b : Nat} {sp : Nat → Bool} {hd : Bool} : DataW.TrodAll enc Try.prog w b sp hd [4] [Value.bool true] [.lit (.bool true)] [] :=
  trodAll_cons_mk (shut_bool Try.underlying4 _) trodAll_mk0

theorem five {H : Type} {enc : TypeId × Value → H} {P : Program} {w : World} {b : Nat} {sp : Nat → Bool} {hd : Bool} {t1 t2 t3 t4 t5 : TypeId} {vs : List Value} {ds : List (DataW H)} {ps : List MemPlace} (h : DataW.TrodAll enc P w b sp hd [t1, t2, t3, t4, t5] vs ds ps) :
    ∃ v1 v2 v3 v4 v5 d1 d2 d3 d4 d5, vs = [v1, v2, v3, v4, v5] ∧ ds = [d1, d2, d3, d4, d5] := by
  obtain ⟨h1, h2⟩ := trodAll_len _ _ _ _ h
  match vs, ds, h1, h2 with
  | [v1, v2, v3, v4, v5], [d1, d2, d3, d4, d5], _, _ => exact ⟨v1, v2, v3, v4, v5, d1, d2, d3, d4, d5, rfl, rfl⟩

set_option maxRecDepth 100000 in
theorem fitSides_lifted (os : Os) (started : os.Started) (H : Type) (enc : TypeId × Value → H) :
    ReturnsInHanded {} Try.checked os 3 .any (Rows.fitSidesSpec.pre6 enc Try.prog Try.f3 Rows.fitSidesRow.domain false) (Rows.fitSidesSpec.post enc Try.prog Try.f3 false true false false) := by
  refine returnsInHanded_of_change (C := Try.checked) own started (by kernel_rfl) Try.func3
    (ChangeSpec.witness6 (enc := enc) (C := Try.checked) false ⟨#[], #[.agg #[.int .i64 0, .int .i64 0, .int .i64 0, .int .i64 0, .int .i64 0], .agg #[.int .i64 0, .int .i64 0, .int .i64 0, .int .i64 0, .int .i64 0, .int .i64 0, .int .i64 0],
      .agg #[.int .i64 0, .int .i64 0, .int .i64 0, .int .i64 0, .int .i64 0, .int .i64 0, .int .i64 0], .agg #[.int .i64 0, .int .i64 0], .int .i64 0], []⟩ 8 (by kernel_rfl) (by kernel_rfl) (by kernel_rfl) (by kernel_rfl)) ?_
  intro W base args ds gs before hval0 hW hcnd _
  have hval : ∀ (j : Nat) t v, Try.f3.params[j]? = some t → args[j]? = some v → Value.okWide Try.prog W .any base t v := hval0
  have hW' := hW
  obtain ⟨p, q, hA0, hV, rfl, hfz, hnd⟩ := hW
  have hA : DataW.TrodAll enc Try.prog W 0 (fun _ => true) true Try.f3.params.toList args.toList ds p := hA0
  rw [Try.params3] at hA hval
  obtain ⟨rfl, rfl⟩ := trodVars_none hV
  obtain ⟨args⟩ := args
  obtain ⟨v1, v2, v3, v4, v5, d1, d2, d3, d4, d5, hv, rfl⟩ := five hA
  simp only at hv; subst hv
  obtain ⟨x1, rfl⟩ := open_play (hval 0 _ v1 rfl rfl)
  obtain ⟨x2, rfl⟩ := open_edge (hval 1 _ v2 rfl rfl)
  obtain ⟨x3, rfl⟩ := open_edge (hval 2 _ v3 rfl rfl)
  obtain ⟨x4, rfl⟩ := open_sp (hval 3 _ v4 rfl rfl)
  obtain ⟨x5, rfl⟩ := open_i64 (hval 4 _ v5 rfl rfl)
  clear hA0 hval0
  simp only [List.append_nil] at hW'
  refine (law_calls fitSides_s (x := (x1, x2, x3, x4, x5, ())) (u := .bool true) rfl rfl (fun _ => rfl) r0 W).mono fun e W' ⟨he, hg⟩ => ?_
  subst he
  exact ⟨_, rfl, post_plain (pa := p) (pv := []) hW' (fun _ _ _ => shut_yes) (fun sp _ => flat_all (n := 5) _ _ _ _ (by kernel_rfl) hA) (fun _ _ => rfl) hg⟩

theorem fitSides_holds : Rows.FitSidesSaid :=
  OpenClaim.holds_of_wide 3 Try.f3 rfl rfl rfl rfl rfl rfl rfl ⟨rfl, rfl, rfl, rfl, rfl⟩ rfl rfl rfl rfl rfl (by kernel_rfl) Try.func3 (by kernel_rfl)
    (of_decide_eq_true (by kernel_rfl)) (by unfold Func.isWrapper; first | (rw [if_pos (by decide +kernel)]; kernel_rfl) | (rw [if_neg (by decide +kernel)]; exact ⟨rfl, rfl⟩))
    (fun os started H enc _ => fitSides_lifted os started H enc)
#print axioms fitSides_holds
end Go.Proofs.Ytdaanchagjamfaa
