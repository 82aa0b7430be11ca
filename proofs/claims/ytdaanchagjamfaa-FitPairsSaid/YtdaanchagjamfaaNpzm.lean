/- How the arguments of a law are opened: structs of whole numbers. -/
import Derived.Test.YtdaanchagjamfaaNpo
import Derived.Test.YtdaanchagjamfaaNpzl
namespace Go.Proofs.Ytdaanchagjamfaa
open Go.SX Go.RowKit Go.ChangeShapes Go.WideShapes Go.ChangeAt

def r0 : Nat → Go.SX.Loc := fun _ => Loc.none 0
set_option maxRecDepth 100000 in
theorem open_sp {w : World} {r : Reach} {base : Nat} {v : Value} (h : Value.okWide Try.prog w r base 23 v) : ∃ x : Sp, v = (Enc.enc x).den r0 := by
  obtain ⟨ns, hl, rfl⟩ := okWide_ints (k := .i64) (ts := [3, 3]) Try.underlying23 (by kernel_rfl) (by kernel_rfl) (by kernel_rfl) h
  match ns, hl with
  | [a, b], _ => exact ⟨⟨a, b⟩, rfl⟩
set_option maxRecDepth 100000 in
theorem open_play {w : World} {r : Reach} {base : Nat} {v : Value} (h : Value.okWide Try.prog w r base 25 v) : ∃ x : Play, v = (Enc.enc x).den r0 := by
  obtain ⟨ns, hl, rfl⟩ := okWide_ints (k := .i64) (ts := [3, 3, 3, 3, 3]) Try.underlying25 (by kernel_rfl) (by kernel_rfl) (by kernel_rfl) h
  match ns, hl with
  | [a, b, c, d, e], _ => exact ⟨⟨a, b, c, ⟨d, e⟩⟩, rfl⟩
set_option maxRecDepth 100000 in
theorem open_edge {w : World} {r : Reach} {base : Nat} {v : Value} (h : Value.okWide Try.prog w r base 27 v) : ∃ x : Edge, v = (Enc.enc x).den r0 := by
  obtain ⟨ns, hl, rfl⟩ := okWide_ints (k := .i64) (ts := [3, 3, 3, 3, 3, 3, 3]) Try.underlying27 (by kernel_rfl) (by kernel_rfl) (by kernel_rfl) h
  match ns, hl with
  | [a, b, c, d, e, f, g], _ => exact ⟨⟨a, ⟨b, c⟩, ⟨d, e⟩, ⟨f, g⟩⟩, rfl⟩
set_option maxRecDepth 100000 in
theorem open_i64 {w : World} {r : Reach} {base : Nat} {v : Value} (h : Value.okWide Try.prog w r base 3 v) : ∃ n : Int, v = (Enc.enc n).den r0 := by
  obtain ⟨n, rfl⟩ := okWide_int Try.underlying3 h
  exact ⟨n, rfl⟩
theorem own : ownKnob Try.prog.godebug = none := by kernel_rfl
theorem shut_yes {H : Type} {enc : TypeId × Value → H} {w : World} {b : Nat} {sp : Nat → Bool} {hd : Bool} : DataW.TrodAll enc Try.prog w b sp hd [4] [Value.bool true] [.lit (.bool true)] [] :=
  trodAll_cons_mk (shut_bool Try.underlying4 _) trodAll_mk0

theorem trod1 {H : Type} {enc : TypeId × Value → H} {P : Program} {w : World} {b : Nat} {sp : Nat → Bool} {hd : Bool} {t : TypeId} {ts : List TypeId} {vs : List Value} {ds : List (DataW H)} {ps : List MemPlace} (h : DataW.TrodAll enc P w b sp hd (t :: ts) vs ds ps) :
    ∃ v vs' d ds' p', vs = v :: vs' ∧ ds = d :: ds' ∧ DataW.TrodAll enc P w b sp hd ts vs' ds' p' := by
  match vs, ds, h with
  | v :: vs, d :: ds, ⟨p, q, _, h2, _⟩ => exact ⟨v, vs, d, ds, q, rfl, rfl, h2⟩
theorem trod0 {H : Type} {enc : TypeId × Value → H} {P : Program} {w : World} {b : Nat} {sp : Nat → Bool} {hd : Bool} {vs : List Value} {ds : List (DataW H)} {ps : List MemPlace} (h : DataW.TrodAll enc P w b sp hd [] vs ds ps) : vs = [] ∧ ds = [] := by
  match vs, ds, h with
  | [], [], _ => exact ⟨rfl, rfl⟩
end Go.Proofs.Ytdaanchagjamfaa
