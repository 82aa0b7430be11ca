/-
  No cell of these rows narrows 'for every input' (looked for: loops, veiled, ifaces, maps, wideKeys, modest, calm, conditions, laid).
  DERIVED. THE GIVEN ROWS OF THIS SEAT. 12 by the template 'for every input the law returns true; each argument reads behind the call as it read before'; 0 by the template 'total and deterministic' (their statements: YtekbmehgcofnkaaGreatTotals.lean).
  GIVEN WITH THE SEED: the statements are not yours to turn. If you find one false, say at which input.
  Laid BY PROGRAM, IN A SANDBOX (cutbox-rows.mjs): the forced cells as the released guide's own fill.sh prints them over the translation 0a6e78ecb5b57bdd… (all of the seat's roots in one cut). By AI agents, Wed Nov 11 2026. No macro, syntax, notation, axiom, sorry.
-/
import Derived.Test.YtekbmehgcofnkaaGreatChecked
import GoSem.Claim
import GoSem.ClaimJoined
import GoSem.ClaimMapViews
import Derived.JoinedTies
import Derived.KernelRfl
namespace Go.Proofs.YtekbmehgcofnkaaGreat
/- THE CELL 'sum', in the pinned program and in every row, IS THE sha256 OF THE DUMP (.gsa) THAT YtekbmehgcofnkaaGreatProg.lean LOADS. Nothing in Lean hashes anything: it is a label: what it is worth is what the hold of that sum in a sandbox is worth. -/
noncomputable def Tryz.pinned : Pinned := { name := "ytekbmehgcofnkaagreat", sum := "0a6e78ecb5b57bdda3fdaccdc7861666954906cbfe11870e4fa32d016348958b", checked := Tryz.checked }
namespace Rows
def none {H : Type} : Left H := { results := [], args := [] }

/-- 'jigworkslaw03.SolvePlaces': WHATEVER THE INPUT: true; the input reads as it did. -/
def solvePlacesSpec : ChangeSpec := { name := "solvePlaces", fn := fun _ => fun
  | [d1, d2, d3] => { results := [.lit (.bool true)], args := [d1, d2, d3] }
  | _ => none }
def solvePlacesRow : OpenClaim := { program := "ytekbmehgcofnkaagreat", sum := "0a6e78ecb5b57bdda3fdaccdc7861666954906cbfe11870e4fa32d016348958b", func := "jigworks/jigworkslaw03.SolvePlaces", spec := "solvePlaces", unfollowed := true, recurses := true, plainKeys := false, apart := false }
def SolvePlacesSaid : Prop := solvePlacesRow.holds Tryz.pinned (OpenSpec.ofChange solvePlacesSpec)

/-- ITS FALSE NEIGHBOUR: 'it returns false'. Refute it at one input. -/
def solvePlacesWrong : ChangeSpec := { name := "solvePlaces", fn := fun _ => fun
  | [d1, d2, d3] => { results := [.lit (.bool false)], args := [d1, d2, d3] }
  | _ => none }
def SolvePlacesWrongFalsely : Prop := solvePlacesRow.holds Tryz.pinned (OpenSpec.ofChange solvePlacesWrong)

/-- 'jigworkslaw03.SolveRight': WHATEVER THE INPUT: true; the input reads as it did. -/
def solveRightSpec : ChangeSpec := { name := "solveRight", fn := fun _ => fun
  | [d1, d2] => { results := [.lit (.bool true)], args := [d1, d2] }
  | _ => none }
def solveRightRow : OpenClaim := { program := "ytekbmehgcofnkaagreat", sum := "0a6e78ecb5b57bdda3fdaccdc7861666954906cbfe11870e4fa32d016348958b", func := "jigworks/jigworkslaw03.SolveRight", spec := "solveRight", unfollowed := true, recurses := true, plainKeys := false, apart := false }
def SolveRightSaid : Prop := solveRightRow.holds Tryz.pinned (OpenSpec.ofChange solveRightSpec)

/-- ITS FALSE NEIGHBOUR: 'it returns false'. Refute it at one input. -/
def solveRightWrong : ChangeSpec := { name := "solveRight", fn := fun _ => fun
  | [d1, d2] => { results := [.lit (.bool false)], args := [d1, d2] }
  | _ => none }
def SolveRightWrongFalsely : Prop := solveRightRow.holds Tryz.pinned (OpenSpec.ofChange solveRightWrong)

/-- 'jigworkslaw03.SolveTrue': WHATEVER THE INPUT: true; the input reads as it did. -/
def solveTrueSpec : ChangeSpec := { name := "solveTrue", fn := fun _ => fun
  | [d1, d2] => { results := [.lit (.bool true)], args := [d1, d2] }
  | _ => none }
def solveTrueRow : OpenClaim := { program := "ytekbmehgcofnkaagreat", sum := "0a6e78ecb5b57bdda3fdaccdc7861666954906cbfe11870e4fa32d016348958b", func := "jigworks/jigworkslaw03.SolveTrue", spec := "solveTrue", unfollowed := true, recurses := true, plainKeys := false, apart := false }
def SolveTrueSaid : Prop := solveTrueRow.holds Tryz.pinned (OpenSpec.ofChange solveTrueSpec)

/-- ITS FALSE NEIGHBOUR: 'it returns false'. Refute it at one input. -/
def solveTrueWrong : ChangeSpec := { name := "solveTrue", fn := fun _ => fun
  | [d1, d2] => { results := [.lit (.bool false)], args := [d1, d2] }
  | _ => none }
def SolveTrueWrongFalsely : Prop := solveTrueRow.holds Tryz.pinned (OpenSpec.ofChange solveTrueWrong)

/-- 'jigworkslaw03.SolveWhere': WHATEVER THE INPUT: true; the input reads as it did. -/
def solveWhereSpec : ChangeSpec := { name := "solveWhere", fn := fun _ => fun
  | [d] => { results := [.lit (.bool true)], args := [d] }
  | _ => none }
def solveWhereRow : OpenClaim := { program := "ytekbmehgcofnkaagreat", sum := "0a6e78ecb5b57bdda3fdaccdc7861666954906cbfe11870e4fa32d016348958b", func := "jigworks/jigworkslaw03.SolveWhere", spec := "solveWhere", unfollowed := true, recurses := true, plainKeys := false, apart := false }
def SolveWhereSaid : Prop := solveWhereRow.holds Tryz.pinned (OpenSpec.ofChange solveWhereSpec)

/-- ITS FALSE NEIGHBOUR: 'it returns false'. Refute it at one input. -/
def solveWhereWrong : ChangeSpec := { name := "solveWhere", fn := fun _ => fun
  | [d] => { results := [.lit (.bool false)], args := [d] }
  | _ => none }
def SolveWhereWrongFalsely : Prop := solveWhereRow.holds Tryz.pinned (OpenSpec.ofChange solveWhereWrong)

/-- 'jigworkstop.TopWorn': WHATEVER THE INPUT: true; the input reads as it did. -/
def topWornSpec : ChangeSpec := { name := "topWorn", fn := fun _ => fun
  | [d1, d2, d3, d4] => { results := [.lit (.bool true)], args := [d1, d2, d3, d4] }
  | _ => none }
def topWornRow : OpenClaim := { program := "ytekbmehgcofnkaagreat", sum := "0a6e78ecb5b57bdda3fdaccdc7861666954906cbfe11870e4fa32d016348958b", func := "jigworks/jigworkstop.TopWorn", spec := "topWorn", unfollowed := true, recurses := true, plainKeys := false, apart := false }
def TopWornSaid : Prop := topWornRow.holds Tryz.pinned (OpenSpec.ofChange topWornSpec)

/-- ITS FALSE NEIGHBOUR: 'it returns false'. Refute it at one input. -/
def topWornWrong : ChangeSpec := { name := "topWorn", fn := fun _ => fun
  | [d1, d2, d3, d4] => { results := [.lit (.bool false)], args := [d1, d2, d3, d4] }
  | _ => none }
def TopWornWrongFalsely : Prop := topWornRow.holds Tryz.pinned (OpenSpec.ofChange topWornWrong)

/-- 'jigworkslaw03.SolveStuck': WHATEVER THE INPUT: true; the input reads as it did. -/
def solveStuckSpec : ChangeSpec := { name := "solveStuck", fn := fun _ => fun
  | [d1, d2, d3] => { results := [.lit (.bool true)], args := [d1, d2, d3] }
  | _ => none }
def solveStuckRow : OpenClaim := { program := "ytekbmehgcofnkaagreat", sum := "0a6e78ecb5b57bdda3fdaccdc7861666954906cbfe11870e4fa32d016348958b", func := "jigworks/jigworkslaw03.SolveStuck", spec := "solveStuck", unfollowed := true, recurses := true, plainKeys := false, apart := false }
def SolveStuckSaid : Prop := solveStuckRow.holds Tryz.pinned (OpenSpec.ofChange solveStuckSpec)

/-- ITS FALSE NEIGHBOUR: 'it returns false'. Refute it at one input. -/
def solveStuckWrong : ChangeSpec := { name := "solveStuck", fn := fun _ => fun
  | [d1, d2, d3] => { results := [.lit (.bool false)], args := [d1, d2, d3] }
  | _ => none }
def SolveStuckWrongFalsely : Prop := solveStuckRow.holds Tryz.pinned (OpenSpec.ofChange solveStuckWrong)

/-- 'jigworkslaw03.SolveJoins': WHATEVER THE INPUT: true; the input reads as it did. -/
def solveJoinsSpec : ChangeSpec := { name := "solveJoins", fn := fun _ => fun
  | [d] => { results := [.lit (.bool true)], args := [d] }
  | _ => none }
def solveJoinsRow : OpenClaim := { program := "ytekbmehgcofnkaagreat", sum := "0a6e78ecb5b57bdda3fdaccdc7861666954906cbfe11870e4fa32d016348958b", func := "jigworks/jigworkslaw03.SolveJoins", spec := "solveJoins", unfollowed := true, recurses := true, plainKeys := false, apart := false }
def SolveJoinsSaid : Prop := solveJoinsRow.holds Tryz.pinned (OpenSpec.ofChange solveJoinsSpec)

/-- ITS FALSE NEIGHBOUR: 'it returns false'. Refute it at one input. -/
def solveJoinsWrong : ChangeSpec := { name := "solveJoins", fn := fun _ => fun
  | [d] => { results := [.lit (.bool false)], args := [d] }
  | _ => none }
def SolveJoinsWrongFalsely : Prop := solveJoinsRow.holds Tryz.pinned (OpenSpec.ofChange solveJoinsWrong)

/-- 'jigworkslaw03.SolveNames': WHATEVER THE INPUT: true; the input reads as it did. -/
def solveNamesSpec : ChangeSpec := { name := "solveNames", fn := fun _ => fun
  | [] => { results := [.lit (.bool true)], args := [] }
  | _ => none }
def solveNamesRow : OpenClaim := { program := "ytekbmehgcofnkaagreat", sum := "0a6e78ecb5b57bdda3fdaccdc7861666954906cbfe11870e4fa32d016348958b", func := "jigworks/jigworkslaw03.SolveNames", spec := "solveNames", unfollowed := true, recurses := true, plainKeys := false, apart := false }
def SolveNamesSaid : Prop := solveNamesRow.holds Tryz.pinned (OpenSpec.ofChange solveNamesSpec)

/-- ITS FALSE NEIGHBOUR: 'it returns false'. Refute it at one input. -/
def solveNamesWrong : ChangeSpec := { name := "solveNames", fn := fun _ => fun
  | [] => { results := [.lit (.bool false)], args := [] }
  | _ => none }
def SolveNamesWrongFalsely : Prop := solveNamesRow.holds Tryz.pinned (OpenSpec.ofChange solveNamesWrong)

/-- 'jigworkslaw03.SolveFits': WHATEVER THE INPUT: true; the input reads as it did. -/
def solveFitsSpec : ChangeSpec := { name := "solveFits", fn := fun _ => fun
  | [d] => { results := [.lit (.bool true)], args := [d] }
  | _ => none }
def solveFitsRow : OpenClaim := { program := "ytekbmehgcofnkaagreat", sum := "0a6e78ecb5b57bdda3fdaccdc7861666954906cbfe11870e4fa32d016348958b", func := "jigworks/jigworkslaw03.SolveFits", spec := "solveFits", unfollowed := true, recurses := true, plainKeys := false, apart := false }
def SolveFitsSaid : Prop := solveFitsRow.holds Tryz.pinned (OpenSpec.ofChange solveFitsSpec)

/-- ITS FALSE NEIGHBOUR: 'it returns false'. Refute it at one input. -/
def solveFitsWrong : ChangeSpec := { name := "solveFits", fn := fun _ => fun
  | [d] => { results := [.lit (.bool false)], args := [d] }
  | _ => none }
def SolveFitsWrongFalsely : Prop := solveFitsRow.holds Tryz.pinned (OpenSpec.ofChange solveFitsWrong)

/-- 'jigworkslaw03.SolveFalse': WHATEVER THE INPUT: true; the input reads as it did. -/
def solveFalseSpec : ChangeSpec := { name := "solveFalse", fn := fun _ => fun
  | [d] => { results := [.lit (.bool true)], args := [d] }
  | _ => none }
def solveFalseRow : OpenClaim := { program := "ytekbmehgcofnkaagreat", sum := "0a6e78ecb5b57bdda3fdaccdc7861666954906cbfe11870e4fa32d016348958b", func := "jigworks/jigworkslaw03.SolveFalse", spec := "solveFalse", unfollowed := true, recurses := true, plainKeys := false, apart := false }
def SolveFalseSaid : Prop := solveFalseRow.holds Tryz.pinned (OpenSpec.ofChange solveFalseSpec)

/-- ITS FALSE NEIGHBOUR: 'it returns false'. Refute it at one input. -/
def solveFalseWrong : ChangeSpec := { name := "solveFalse", fn := fun _ => fun
  | [d] => { results := [.lit (.bool false)], args := [d] }
  | _ => none }
def SolveFalseWrongFalsely : Prop := solveFalseRow.holds Tryz.pinned (OpenSpec.ofChange solveFalseWrong)

/-- 'jigworkslaw03.SolveMore': WHATEVER THE INPUT: true; the input reads as it did. -/
def solveMoreSpec : ChangeSpec := { name := "solveMore", fn := fun _ => fun
  | [d1, d2, d3, d4] => { results := [.lit (.bool true)], args := [d1, d2, d3, d4] }
  | _ => none }
def solveMoreRow : OpenClaim := { program := "ytekbmehgcofnkaagreat", sum := "0a6e78ecb5b57bdda3fdaccdc7861666954906cbfe11870e4fa32d016348958b", func := "jigworks/jigworkslaw03.SolveMore", spec := "solveMore", unfollowed := true, recurses := true, plainKeys := false, apart := false }
def SolveMoreSaid : Prop := solveMoreRow.holds Tryz.pinned (OpenSpec.ofChange solveMoreSpec)

/-- ITS FALSE NEIGHBOUR: 'it returns false'. Refute it at one input. -/
def solveMoreWrong : ChangeSpec := { name := "solveMore", fn := fun _ => fun
  | [d1, d2, d3, d4] => { results := [.lit (.bool false)], args := [d1, d2, d3, d4] }
  | _ => none }
def SolveMoreWrongFalsely : Prop := solveMoreRow.holds Tryz.pinned (OpenSpec.ofChange solveMoreWrong)

/-- 'jigworkslaw03.SolveOwns': WHATEVER THE INPUT: true; the input reads as it did. -/
def solveOwnsSpec : ChangeSpec := { name := "solveOwns", fn := fun _ => fun
  | [d1, d2] => { results := [.lit (.bool true)], args := [d1, d2] }
  | _ => none }
def solveOwnsRow : OpenClaim := { program := "ytekbmehgcofnkaagreat", sum := "0a6e78ecb5b57bdda3fdaccdc7861666954906cbfe11870e4fa32d016348958b", func := "jigworks/jigworkslaw03.SolveOwns", spec := "solveOwns", unfollowed := true, recurses := true, plainKeys := false, apart := false }
def SolveOwnsSaid : Prop := solveOwnsRow.holds Tryz.pinned (OpenSpec.ofChange solveOwnsSpec)

/-- ITS FALSE NEIGHBOUR: 'it returns false'. Refute it at one input. -/
def solveOwnsWrong : ChangeSpec := { name := "solveOwns", fn := fun _ => fun
  | [d1, d2] => { results := [.lit (.bool false)], args := [d1, d2] }
  | _ => none }
def SolveOwnsWrongFalsely : Prop := solveOwnsRow.holds Tryz.pinned (OpenSpec.ofChange solveOwnsWrong)

/- THE SECOND FORM. 'bulk': how many values and letters a reading holds, each counted each time it is reached (what is shared counts as often as it is met; a slice's spare places count too). A statement '..UptoSaid' is the law's where the arguments, and the package variables that the reading takes, are together of bulk at most 1048576: NARROWER than '..Said'. Prove '..Said' where nothing that the law and all that it calls make is longer than what came in: it says more and counts as full. Else prove '..UptoSaid'. A law counts once. -/
mutual
def uptoBulk {H : Type} : DataW H → Nat
  | .lit (.string bytes) => bytes.length + 1
  | .lit _ => 1
  | .nil => 1
  | .ptr d => uptoBulk d + 1
  | .slice elems spare => uptoBulkAll elems + uptoBulkAll spare + 1
  | .agg parts => uptoBulkAll parts + 1
  | .iface _ d => uptoBulk d + 1
  | .map entries => uptoBulkEntries entries + 1
  | .held _ => 1
def uptoBulkAll {H : Type} : List (DataW H) → Nat
  | [] => 0
  | d :: r => uptoBulk d + uptoBulkAll r
def uptoBulkEntries {H : Type} : List (Lit × DataW H) → Nat
  | [] => 0
  | x :: r => uptoBulkEntry x + uptoBulkEntries r
def uptoBulkEntry {H : Type} : Lit × DataW H → Nat
  | (.string bytes, d) => bytes.length + uptoBulk d + 1
  | (_, d) => uptoBulk d + 1
 end
def uptoSmall : (H : Type) → List (DataW H) → Bool := fun _ ds => decide (uptoBulkAll ds ≤ 1048576)
def OpenSpec.upto (s : _root_.Go.ChangeSpec) : _root_.Go.OpenSpec := { _root_.Go.OpenSpec.ofChange s with cond := some uptoSmall }

/-- 'jigworkslaw03.SolvePlaces', WHERE WHAT IT READS IS OF BULK AT MOST 1048576: true; the input reads as it did. -/
def solvePlacesUptoRow : OpenClaim := { program := "ytekbmehgcofnkaagreat", sum := "0a6e78ecb5b57bdda3fdaccdc7861666954906cbfe11870e4fa32d016348958b", func := "jigworks/jigworkslaw03.SolvePlaces", spec := "solvePlaces", unfollowed := true, recurses := true, plainKeys := false, apart := false, narrowed := true }
def SolvePlacesUptoSaid : Prop := solvePlacesUptoRow.holds Tryz.pinned (OpenSpec.upto solvePlacesSpec)

/-- 'jigworkslaw03.SolveRight', WHERE WHAT IT READS IS OF BULK AT MOST 1048576: true; the input reads as it did. -/
def solveRightUptoRow : OpenClaim := { program := "ytekbmehgcofnkaagreat", sum := "0a6e78ecb5b57bdda3fdaccdc7861666954906cbfe11870e4fa32d016348958b", func := "jigworks/jigworkslaw03.SolveRight", spec := "solveRight", unfollowed := true, recurses := true, plainKeys := false, apart := false, narrowed := true }
def SolveRightUptoSaid : Prop := solveRightUptoRow.holds Tryz.pinned (OpenSpec.upto solveRightSpec)

/-- 'jigworkslaw03.SolveTrue', WHERE WHAT IT READS IS OF BULK AT MOST 1048576: true; the input reads as it did. -/
def solveTrueUptoRow : OpenClaim := { program := "ytekbmehgcofnkaagreat", sum := "0a6e78ecb5b57bdda3fdaccdc7861666954906cbfe11870e4fa32d016348958b", func := "jigworks/jigworkslaw03.SolveTrue", spec := "solveTrue", unfollowed := true, recurses := true, plainKeys := false, apart := false, narrowed := true }
def SolveTrueUptoSaid : Prop := solveTrueUptoRow.holds Tryz.pinned (OpenSpec.upto solveTrueSpec)

/-- 'jigworkslaw03.SolveWhere', WHERE WHAT IT READS IS OF BULK AT MOST 1048576: true; the input reads as it did. -/
def solveWhereUptoRow : OpenClaim := { program := "ytekbmehgcofnkaagreat", sum := "0a6e78ecb5b57bdda3fdaccdc7861666954906cbfe11870e4fa32d016348958b", func := "jigworks/jigworkslaw03.SolveWhere", spec := "solveWhere", unfollowed := true, recurses := true, plainKeys := false, apart := false, narrowed := true }
def SolveWhereUptoSaid : Prop := solveWhereUptoRow.holds Tryz.pinned (OpenSpec.upto solveWhereSpec)

/-- 'jigworkstop.TopWorn', WHERE WHAT IT READS IS OF BULK AT MOST 1048576: true; the input reads as it did. -/
def topWornUptoRow : OpenClaim := { program := "ytekbmehgcofnkaagreat", sum := "0a6e78ecb5b57bdda3fdaccdc7861666954906cbfe11870e4fa32d016348958b", func := "jigworks/jigworkstop.TopWorn", spec := "topWorn", unfollowed := true, recurses := true, plainKeys := false, apart := false, narrowed := true }
def TopWornUptoSaid : Prop := topWornUptoRow.holds Tryz.pinned (OpenSpec.upto topWornSpec)

/-- 'jigworkslaw03.SolveStuck', WHERE WHAT IT READS IS OF BULK AT MOST 1048576: true; the input reads as it did. -/
def solveStuckUptoRow : OpenClaim := { program := "ytekbmehgcofnkaagreat", sum := "0a6e78ecb5b57bdda3fdaccdc7861666954906cbfe11870e4fa32d016348958b", func := "jigworks/jigworkslaw03.SolveStuck", spec := "solveStuck", unfollowed := true, recurses := true, plainKeys := false, apart := false, narrowed := true }
def SolveStuckUptoSaid : Prop := solveStuckUptoRow.holds Tryz.pinned (OpenSpec.upto solveStuckSpec)

/-- 'jigworkslaw03.SolveJoins', WHERE WHAT IT READS IS OF BULK AT MOST 1048576: true; the input reads as it did. -/
def solveJoinsUptoRow : OpenClaim := { program := "ytekbmehgcofnkaagreat", sum := "0a6e78ecb5b57bdda3fdaccdc7861666954906cbfe11870e4fa32d016348958b", func := "jigworks/jigworkslaw03.SolveJoins", spec := "solveJoins", unfollowed := true, recurses := true, plainKeys := false, apart := false, narrowed := true }
def SolveJoinsUptoSaid : Prop := solveJoinsUptoRow.holds Tryz.pinned (OpenSpec.upto solveJoinsSpec)

/-- 'jigworkslaw03.SolveNames', WHERE WHAT IT READS IS OF BULK AT MOST 1048576: true; the input reads as it did. -/
def solveNamesUptoRow : OpenClaim := { program := "ytekbmehgcofnkaagreat", sum := "0a6e78ecb5b57bdda3fdaccdc7861666954906cbfe11870e4fa32d016348958b", func := "jigworks/jigworkslaw03.SolveNames", spec := "solveNames", unfollowed := true, recurses := true, plainKeys := false, apart := false, narrowed := true }
def SolveNamesUptoSaid : Prop := solveNamesUptoRow.holds Tryz.pinned (OpenSpec.upto solveNamesSpec)

/-- 'jigworkslaw03.SolveFits', WHERE WHAT IT READS IS OF BULK AT MOST 1048576: true; the input reads as it did. -/
def solveFitsUptoRow : OpenClaim := { program := "ytekbmehgcofnkaagreat", sum := "0a6e78ecb5b57bdda3fdaccdc7861666954906cbfe11870e4fa32d016348958b", func := "jigworks/jigworkslaw03.SolveFits", spec := "solveFits", unfollowed := true, recurses := true, plainKeys := false, apart := false, narrowed := true }
def SolveFitsUptoSaid : Prop := solveFitsUptoRow.holds Tryz.pinned (OpenSpec.upto solveFitsSpec)

/-- 'jigworkslaw03.SolveFalse', WHERE WHAT IT READS IS OF BULK AT MOST 1048576: true; the input reads as it did. -/
def solveFalseUptoRow : OpenClaim := { program := "ytekbmehgcofnkaagreat", sum := "0a6e78ecb5b57bdda3fdaccdc7861666954906cbfe11870e4fa32d016348958b", func := "jigworks/jigworkslaw03.SolveFalse", spec := "solveFalse", unfollowed := true, recurses := true, plainKeys := false, apart := false, narrowed := true }
def SolveFalseUptoSaid : Prop := solveFalseUptoRow.holds Tryz.pinned (OpenSpec.upto solveFalseSpec)

/-- 'jigworkslaw03.SolveMore', WHERE WHAT IT READS IS OF BULK AT MOST 1048576: true; the input reads as it did. -/
def solveMoreUptoRow : OpenClaim := { program := "ytekbmehgcofnkaagreat", sum := "0a6e78ecb5b57bdda3fdaccdc7861666954906cbfe11870e4fa32d016348958b", func := "jigworks/jigworkslaw03.SolveMore", spec := "solveMore", unfollowed := true, recurses := true, plainKeys := false, apart := false, narrowed := true }
def SolveMoreUptoSaid : Prop := solveMoreUptoRow.holds Tryz.pinned (OpenSpec.upto solveMoreSpec)

/-- 'jigworkslaw03.SolveOwns', WHERE WHAT IT READS IS OF BULK AT MOST 1048576: true; the input reads as it did. -/
def solveOwnsUptoRow : OpenClaim := { program := "ytekbmehgcofnkaagreat", sum := "0a6e78ecb5b57bdda3fdaccdc7861666954906cbfe11870e4fa32d016348958b", func := "jigworks/jigworkslaw03.SolveOwns", spec := "solveOwns", unfollowed := true, recurses := true, plainKeys := false, apart := false, narrowed := true }
def SolveOwnsUptoSaid : Prop := solveOwnsUptoRow.holds Tryz.pinned (OpenSpec.upto solveOwnsSpec)

end Rows
end Go.Proofs.YtekbmehgcofnkaaGreat
