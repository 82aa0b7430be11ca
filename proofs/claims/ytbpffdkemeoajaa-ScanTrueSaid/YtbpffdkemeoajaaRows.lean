/-
  No cell of these rows narrows 'for every input' (looked for: loops, veiled, ifaces, maps, wideKeys, modest, calm, conditions, laid).
  DERIVED. THE GIVEN ROWS OF THIS SEAT. 9 by the template 'for every input the law returns true; each argument reads behind the call as it read before'; 0 by the template 'total and deterministic' (their statements: YtbpffdkemeoajaaTotals.lean).
  GIVEN WITH THE SEED: the statements are not yours to turn. If you find one false, say at which input.
  Laid BY PROGRAM, IN A SANDBOX (cutbox-rows.mjs): the forced cells as the released guide's own fill.sh prints them over the translation 3861f6d0dd5f5df9… (all of the seat's roots in one cut). By AI agents, Wed Nov 11 2026. No macro, syntax, notation, axiom, sorry.
-/
import Derived.Test.YtbpffdkemeoajaaChecked
import GoSem.Claim
import GoSem.ClaimJoined
import GoSem.ClaimMapViews
import Derived.JoinedTies
import Derived.KernelRfl
namespace Go.Proofs.Ytbpffdkemeoajaa
/- THE CELL 'sum', in the pinned program and in every row, IS THE sha256 OF THE DUMP (.gsa) THAT YtbpffdkemeoajaaProg.lean LOADS. Nothing in Lean hashes anything: it is a label: what it is worth is what the hold of that sum in a sandbox is worth. -/
noncomputable def Try.pinned : Pinned := { name := "ytbpffdkemeoajaa", sum := "3861f6d0dd5f5df98de7163aee28e5c46c92cfaf9f8748f3e2d96efb6af59f6e", checked := Try.checked }
namespace Rows
def none {H : Type} : Left H := { results := [], args := [] }

/-- 'jigworkslaw07.ScanSeats': WHATEVER THE INPUT: true; the input reads as it did. -/
def scanSeatsSpec : ChangeSpec := { name := "scanSeats", fn := fun _ => fun
  | [d1, d2] => { results := [.lit (.bool true)], args := [d1, d2] }
  | _ => none }
def scanSeatsRow : OpenClaim := { program := "ytbpffdkemeoajaa", sum := "3861f6d0dd5f5df98de7163aee28e5c46c92cfaf9f8748f3e2d96efb6af59f6e", func := "jigworks/jigworkslaw07.ScanSeats", spec := "scanSeats", unfollowed := true, recurses := true, apart := false }
def ScanSeatsSaid : Prop := scanSeatsRow.holds Try.pinned (OpenSpec.ofChange scanSeatsSpec)

/-- ITS FALSE NEIGHBOUR: 'it returns false'. Refute it at one input. -/
def scanSeatsWrong : ChangeSpec := { name := "scanSeats", fn := fun _ => fun
  | [d1, d2] => { results := [.lit (.bool false)], args := [d1, d2] }
  | _ => none }
def ScanSeatsWrongFalsely : Prop := scanSeatsRow.holds Try.pinned (OpenSpec.ofChange scanSeatsWrong)

/-- 'jigworkslaw07.ScanNames': WHATEVER THE INPUT: true; the input reads as it did. -/
def scanNamesSpec : ChangeSpec := { name := "scanNames", fn := fun _ => fun
  | [] => { results := [.lit (.bool true)], args := [] }
  | _ => none }
def scanNamesRow : OpenClaim := { program := "ytbpffdkemeoajaa", sum := "3861f6d0dd5f5df98de7163aee28e5c46c92cfaf9f8748f3e2d96efb6af59f6e", func := "jigworks/jigworkslaw07.ScanNames", spec := "scanNames", unfollowed := true, recurses := true, apart := false }
def ScanNamesSaid : Prop := scanNamesRow.holds Try.pinned (OpenSpec.ofChange scanNamesSpec)

/-- ITS FALSE NEIGHBOUR: 'it returns false'. Refute it at one input. -/
def scanNamesWrong : ChangeSpec := { name := "scanNames", fn := fun _ => fun
  | [] => { results := [.lit (.bool false)], args := [] }
  | _ => none }
def ScanNamesWrongFalsely : Prop := scanNamesRow.holds Try.pinned (OpenSpec.ofChange scanNamesWrong)

/-- 'jigworkslaw07.ScanTrue': WHATEVER THE INPUT: true; the input reads as it did. -/
def scanTrueSpec : ChangeSpec := { name := "scanTrue", fn := fun _ => fun
  | [d1, d2, d3] => { results := [.lit (.bool true)], args := [d1, d2, d3] }
  | _ => none }
def scanTrueRow : OpenClaim := { program := "ytbpffdkemeoajaa", sum := "3861f6d0dd5f5df98de7163aee28e5c46c92cfaf9f8748f3e2d96efb6af59f6e", func := "jigworks/jigworkslaw07.ScanTrue", spec := "scanTrue", unfollowed := true, recurses := true, apart := false }
def ScanTrueSaid : Prop := scanTrueRow.holds Try.pinned (OpenSpec.ofChange scanTrueSpec)

/-- ITS FALSE NEIGHBOUR: 'it returns false'. Refute it at one input. -/
def scanTrueWrong : ChangeSpec := { name := "scanTrue", fn := fun _ => fun
  | [d1, d2, d3] => { results := [.lit (.bool false)], args := [d1, d2, d3] }
  | _ => none }
def ScanTrueWrongFalsely : Prop := scanTrueRow.holds Try.pinned (OpenSpec.ofChange scanTrueWrong)

/-- 'jigworkslaw07.ScanForced': WHATEVER THE INPUT: true; the input reads as it did. -/
def scanForcedSpec : ChangeSpec := { name := "scanForced", fn := fun _ => fun
  | [d] => { results := [.lit (.bool true)], args := [d] }
  | _ => none }
def scanForcedRow : OpenClaim := { program := "ytbpffdkemeoajaa", sum := "3861f6d0dd5f5df98de7163aee28e5c46c92cfaf9f8748f3e2d96efb6af59f6e", func := "jigworks/jigworkslaw07.ScanForced", spec := "scanForced", unfollowed := true, recurses := true, apart := false }
def ScanForcedSaid : Prop := scanForcedRow.holds Try.pinned (OpenSpec.ofChange scanForcedSpec)

/-- ITS FALSE NEIGHBOUR: 'it returns false'. Refute it at one input. -/
def scanForcedWrong : ChangeSpec := { name := "scanForced", fn := fun _ => fun
  | [d] => { results := [.lit (.bool false)], args := [d] }
  | _ => none }
def ScanForcedWrongFalsely : Prop := scanForcedRow.holds Try.pinned (OpenSpec.ofChange scanForcedWrong)

/-- 'jigworkslaw07.ScanMissing': WHATEVER THE INPUT: true; the input reads as it did. -/
def scanMissingSpec : ChangeSpec := { name := "scanMissing", fn := fun _ => fun
  | [d] => { results := [.lit (.bool true)], args := [d] }
  | _ => none }
def scanMissingRow : OpenClaim := { program := "ytbpffdkemeoajaa", sum := "3861f6d0dd5f5df98de7163aee28e5c46c92cfaf9f8748f3e2d96efb6af59f6e", func := "jigworks/jigworkslaw07.ScanMissing", spec := "scanMissing", unfollowed := true, recurses := true, apart := false }
def ScanMissingSaid : Prop := scanMissingRow.holds Try.pinned (OpenSpec.ofChange scanMissingSpec)

/-- ITS FALSE NEIGHBOUR: 'it returns false'. Refute it at one input. -/
def scanMissingWrong : ChangeSpec := { name := "scanMissing", fn := fun _ => fun
  | [d] => { results := [.lit (.bool false)], args := [d] }
  | _ => none }
def ScanMissingWrongFalsely : Prop := scanMissingRow.holds Try.pinned (OpenSpec.ofChange scanMissingWrong)

/-- 'jigworkslaw07.ScanOwn': WHATEVER THE INPUT: true; the input reads as it did. -/
def scanOwnSpec : ChangeSpec := { name := "scanOwn", fn := fun _ => fun
  | [d1, d2] => { results := [.lit (.bool true)], args := [d1, d2] }
  | _ => none }
def scanOwnRow : OpenClaim := { program := "ytbpffdkemeoajaa", sum := "3861f6d0dd5f5df98de7163aee28e5c46c92cfaf9f8748f3e2d96efb6af59f6e", func := "jigworks/jigworkslaw07.ScanOwn", spec := "scanOwn", unfollowed := true, recurses := true, apart := false }
def ScanOwnSaid : Prop := scanOwnRow.holds Try.pinned (OpenSpec.ofChange scanOwnSpec)

/-- ITS FALSE NEIGHBOUR: 'it returns false'. Refute it at one input. -/
def scanOwnWrong : ChangeSpec := { name := "scanOwn", fn := fun _ => fun
  | [d1, d2] => { results := [.lit (.bool false)], args := [d1, d2] }
  | _ => none }
def ScanOwnWrongFalsely : Prop := scanOwnRow.holds Try.pinned (OpenSpec.ofChange scanOwnWrong)

/-- 'jigworkslaw07.ScanMore': WHATEVER THE INPUT: true; the input reads as it did. -/
def scanMoreSpec : ChangeSpec := { name := "scanMore", fn := fun _ => fun
  | [d1, d2, d3] => { results := [.lit (.bool true)], args := [d1, d2, d3] }
  | _ => none }
def scanMoreRow : OpenClaim := { program := "ytbpffdkemeoajaa", sum := "3861f6d0dd5f5df98de7163aee28e5c46c92cfaf9f8748f3e2d96efb6af59f6e", func := "jigworks/jigworkslaw07.ScanMore", spec := "scanMore", unfollowed := true, recurses := true, apart := false }
def ScanMoreSaid : Prop := scanMoreRow.holds Try.pinned (OpenSpec.ofChange scanMoreSpec)

/-- ITS FALSE NEIGHBOUR: 'it returns false'. Refute it at one input. -/
def scanMoreWrong : ChangeSpec := { name := "scanMore", fn := fun _ => fun
  | [d1, d2, d3] => { results := [.lit (.bool false)], args := [d1, d2, d3] }
  | _ => none }
def ScanMoreWrongFalsely : Prop := scanMoreRow.holds Try.pinned (OpenSpec.ofChange scanMoreWrong)

/-- 'jigworkslaw07.ScanTurned': WHATEVER THE INPUT: true; the input reads as it did. -/
def scanTurnedSpec : ChangeSpec := { name := "scanTurned", fn := fun _ => fun
  | [d1, d2] => { results := [.lit (.bool true)], args := [d1, d2] }
  | _ => none }
def scanTurnedRow : OpenClaim := { program := "ytbpffdkemeoajaa", sum := "3861f6d0dd5f5df98de7163aee28e5c46c92cfaf9f8748f3e2d96efb6af59f6e", func := "jigworks/jigworkslaw07.ScanTurned", spec := "scanTurned", unfollowed := true, recurses := true, apart := false }
def ScanTurnedSaid : Prop := scanTurnedRow.holds Try.pinned (OpenSpec.ofChange scanTurnedSpec)

/-- ITS FALSE NEIGHBOUR: 'it returns false'. Refute it at one input. -/
def scanTurnedWrong : ChangeSpec := { name := "scanTurned", fn := fun _ => fun
  | [d1, d2] => { results := [.lit (.bool false)], args := [d1, d2] }
  | _ => none }
def ScanTurnedWrongFalsely : Prop := scanTurnedRow.holds Try.pinned (OpenSpec.ofChange scanTurnedWrong)

/-- 'jigworkslaw07.ScanOwns': WHATEVER THE INPUT: true; the input reads as it did. -/
def scanOwnsSpec : ChangeSpec := { name := "scanOwns", fn := fun _ => fun
  | [d] => { results := [.lit (.bool true)], args := [d] }
  | _ => none }
def scanOwnsRow : OpenClaim := { program := "ytbpffdkemeoajaa", sum := "3861f6d0dd5f5df98de7163aee28e5c46c92cfaf9f8748f3e2d96efb6af59f6e", func := "jigworks/jigworkslaw07.ScanOwns", spec := "scanOwns", unfollowed := true, recurses := true, apart := false }
def ScanOwnsSaid : Prop := scanOwnsRow.holds Try.pinned (OpenSpec.ofChange scanOwnsSpec)

/-- ITS FALSE NEIGHBOUR: 'it returns false'. Refute it at one input. -/
def scanOwnsWrong : ChangeSpec := { name := "scanOwns", fn := fun _ => fun
  | [d] => { results := [.lit (.bool false)], args := [d] }
  | _ => none }
def ScanOwnsWrongFalsely : Prop := scanOwnsRow.holds Try.pinned (OpenSpec.ofChange scanOwnsWrong)

/- THE SECOND FORM. 'bulk': how many values and letters a reading holds, each counted each time it is reached (what is shared counts as often as it is met; a slice's spare places count too). A statement '..UptoSaid' is the law's where the arguments, and the package variables that the reading takes, are together of bulk at most 1048576: NARROWER than '..Said'. Prove '..Said' where nothing that the law and all that it calls make is longer than what came in: it says more and counts as full. Else prove '..UptoSaid'. A law counts once. -/
mutual
def uptoBulk {H : Type} : DataW H → Nat
  | .lit (.string bytes) => bytes.length + 1
  | .lit _ => 1
  | .nil => 1
  | .ptr d => uptoBulk d + 1
  | .slice elems spare => uptoBulkAll elems + uptoBulkAll spare + 1
  | .agg parts => uptoBulkAll parts + 1
  | .iface _ d => uptoBulk d + 1
  | .map entries => uptoBulkEntries entries + 1
  | .held _ => 1
def uptoBulkAll {H : Type} : List (DataW H) → Nat
  | [] => 0
  | d :: r => uptoBulk d + uptoBulkAll r
def uptoBulkEntries {H : Type} : List (Lit × DataW H) → Nat
  | [] => 0
  | x :: r => uptoBulkEntry x + uptoBulkEntries r
def uptoBulkEntry {H : Type} : Lit × DataW H → Nat
  | (.string bytes, d) => bytes.length + uptoBulk d + 1
  | (_, d) => uptoBulk d + 1
 end
def uptoSmall : (H : Type) → List (DataW H) → Bool := fun _ ds => decide (uptoBulkAll ds ≤ 1048576)
def OpenSpec.upto (s : _root_.Go.ChangeSpec) : _root_.Go.OpenSpec := { _root_.Go.OpenSpec.ofChange s with cond := some uptoSmall }

/-- 'jigworkslaw07.ScanSeats', WHERE WHAT IT READS IS OF BULK AT MOST 1048576: true; the input reads as it did. -/
def scanSeatsUptoRow : OpenClaim := { program := "ytbpffdkemeoajaa", sum := "3861f6d0dd5f5df98de7163aee28e5c46c92cfaf9f8748f3e2d96efb6af59f6e", func := "jigworks/jigworkslaw07.ScanSeats", spec := "scanSeats", unfollowed := true, recurses := true, apart := false, narrowed := true }
def ScanSeatsUptoSaid : Prop := scanSeatsUptoRow.holds Try.pinned (OpenSpec.upto scanSeatsSpec)

/-- 'jigworkslaw07.ScanNames', WHERE WHAT IT READS IS OF BULK AT MOST 1048576: true; the input reads as it did. -/
def scanNamesUptoRow : OpenClaim := { program := "ytbpffdkemeoajaa", sum := "3861f6d0dd5f5df98de7163aee28e5c46c92cfaf9f8748f3e2d96efb6af59f6e", func := "jigworks/jigworkslaw07.ScanNames", spec := "scanNames", unfollowed := true, recurses := true, apart := false, narrowed := true }
def ScanNamesUptoSaid : Prop := scanNamesUptoRow.holds Try.pinned (OpenSpec.upto scanNamesSpec)

/-- 'jigworkslaw07.ScanTrue', WHERE WHAT IT READS IS OF BULK AT MOST 1048576: true; the input reads as it did. -/
def scanTrueUptoRow : OpenClaim := { program := "ytbpffdkemeoajaa", sum := "3861f6d0dd5f5df98de7163aee28e5c46c92cfaf9f8748f3e2d96efb6af59f6e", func := "jigworks/jigworkslaw07.ScanTrue", spec := "scanTrue", unfollowed := true, recurses := true, apart := false, narrowed := true }
def ScanTrueUptoSaid : Prop := scanTrueUptoRow.holds Try.pinned (OpenSpec.upto scanTrueSpec)

/-- 'jigworkslaw07.ScanForced', WHERE WHAT IT READS IS OF BULK AT MOST 1048576: true; the input reads as it did. -/
def scanForcedUptoRow : OpenClaim := { program := "ytbpffdkemeoajaa", sum := "3861f6d0dd5f5df98de7163aee28e5c46c92cfaf9f8748f3e2d96efb6af59f6e", func := "jigworks/jigworkslaw07.ScanForced", spec := "scanForced", unfollowed := true, recurses := true, apart := false, narrowed := true }
def ScanForcedUptoSaid : Prop := scanForcedUptoRow.holds Try.pinned (OpenSpec.upto scanForcedSpec)

/-- 'jigworkslaw07.ScanMissing', WHERE WHAT IT READS IS OF BULK AT MOST 1048576: true; the input reads as it did. -/
def scanMissingUptoRow : OpenClaim := { program := "ytbpffdkemeoajaa", sum := "3861f6d0dd5f5df98de7163aee28e5c46c92cfaf9f8748f3e2d96efb6af59f6e", func := "jigworks/jigworkslaw07.ScanMissing", spec := "scanMissing", unfollowed := true, recurses := true, apart := false, narrowed := true }
def ScanMissingUptoSaid : Prop := scanMissingUptoRow.holds Try.pinned (OpenSpec.upto scanMissingSpec)

/-- 'jigworkslaw07.ScanOwn', WHERE WHAT IT READS IS OF BULK AT MOST 1048576: true; the input reads as it did. -/
def scanOwnUptoRow : OpenClaim := { program := "ytbpffdkemeoajaa", sum := "3861f6d0dd5f5df98de7163aee28e5c46c92cfaf9f8748f3e2d96efb6af59f6e", func := "jigworks/jigworkslaw07.ScanOwn", spec := "scanOwn", unfollowed := true, recurses := true, apart := false, narrowed := true }
def ScanOwnUptoSaid : Prop := scanOwnUptoRow.holds Try.pinned (OpenSpec.upto scanOwnSpec)

/-- 'jigworkslaw07.ScanMore', WHERE WHAT IT READS IS OF BULK AT MOST 1048576: true; the input reads as it did. -/
def scanMoreUptoRow : OpenClaim := { program := "ytbpffdkemeoajaa", sum := "3861f6d0dd5f5df98de7163aee28e5c46c92cfaf9f8748f3e2d96efb6af59f6e", func := "jigworks/jigworkslaw07.ScanMore", spec := "scanMore", unfollowed := true, recurses := true, apart := false, narrowed := true }
def ScanMoreUptoSaid : Prop := scanMoreUptoRow.holds Try.pinned (OpenSpec.upto scanMoreSpec)

/-- 'jigworkslaw07.ScanTurned', WHERE WHAT IT READS IS OF BULK AT MOST 1048576: true; the input reads as it did. -/
def scanTurnedUptoRow : OpenClaim := { program := "ytbpffdkemeoajaa", sum := "3861f6d0dd5f5df98de7163aee28e5c46c92cfaf9f8748f3e2d96efb6af59f6e", func := "jigworks/jigworkslaw07.ScanTurned", spec := "scanTurned", unfollowed := true, recurses := true, apart := false, narrowed := true }
def ScanTurnedUptoSaid : Prop := scanTurnedUptoRow.holds Try.pinned (OpenSpec.upto scanTurnedSpec)

/-- 'jigworkslaw07.ScanOwns', WHERE WHAT IT READS IS OF BULK AT MOST 1048576: true; the input reads as it did. -/
def scanOwnsUptoRow : OpenClaim := { program := "ytbpffdkemeoajaa", sum := "3861f6d0dd5f5df98de7163aee28e5c46c92cfaf9f8748f3e2d96efb6af59f6e", func := "jigworks/jigworkslaw07.ScanOwns", spec := "scanOwns", unfollowed := true, recurses := true, apart := false, narrowed := true }
def ScanOwnsUptoSaid : Prop := scanOwnsUptoRow.holds Try.pinned (OpenSpec.upto scanOwnsSpec)

end Rows
end Go.Proofs.Ytbpffdkemeoajaa
