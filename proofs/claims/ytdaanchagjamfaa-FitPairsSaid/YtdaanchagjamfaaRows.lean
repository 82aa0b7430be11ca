/-
  No cell of these rows narrows 'for every input' (looked for: loops, veiled, ifaces, maps, wideKeys, modest, calm, conditions, laid).
  DERIVED. THE GIVEN ROWS OF THIS SEAT. 12 by the template 'for every input the law returns true; each argument reads behind the call as it read before'; 0 by the template 'total and deterministic' (their statements: YtdaanchagjamfaaTotals.lean).
  GIVEN WITH THE SEED: the statements are not yours to turn. If you find one false, say at which input.
  Laid BY PROGRAM, IN A SANDBOX (cutbox-rows.mjs): the forced cells as the released guide's own fill.sh prints them over the translation 26ca4f283d2821f9… (all of the seat's roots in one cut). By AI agents, Wed Nov 11 2026. No macro, syntax, notation, axiom, sorry.
-/
import Derived.Test.YtdaanchagjamfaaChecked
import GoSem.Claim
import GoSem.ClaimJoined
import GoSem.ClaimMapViews
import Derived.JoinedTies
import Derived.KernelRfl
namespace Go.Proofs.Ytdaanchagjamfaa
/- THE CELL 'sum', in the pinned program and in every row, IS THE sha256 OF THE DUMP (.gsa) THAT YtdaanchagjamfaaProg.lean LOADS. Nothing in Lean hashes anything: it is a label: what it is worth is what the hold of that sum in a sandbox is worth. -/
noncomputable def Try.pinned : Pinned := { name := "ytdaanchagjamfaa", sum := "26ca4f283d2821f9243629f6b22866e123eab5b460fbc5cc50f7d1a002f32be5", checked := Try.checked }
namespace Rows
def none {H : Type} : Left H := { results := [], args := [] }

/-- 'jigworkslaw02.FitSides': WHATEVER THE INPUT: true; the input reads as it did. -/
def fitSidesSpec : ChangeSpec := { name := "fitSides", fn := fun _ => fun
  | [d1, d2, d3, d4, d5] => { results := [.lit (.bool true)], args := [d1, d2, d3, d4, d5] }
  | _ => none }
def fitSidesRow : OpenClaim := { program := "ytdaanchagjamfaa", sum := "26ca4f283d2821f9243629f6b22866e123eab5b460fbc5cc50f7d1a002f32be5", func := "jigworks/jigworkslaw02.FitSides", spec := "fitSides", unfollowed := true, recurses := true, apart := false }
def FitSidesSaid : Prop := fitSidesRow.holds Try.pinned (OpenSpec.ofChange fitSidesSpec)

/-- ITS FALSE NEIGHBOUR: 'it returns false'. Refute it at one input. -/
def fitSidesWrong : ChangeSpec := { name := "fitSides", fn := fun _ => fun
  | [d1, d2, d3, d4, d5] => { results := [.lit (.bool false)], args := [d1, d2, d3, d4, d5] }
  | _ => none }
def FitSidesWrongFalsely : Prop := fitSidesRow.holds Try.pinned (OpenSpec.ofChange fitSidesWrong)

/-- 'jigworkslaw02.FitLasts': WHATEVER THE INPUT: true; the input reads as it did. -/
def fitLastsSpec : ChangeSpec := { name := "fitLasts", fn := fun _ => fun
  | [d1, d2, d3, d4] => { results := [.lit (.bool true)], args := [d1, d2, d3, d4] }
  | _ => none }
def fitLastsRow : OpenClaim := { program := "ytdaanchagjamfaa", sum := "26ca4f283d2821f9243629f6b22866e123eab5b460fbc5cc50f7d1a002f32be5", func := "jigworks/jigworkslaw02.FitLasts", spec := "fitLasts", unfollowed := true, recurses := true, apart := false }
def FitLastsSaid : Prop := fitLastsRow.holds Try.pinned (OpenSpec.ofChange fitLastsSpec)

/-- ITS FALSE NEIGHBOUR: 'it returns false'. Refute it at one input. -/
def fitLastsWrong : ChangeSpec := { name := "fitLasts", fn := fun _ => fun
  | [d1, d2, d3, d4] => { results := [.lit (.bool false)], args := [d1, d2, d3, d4] }
  | _ => none }
def FitLastsWrongFalsely : Prop := fitLastsRow.holds Try.pinned (OpenSpec.ofChange fitLastsWrong)

/-- 'jigworkslaw02.FitPairs': WHATEVER THE INPUT: true; the input reads as it did. -/
def fitPairsSpec : ChangeSpec := { name := "fitPairs", fn := fun _ => fun
  | [d1, d2, d3, d4, d5] => { results := [.lit (.bool true)], args := [d1, d2, d3, d4, d5] }
  | _ => none }
def fitPairsRow : OpenClaim := { program := "ytdaanchagjamfaa", sum := "26ca4f283d2821f9243629f6b22866e123eab5b460fbc5cc50f7d1a002f32be5", func := "jigworks/jigworkslaw02.FitPairs", spec := "fitPairs", unfollowed := true, recurses := true, apart := false }
def FitPairsSaid : Prop := fitPairsRow.holds Try.pinned (OpenSpec.ofChange fitPairsSpec)

/-- ITS FALSE NEIGHBOUR: 'it returns false'. Refute it at one input. -/
def fitPairsWrong : ChangeSpec := { name := "fitPairs", fn := fun _ => fun
  | [d1, d2, d3, d4, d5] => { results := [.lit (.bool false)], args := [d1, d2, d3, d4, d5] }
  | _ => none }
def FitPairsWrongFalsely : Prop := fitPairsRow.holds Try.pinned (OpenSpec.ofChange fitPairsWrong)

/-- 'jigworkslaw02.FitNames': WHATEVER THE INPUT: true; the input reads as it did. -/
def fitNamesSpec : ChangeSpec := { name := "fitNames", fn := fun _ => fun
  | [] => { results := [.lit (.bool true)], args := [] }
  | _ => none }
def fitNamesRow : OpenClaim := { program := "ytdaanchagjamfaa", sum := "26ca4f283d2821f9243629f6b22866e123eab5b460fbc5cc50f7d1a002f32be5", func := "jigworks/jigworkslaw02.FitNames", spec := "fitNames", unfollowed := true, recurses := true, apart := false }
def FitNamesSaid : Prop := fitNamesRow.holds Try.pinned (OpenSpec.ofChange fitNamesSpec)

/-- ITS FALSE NEIGHBOUR: 'it returns false'. Refute it at one input. -/
def fitNamesWrong : ChangeSpec := { name := "fitNames", fn := fun _ => fun
  | [] => { results := [.lit (.bool false)], args := [] }
  | _ => none }
def FitNamesWrongFalsely : Prop := fitNamesRow.holds Try.pinned (OpenSpec.ofChange fitNamesWrong)

/-- 'jigworkslaw02.FitTrue': WHATEVER THE INPUT: true; the input reads as it did. -/
def fitTrueSpec : ChangeSpec := { name := "fitTrue", fn := fun _ => fun
  | [d1, d2, d3, d4, d5, d6] => { results := [.lit (.bool true)], args := [d1, d2, d3, d4, d5, d6] }
  | _ => none }
def fitTrueRow : OpenClaim := { program := "ytdaanchagjamfaa", sum := "26ca4f283d2821f9243629f6b22866e123eab5b460fbc5cc50f7d1a002f32be5", func := "jigworks/jigworkslaw02.FitTrue", spec := "fitTrue", unfollowed := true, recurses := true, apart := false }
def FitTrueSaid : Prop := fitTrueRow.holds Try.pinned (OpenSpec.ofChange fitTrueSpec)

/-- ITS FALSE NEIGHBOUR: 'it returns false'. Refute it at one input. -/
def fitTrueWrong : ChangeSpec := { name := "fitTrue", fn := fun _ => fun
  | [d1, d2, d3, d4, d5, d6] => { results := [.lit (.bool false)], args := [d1, d2, d3, d4, d5, d6] }
  | _ => none }
def FitTrueWrongFalsely : Prop := fitTrueRow.holds Try.pinned (OpenSpec.ofChange fitTrueWrong)

/-- 'jigworkslaw02.FitEnds': WHATEVER THE INPUT: true; the input reads as it did. -/
def fitEndsSpec : ChangeSpec := { name := "fitEnds", fn := fun _ => fun
  | [d1, d2, d3] => { results := [.lit (.bool true)], args := [d1, d2, d3] }
  | _ => none }
def fitEndsRow : OpenClaim := { program := "ytdaanchagjamfaa", sum := "26ca4f283d2821f9243629f6b22866e123eab5b460fbc5cc50f7d1a002f32be5", func := "jigworks/jigworkslaw02.FitEnds", spec := "fitEnds", unfollowed := true, recurses := true, apart := false }
def FitEndsSaid : Prop := fitEndsRow.holds Try.pinned (OpenSpec.ofChange fitEndsSpec)

/-- ITS FALSE NEIGHBOUR: 'it returns false'. Refute it at one input. -/
def fitEndsWrong : ChangeSpec := { name := "fitEnds", fn := fun _ => fun
  | [d1, d2, d3] => { results := [.lit (.bool false)], args := [d1, d2, d3] }
  | _ => none }
def FitEndsWrongFalsely : Prop := fitEndsRow.holds Try.pinned (OpenSpec.ofChange fitEndsWrong)

/-- 'jigworkslaw02.FitStrokes': WHATEVER THE INPUT: true; the input reads as it did. -/
def fitStrokesSpec : ChangeSpec := { name := "fitStrokes", fn := fun _ => fun
  | [d1, d2, d3, d4, d5, d6] => { results := [.lit (.bool true)], args := [d1, d2, d3, d4, d5, d6] }
  | _ => none }
def fitStrokesRow : OpenClaim := { program := "ytdaanchagjamfaa", sum := "26ca4f283d2821f9243629f6b22866e123eab5b460fbc5cc50f7d1a002f32be5", func := "jigworks/jigworkslaw02.FitStrokes", spec := "fitStrokes", unfollowed := true, recurses := true, apart := false }
def FitStrokesSaid : Prop := fitStrokesRow.holds Try.pinned (OpenSpec.ofChange fitStrokesSpec)

/-- ITS FALSE NEIGHBOUR: 'it returns false'. Refute it at one input. -/
def fitStrokesWrong : ChangeSpec := { name := "fitStrokes", fn := fun _ => fun
  | [d1, d2, d3, d4, d5, d6] => { results := [.lit (.bool false)], args := [d1, d2, d3, d4, d5, d6] }
  | _ => none }
def FitStrokesWrongFalsely : Prop := fitStrokesRow.holds Try.pinned (OpenSpec.ofChange fitStrokesWrong)

/-- 'jigworkslaw02.FitAgain': WHATEVER THE INPUT: true; the input reads as it did. -/
def fitAgainSpec : ChangeSpec := { name := "fitAgain", fn := fun _ => fun
  | [d1, d2, d3, d4] => { results := [.lit (.bool true)], args := [d1, d2, d3, d4] }
  | _ => none }
def fitAgainRow : OpenClaim := { program := "ytdaanchagjamfaa", sum := "26ca4f283d2821f9243629f6b22866e123eab5b460fbc5cc50f7d1a002f32be5", func := "jigworks/jigworkslaw02.FitAgain", spec := "fitAgain", unfollowed := true, recurses := true, apart := false }
def FitAgainSaid : Prop := fitAgainRow.holds Try.pinned (OpenSpec.ofChange fitAgainSpec)

/-- ITS FALSE NEIGHBOUR: 'it returns false'. Refute it at one input. -/
def fitAgainWrong : ChangeSpec := { name := "fitAgain", fn := fun _ => fun
  | [d1, d2, d3, d4] => { results := [.lit (.bool false)], args := [d1, d2, d3, d4] }
  | _ => none }
def FitAgainWrongFalsely : Prop := fitAgainRow.holds Try.pinned (OpenSpec.ofChange fitAgainWrong)

/-- 'jigworkslaw02.FitPairings': WHATEVER THE INPUT: true; the input reads as it did. -/
def fitPairingsSpec : ChangeSpec := { name := "fitPairings", fn := fun _ => fun
  | [d1, d2, d3, d4] => { results := [.lit (.bool true)], args := [d1, d2, d3, d4] }
  | _ => none }
def fitPairingsRow : OpenClaim := { program := "ytdaanchagjamfaa", sum := "26ca4f283d2821f9243629f6b22866e123eab5b460fbc5cc50f7d1a002f32be5", func := "jigworks/jigworkslaw02.FitPairings", spec := "fitPairings", unfollowed := true, recurses := true, apart := false }
def FitPairingsSaid : Prop := fitPairingsRow.holds Try.pinned (OpenSpec.ofChange fitPairingsSpec)

/-- ITS FALSE NEIGHBOUR: 'it returns false'. Refute it at one input. -/
def fitPairingsWrong : ChangeSpec := { name := "fitPairings", fn := fun _ => fun
  | [d1, d2, d3, d4] => { results := [.lit (.bool false)], args := [d1, d2, d3, d4] }
  | _ => none }
def FitPairingsWrongFalsely : Prop := fitPairingsRow.holds Try.pinned (OpenSpec.ofChange fitPairingsWrong)

/-- 'jigworkslaw02.FitMore': WHATEVER THE INPUT: true; the input reads as it did. -/
def fitMoreSpec : ChangeSpec := { name := "fitMore", fn := fun _ => fun
  | [d1, d2, d3, d4, d5] => { results := [.lit (.bool true)], args := [d1, d2, d3, d4, d5] }
  | _ => none }
def fitMoreRow : OpenClaim := { program := "ytdaanchagjamfaa", sum := "26ca4f283d2821f9243629f6b22866e123eab5b460fbc5cc50f7d1a002f32be5", func := "jigworks/jigworkslaw02.FitMore", spec := "fitMore", unfollowed := true, recurses := true, apart := false }
def FitMoreSaid : Prop := fitMoreRow.holds Try.pinned (OpenSpec.ofChange fitMoreSpec)

/-- ITS FALSE NEIGHBOUR: 'it returns false'. Refute it at one input. -/
def fitMoreWrong : ChangeSpec := { name := "fitMore", fn := fun _ => fun
  | [d1, d2, d3, d4, d5] => { results := [.lit (.bool false)], args := [d1, d2, d3, d4, d5] }
  | _ => none }
def FitMoreWrongFalsely : Prop := fitMoreRow.holds Try.pinned (OpenSpec.ofChange fitMoreWrong)

/-- 'jigworkslaw02.FitLists': WHATEVER THE INPUT: true; the input reads as it did. -/
def fitListsSpec : ChangeSpec := { name := "fitLists", fn := fun _ => fun
  | [d1, d2, d3, d4] => { results := [.lit (.bool true)], args := [d1, d2, d3, d4] }
  | _ => none }
def fitListsRow : OpenClaim := { program := "ytdaanchagjamfaa", sum := "26ca4f283d2821f9243629f6b22866e123eab5b460fbc5cc50f7d1a002f32be5", func := "jigworks/jigworkslaw02.FitLists", spec := "fitLists", unfollowed := true, recurses := true, apart := false }
def FitListsSaid : Prop := fitListsRow.holds Try.pinned (OpenSpec.ofChange fitListsSpec)

/-- ITS FALSE NEIGHBOUR: 'it returns false'. Refute it at one input. -/
def fitListsWrong : ChangeSpec := { name := "fitLists", fn := fun _ => fun
  | [d1, d2, d3, d4] => { results := [.lit (.bool false)], args := [d1, d2, d3, d4] }
  | _ => none }
def FitListsWrongFalsely : Prop := fitListsRow.holds Try.pinned (OpenSpec.ofChange fitListsWrong)

/-- 'jigworkslaw02.FitOwns': WHATEVER THE INPUT: true; the input reads as it did. -/
def fitOwnsSpec : ChangeSpec := { name := "fitOwns", fn := fun _ => fun
  | [d1, d2, d3, d4, d5] => { results := [.lit (.bool true)], args := [d1, d2, d3, d4, d5] }
  | _ => none }
def fitOwnsRow : OpenClaim := { program := "ytdaanchagjamfaa", sum := "26ca4f283d2821f9243629f6b22866e123eab5b460fbc5cc50f7d1a002f32be5", func := "jigworks/jigworkslaw02.FitOwns", spec := "fitOwns", unfollowed := true, recurses := true, apart := false }
def FitOwnsSaid : Prop := fitOwnsRow.holds Try.pinned (OpenSpec.ofChange fitOwnsSpec)

/-- ITS FALSE NEIGHBOUR: 'it returns false'. Refute it at one input. -/
def fitOwnsWrong : ChangeSpec := { name := "fitOwns", fn := fun _ => fun
  | [d1, d2, d3, d4, d5] => { results := [.lit (.bool false)], args := [d1, d2, d3, d4, d5] }
  | _ => none }
def FitOwnsWrongFalsely : Prop := fitOwnsRow.holds Try.pinned (OpenSpec.ofChange fitOwnsWrong)

/- THE SECOND FORM. 'bulk': how many values and letters a reading holds, each counted each time it is reached (what is shared counts as often as it is met; a slice's spare places count too). A statement '..UptoSaid' is the law's where the arguments, and the package variables that the reading takes, are together of bulk at most 1048576: NARROWER than '..Said'. Prove '..Said' where nothing that the law and all that it calls make is longer than what came in: it says more and counts as full. Else prove '..UptoSaid'. A law counts once. -/
mutual
def uptoBulk {H : Type} : DataW H → Nat
  | .lit (.string bytes) => bytes.length + 1
  | .lit _ => 1
  | .nil => 1
  | .ptr d => uptoBulk d + 1
  | .slice elems spare => uptoBulkAll elems + uptoBulkAll spare + 1
  | .agg parts => uptoBulkAll parts + 1
  | .iface _ d => uptoBulk d + 1
  | .map entries => uptoBulkEntries entries + 1
  | .held _ => 1
def uptoBulkAll {H : Type} : List (DataW H) → Nat
  | [] => 0
  | d :: r => uptoBulk d + uptoBulkAll r
def uptoBulkEntries {H : Type} : List (Lit × DataW H) → Nat
  | [] => 0
  | x :: r => uptoBulkEntry x + uptoBulkEntries r
def uptoBulkEntry {H : Type} : Lit × DataW H → Nat
  | (.string bytes, d) => bytes.length + uptoBulk d + 1
  | (_, d) => uptoBulk d + 1
 end
def uptoSmall : (H : Type) → List (DataW H) → Bool := fun _ ds => decide (uptoBulkAll ds ≤ 1048576)
def OpenSpec.upto (s : _root_.Go.ChangeSpec) : _root_.Go.OpenSpec := { _root_.Go.OpenSpec.ofChange s with cond := some uptoSmall }

/-- 'jigworkslaw02.FitSides', WHERE WHAT IT READS IS OF BULK AT MOST 1048576: true; the input reads as it did. -/
def fitSidesUptoRow : OpenClaim := { program := "ytdaanchagjamfaa", sum := "26ca4f283d2821f9243629f6b22866e123eab5b460fbc5cc50f7d1a002f32be5", func := "jigworks/jigworkslaw02.FitSides", spec := "fitSides", unfollowed := true, recurses := true, apart := false, narrowed := true }
def FitSidesUptoSaid : Prop := fitSidesUptoRow.holds Try.pinned (OpenSpec.upto fitSidesSpec)

/-- 'jigworkslaw02.FitLasts', WHERE WHAT IT READS IS OF BULK AT MOST 1048576: true; the input reads as it did. -/
def fitLastsUptoRow : OpenClaim := { program := "ytdaanchagjamfaa", sum := "26ca4f283d2821f9243629f6b22866e123eab5b460fbc5cc50f7d1a002f32be5", func := "jigworks/jigworkslaw02.FitLasts", spec := "fitLasts", unfollowed := true, recurses := true, apart := false, narrowed := true }
def FitLastsUptoSaid : Prop := fitLastsUptoRow.holds Try.pinned (OpenSpec.upto fitLastsSpec)

/-- 'jigworkslaw02.FitPairs', WHERE WHAT IT READS IS OF BULK AT MOST 1048576: true; the input reads as it did. -/
def fitPairsUptoRow : OpenClaim := { program := "ytdaanchagjamfaa", sum := "26ca4f283d2821f9243629f6b22866e123eab5b460fbc5cc50f7d1a002f32be5", func := "jigworks/jigworkslaw02.FitPairs", spec := "fitPairs", unfollowed := true, recurses := true, apart := false, narrowed := true }
def FitPairsUptoSaid : Prop := fitPairsUptoRow.holds Try.pinned (OpenSpec.upto fitPairsSpec)

/-- 'jigworkslaw02.FitNames', WHERE WHAT IT READS IS OF BULK AT MOST 1048576: true; the input reads as it did. -/
def fitNamesUptoRow : OpenClaim := { program := "ytdaanchagjamfaa", sum := "26ca4f283d2821f9243629f6b22866e123eab5b460fbc5cc50f7d1a002f32be5", func := "jigworks/jigworkslaw02.FitNames", spec := "fitNames", unfollowed := true, recurses := true, apart := false, narrowed := true }
def FitNamesUptoSaid : Prop := fitNamesUptoRow.holds Try.pinned (OpenSpec.upto fitNamesSpec)

/-- 'jigworkslaw02.FitTrue', WHERE WHAT IT READS IS OF BULK AT MOST 1048576: true; the input reads as it did. -/
def fitTrueUptoRow : OpenClaim := { program := "ytdaanchagjamfaa", sum := "26ca4f283d2821f9243629f6b22866e123eab5b460fbc5cc50f7d1a002f32be5", func := "jigworks/jigworkslaw02.FitTrue", spec := "fitTrue", unfollowed := true, recurses := true, apart := false, narrowed := true }
def FitTrueUptoSaid : Prop := fitTrueUptoRow.holds Try.pinned (OpenSpec.upto fitTrueSpec)

/-- 'jigworkslaw02.FitEnds', WHERE WHAT IT READS IS OF BULK AT MOST 1048576: true; the input reads as it did. -/
def fitEndsUptoRow : OpenClaim := { program := "ytdaanchagjamfaa", sum := "26ca4f283d2821f9243629f6b22866e123eab5b460fbc5cc50f7d1a002f32be5", func := "jigworks/jigworkslaw02.FitEnds", spec := "fitEnds", unfollowed := true, recurses := true, apart := false, narrowed := true }
def FitEndsUptoSaid : Prop := fitEndsUptoRow.holds Try.pinned (OpenSpec.upto fitEndsSpec)

/-- 'jigworkslaw02.FitStrokes', WHERE WHAT IT READS IS OF BULK AT MOST 1048576: true; the input reads as it did. -/
def fitStrokesUptoRow : OpenClaim := { program := "ytdaanchagjamfaa", sum := "26ca4f283d2821f9243629f6b22866e123eab5b460fbc5cc50f7d1a002f32be5", func := "jigworks/jigworkslaw02.FitStrokes", spec := "fitStrokes", unfollowed := true, recurses := true, apart := false, narrowed := true }
def FitStrokesUptoSaid : Prop := fitStrokesUptoRow.holds Try.pinned (OpenSpec.upto fitStrokesSpec)

/-- 'jigworkslaw02.FitAgain', WHERE WHAT IT READS IS OF BULK AT MOST 1048576: true; the input reads as it did. -/
def fitAgainUptoRow : OpenClaim := { program := "ytdaanchagjamfaa", sum := "26ca4f283d2821f9243629f6b22866e123eab5b460fbc5cc50f7d1a002f32be5", func := "jigworks/jigworkslaw02.FitAgain", spec := "fitAgain", unfollowed := true, recurses := true, apart := false, narrowed := true }
def FitAgainUptoSaid : Prop := fitAgainUptoRow.holds Try.pinned (OpenSpec.upto fitAgainSpec)

/-- 'jigworkslaw02.FitPairings', WHERE WHAT IT READS IS OF BULK AT MOST 1048576: true; the input reads as it did. -/
def fitPairingsUptoRow : OpenClaim := { program := "ytdaanchagjamfaa", sum := "26ca4f283d2821f9243629f6b22866e123eab5b460fbc5cc50f7d1a002f32be5", func := "jigworks/jigworkslaw02.FitPairings", spec := "fitPairings", unfollowed := true, recurses := true, apart := false, narrowed := true }
def FitPairingsUptoSaid : Prop := fitPairingsUptoRow.holds Try.pinned (OpenSpec.upto fitPairingsSpec)

/-- 'jigworkslaw02.FitMore', WHERE WHAT IT READS IS OF BULK AT MOST 1048576: true; the input reads as it did. -/
def fitMoreUptoRow : OpenClaim := { program := "ytdaanchagjamfaa", sum := "26ca4f283d2821f9243629f6b22866e123eab5b460fbc5cc50f7d1a002f32be5", func := "jigworks/jigworkslaw02.FitMore", spec := "fitMore", unfollowed := true, recurses := true, apart := false, narrowed := true }
def FitMoreUptoSaid : Prop := fitMoreUptoRow.holds Try.pinned (OpenSpec.upto fitMoreSpec)

/-- 'jigworkslaw02.FitLists', WHERE WHAT IT READS IS OF BULK AT MOST 1048576: true; the input reads as it did. -/
def fitListsUptoRow : OpenClaim := { program := "ytdaanchagjamfaa", sum := "26ca4f283d2821f9243629f6b22866e123eab5b460fbc5cc50f7d1a002f32be5", func := "jigworks/jigworkslaw02.FitLists", spec := "fitLists", unfollowed := true, recurses := true, apart := false, narrowed := true }
def FitListsUptoSaid : Prop := fitListsUptoRow.holds Try.pinned (OpenSpec.upto fitListsSpec)

/-- 'jigworkslaw02.FitOwns', WHERE WHAT IT READS IS OF BULK AT MOST 1048576: true; the input reads as it did. -/
def fitOwnsUptoRow : OpenClaim := { program := "ytdaanchagjamfaa", sum := "26ca4f283d2821f9243629f6b22866e123eab5b460fbc5cc50f7d1a002f32be5", func := "jigworks/jigworkslaw02.FitOwns", spec := "fitOwns", unfollowed := true, recurses := true, apart := false, narrowed := true }
def FitOwnsUptoSaid : Prop := fitOwnsUptoRow.holds Try.pinned (OpenSpec.upto fitOwnsSpec)

end Rows
end Go.Proofs.Ytdaanchagjamfaa
