/- Whether a tab and a hole fit, in plain numbers. -/
import Derived.Test.YtdaanchagjamfaaSpec
namespace Go.Proofs.Ytdaanchagjamfaa

/-- Whether a tab and a hole fit, difference by difference. -/
def alw (p : Play) (t h : Edge) (i : Nat) : Bool :=
  match i with
  | 0 => alwaysB (offBy p t h).lo (offBy p t h).hi (-p.slack) p.slack p.damp.hi
  | 1 => alwaysB (wideBy t h).lo (wideBy t h).hi 0 p.loose p.damp.hi
  | _ => alwaysB (deepBy t h).lo (deepBy t h).hi 0 p.loose p.damp.hi
def may (p : Play) (t h : Edge) (i : Nat) : Bool :=
  match i with
  | 0 => perhapsB (offBy p t h).lo (offBy p t h).hi (-p.slack) p.slack p.damp.lo
  | 1 => perhapsB (wideBy t h).lo (wideBy t h).hi 0 p.loose p.damp.lo
  | _ => perhapsB (deepBy t h).lo (deepBy t h).hi 0 p.loose p.damp.lo
def verd (p : Play) (t h : Edge) : Int := if hasIdx (fun i => !(alw p t h i)) 3 then (if hasIdx (fun i => !(may p t h i)) 3 then 0 else 1) else 2
theorem hasIdx3 (q : Nat → Bool) : hasIdx (fun i => !(q i)) 3 = !(q 0 && (q 1 && q 2)) := by
  unfold hasIdx
  simp [List.range_succ]
theorem verd_eq (p : Play) (t h : Edge) : verd p t h = if (alw p t h 0 && (alw p t h 1 && alw p t h 2)) = true then 2 else if (may p t h 0 && (may p t h 1 && may p t h 2)) = true then 1 else 0 := by
  unfold verd
  rw [hasIdx3, hasIdx3]
  cases (alw p t h 0 && (alw p t h 1 && alw p t h 2)) <;> cases (may p t h 0 && (may p t h 1 && may p t h 2)) <;> rfl
def fitsF (p : Play) (a b : Edge) : Int := if a.kind = 2 then (if b.kind = 1 then verd p b a else 0) else if a.kind = 1 ∧ b.kind = 2 then verd p a b else 0
/-- Fit, as the program computes it. -/
def FitF (p : Play) (a b : Edge) : Int × Int := if p.ok = true ∧ a.ok = true ∧ b.ok = true then (fitsF p a b, 0) else (0, 1)
end Go.Proofs.Ytdaanchagjamfaa
