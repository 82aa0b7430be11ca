import Derived.Test.YtdaanchagjamfaaVerd
/- What Between computes, in plain numbers. -/
namespace Go.Proofs.Ytdaanchagjamfaa

def Sp.damped (s d : Sp) : Sp := ⟨down (min (s.lo * (1000 + d.lo)) (s.lo * (1000 + d.hi))), up (max (s.hi * (1000 + d.lo)) (s.hi * (1000 + d.hi)))⟩
structure Gap where
  off : Sp
  wide : Sp
  deep : Sp
def Gap.zero : Gap := ⟨⟨0, 0⟩, ⟨0, 0⟩, ⟨0, 0⟩⟩
def gapOf (p : Play) (t h : Edge) : Gap := ⟨(offBy p t h).damped p.damp, (wideBy t h).damped p.damp, (deepBy t h).damped p.damp⟩
/-- What the tab t and the hole h lie apart by, and the error's number. -/
def BetweenF (p : Play) (a b : Edge) : Gap × Int :=
  if p.ok = true ∧ a.ok = true ∧ b.ok = true then
    if a.kind = 1 ∧ b.kind = 2 then (gapOf p a b, 0) else if b.kind = 1 ∧ a.kind = 2 then (gapOf p b a, 0) else (.zero, 6)
  else (.zero, 1)

end Go.Proofs.Ytdaanchagjamfaa
