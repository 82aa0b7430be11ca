/- How the arguments of a law are opened: short whole numbers. -/
import Derived.Test.YtdaanchagjamfaaUo
import Derived.Test.YtdaanchagjamfaaTo
namespace Go.Proofs.Ytdaanchagjamfaa
open Go.SX Go.RowKit Go.ChangeShapes Go.WideShapes Go.ChangeAt

theorem okWide_intR {P : Program} {w : World} {r : Reach} {base : Nat} {t : TypeId} {v : Value} {k : IntKind} (ht : P.underlying t = some (.int k)) (h : Value.okWide P w r base t v) : ∃ n, v = .int k n ∧ k.min ≤ n ∧ n ≤ k.max := by
  simp only [Value.okWide, ht, Cell.okWide] at h
  cases v <;> simp_all [Cell.ok, IntKind.has]
set_option maxRecDepth 100000 in
theorem open_u16 {w : World} {r : Reach} {base : Nat} {v : Value} (h : Value.okWide Try.prog w r base 72 v) : ∃ x : U16, v = (Enc.enc x).den r0 ∧ 0 ≤ x.n ∧ x.n ≤ 65535 := by
  obtain ⟨n, rfl, h1, h2⟩ := okWide_intR Try.underlying72 h
  exact ⟨⟨n⟩, rfl, h1, h2⟩
set_option maxRecDepth 100000 in
theorem open_u8 {w : World} {r : Reach} {base : Nat} {v : Value} (h : Value.okWide Try.prog w r base 5 v) : ∃ x : U8, v = (Enc.enc x).den r0 ∧ 0 ≤ x.n ∧ x.n ≤ 255 := by
  obtain ⟨n, rfl, h1, h2⟩ := okWide_intR Try.underlying5 h
  exact ⟨⟨n⟩, rfl, h1, h2⟩
end Go.Proofs.Ytdaanchagjamfaa
