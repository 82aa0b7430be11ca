/- What FitEnds says: plain numbers. -/
import Derived.Test.YtdaanchagjamfaaPe
namespace Go.Proofs.Ytdaanchagjamfaa

/-- Of a span, with the least damp and the most. -/
theorem span_facts {p : Play} {s : Sp} {lo hi : Int} (hp : p.ok = true) (hs : s.lo ≤ s.hi) (h0 : lo ≤ 0) (h1 : 0 ≤ hi) :
    (alwaysB s.lo s.hi lo hi p.damp.hi = true ↔ (1000 * lo ≤ s.lo * (1000 + p.damp.lo) ∧ s.hi * (1000 + p.damp.lo) ≤ 1000 * hi) ∧ 1000 * lo ≤ s.lo * (1000 + p.damp.hi) ∧ s.hi * (1000 + p.damp.hi) ≤ 1000 * hi) ∧
    (perhapsB s.lo s.hi lo hi p.damp.lo = true ↔ 1000 * lo ≤ (cond (decide (s.hi < 0)) s.hi (cond (decide (s.lo > 0)) s.lo 0)) * (1000 + p.damp.lo) ∧ (cond (decide (s.hi < 0)) s.hi (cond (decide (s.lo > 0)) s.lo 0)) * (1000 + p.damp.lo) ≤ 1000 * hi) := by
  rw [Play.ok_iff] at hp
  refine ⟨⟨fun h => ?_, fun h => by rw [alwaysB_iff]; exact h.2⟩, ?_⟩
  · have := always_mono (dh' := p.damp.lo) h h0 h1 (Int.le_refl _) (Int.le_refl _) (Int.le_refl _) (Int.le_refl _) (by omega) (by omega)
    rw [alwaysB_iff] at this h
    exact ⟨this, h⟩
  · have e : cond (decide (s.hi < 0)) s.hi (cond (decide (s.lo > 0)) s.lo 0) = min (max 0 s.lo) s.hi := by
      by_cases a : s.hi < 0 <;> by_cases b : s.lo > 0 <;> simp [a, b] <;> omega
    rw [e, perhapsB_iff]
theorem verd_always {p : Play} {t h : Edge} : verd p t h = 2 ↔ alwaysB (offBy p t h).lo (offBy p t h).hi (-p.slack) p.slack p.damp.hi = true ∧ alwaysB (wideBy t h).lo (wideBy t h).hi 0 p.loose p.damp.hi = true ∧ alwaysB (deepBy t h).lo (deepBy t h).hi 0 p.loose p.damp.hi = true := verd_two p t h
theorem verd_never {p : Play} {t h : Edge} (hp : p.ok = true) (ht : t.ok = true) (hh : h.ok = true) (kt : t.kind = 1) (kh : h.kind = 2) : verd p t h = 0 ↔
    ¬ (perhapsB (offBy p t h).lo (offBy p t h).hi (-p.slack) p.slack p.damp.lo = true ∧ perhapsB (wideBy t h).lo (wideBy t h).hi 0 p.loose p.damp.lo = true ∧ perhapsB (deepBy t h).lo (deepBy t h).hi 0 p.loose p.damp.lo = true) := verd_zero hp ht hh kt kh
end Go.Proofs.Ytdaanchagjamfaa
