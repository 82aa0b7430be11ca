/- FitOwns: its loops' rounds. -/
import Derived.Test.YtdaanchagjamfaaMoze
namespace Go.Proofs.Ytdaanchagjamfaa
open Go.SX
theorem blt_t {i k : Nat} (h : i < k) : Nat.blt i k = true := by rw [Nat.blt_eq]; exact h
theorem blt_f {i k : Nat} (h : ¬ i < k) : Nat.blt i k = false := by
  rcases hb : Nat.blt i k with _ | _
  · rfl
  · rw [Nat.blt_eq] at hb; exact absurd hb h
theorem fill_step (n k : Nat) (R : Rw Int) : RowsEq 1 n (fun i => bif decide (i = k) then setF [AV.int true .i64 (-9)] 0 (RowT.enc ((fillR k R).get k)) else RowT.enc ((fillR k R).get i)) (fun i => RowT.enc ((fillR (k + 1) R).get i)) := by
  intro i _
  refine ⟨?_, trivial⟩
  by_cases h : i = k
  · subst h
    simp only [fillR, blt_t (Nat.lt_succ_self i), decide_true, cond_true]; rfl
  · simp only [h, decide_false, cond_false]
    by_cases h2 : i < k
    · simp only [fillR, blt_t h2, blt_t (show i < k + 1 by omega)]
    · simp only [fillR, blt_f h2, blt_f (show ¬ i < k + 1 by omega)]
theorem fill_0 (n : Nat) (R : Rw Int) : RowsEq 1 n (fun i => RowT.enc (R.get i)) (fun i => RowT.enc ((fillR 0 R).get i)) := fun i _ => ⟨by simp only [fillR, blt_f (Nat.not_lt_zero i)], trivial⟩
set_option maxRecDepth 100000 in
theorem ow_round0 (o : Own) (hn : (ownR o 0).n ≤ 1000) : RoundW (owJ o 0) (fun k => k ≤ (ownR o 0).n) (fun k => (ownR o 0).n - k) (fun _ e J => e = .exit 2 ∧ J = owE o 0) 8 owLs [] (mkE Try.prog tab_own) (fun _ => hnd (mkE Try.prog tab_own) 0) (loopIn (bodyK Try.f14 0)) := by
  refine ⟨fun k g hk => ⟨den_of (ow_0 o k g) ?_⟩⟩
  refine den_br (fun h => ?_) (fun h => ?_)
  · have h : k < (ownR o 0).n := by have := of_decide_eq_true h; omega
    have e : (ovr 0 k 0 (ownR o 0)).n = (ownR o 0).n := rfl
    refine den_need (by simp only [ownR] at e h ⊢; rw [e]; simp; omega) (den_need (by simp only [ownR] at e h ⊢; rw [e]; simp; omega) ?_)
    have hw : IntKind.i64.wrap ((k : Int) + 1) = ((k + 1 : Nat) : Int) := (w64 (by omega) (by omega)).trans (by omega)
    refine ⟨k + 1, h, by show (ownR o 0).n - (k + 1) < (ownR o 0).n - k; omega, fun e J h => h, rfl, rfl, _, ow_g0 o k (k + 1), ?_⟩
    repeat' first | exact trivial | with_reducible rfl | exact Nat.le_refl _ | exact hw | exact fill_step _ _ _ | exact RowsEq.refl _ _ _ | refine And.intro ?_ ?_
  · have h : k = (ownR o 0).n := by have := of_decide_eq_false h; omega
    subst h
    refine ⟨_, ⟨rfl, rfl⟩, rfl, rfl, _, ow_e0 o _, ?_⟩
    repeat' first | exact trivial | with_reducible rfl | exact Nat.le_refl _ | exact RowsEq.refl _ _ _ | refine And.intro ?_ ?_
set_option maxRecDepth 100000 in
theorem ow_round1 (o : Own) (hn : (ownR o 1).n ≤ 1000) : RoundW (owJ o 1) (fun k => k ≤ (ownR o 1).n) (fun k => (ownR o 1).n - k) (fun _ e J => e = .exit 2 ∧ J = owE o 1) 8 owLs [] (mkE Try.prog tab_own) (fun _ => hnd (mkE Try.prog tab_own) 0) (loopIn (bodyK Try.f14 0)) := by
  refine ⟨fun k g hk => ⟨den_of (ow_1 o k g) ?_⟩⟩
  refine den_br (fun h => ?_) (fun h => ?_)
  · have h : k < (ownR o 1).n := by have := of_decide_eq_true h; omega
    have e : (ovr 1 k 1 (ownR o 1)).n = (ownR o 1).n := rfl
    refine den_need (by simp only [ownR] at e h ⊢; rw [e]; simp; omega) (den_need (by simp only [ownR] at e h ⊢; rw [e]; simp; omega) ?_)
    have hw : IntKind.i64.wrap ((k : Int) + 1) = ((k + 1 : Nat) : Int) := (w64 (by omega) (by omega)).trans (by omega)
    refine ⟨k + 1, h, by show (ownR o 1).n - (k + 1) < (ownR o 1).n - k; omega, fun e J h => h, rfl, rfl, _, ow_g1 o k (k + 1), ?_⟩
    repeat' first | exact trivial | with_reducible rfl | exact Nat.le_refl _ | exact hw | exact fill_step _ _ _ | exact RowsEq.refl _ _ _ | refine And.intro ?_ ?_
  · have h : k = (ownR o 1).n := by have := of_decide_eq_false h; omega
    subst h
    refine ⟨_, ⟨rfl, rfl⟩, rfl, rfl, _, ow_e1 o _, ?_⟩
    repeat' first | exact trivial | with_reducible rfl | exact Nat.le_refl _ | exact RowsEq.refl _ _ _ | refine And.intro ?_ ?_
set_option maxRecDepth 100000 in
theorem ow_round2 (o : Own) (hn : (ownR o 2).n ≤ 1000) : RoundW (owJ o 2) (fun k => k ≤ (ownR o 2).n) (fun k => (ownR o 2).n - k) (fun _ e J => e = .exit 2 ∧ J = owE o 2) 8 owLs [] (mkE Try.prog tab_own) (fun _ => hnd (mkE Try.prog tab_own) 0) (loopIn (bodyK Try.f14 0)) := by
  refine ⟨fun k g hk => ⟨den_of (ow_2 o k g) ?_⟩⟩
  refine den_br (fun h => ?_) (fun h => ?_)
  · have h : k < (ownR o 2).n := by have := of_decide_eq_true h; omega
    have e : (ovr 2 k 2 (ownR o 2)).n = (ownR o 2).n := rfl
    refine den_need (by simp only [ownR] at e h ⊢; rw [e]; simp; omega) (den_need (by simp only [ownR] at e h ⊢; rw [e]; simp; omega) ?_)
    have hw : IntKind.i64.wrap ((k : Int) + 1) = ((k + 1 : Nat) : Int) := (w64 (by omega) (by omega)).trans (by omega)
    refine ⟨k + 1, h, by show (ownR o 2).n - (k + 1) < (ownR o 2).n - k; omega, fun e J h => h, rfl, rfl, _, ow_g2 o k (k + 1), ?_⟩
    repeat' first | exact trivial | with_reducible rfl | exact Nat.le_refl _ | exact hw | exact fill_step _ _ _ | exact RowsEq.refl _ _ _ | refine And.intro ?_ ?_
  · have h : k = (ownR o 2).n := by have := of_decide_eq_false h; omega
    subst h
    refine ⟨_, ⟨rfl, rfl⟩, rfl, rfl, _, ow_e2 o _, ?_⟩
    repeat' first | exact trivial | with_reducible rfl | exact Nat.le_refl _ | exact RowsEq.refl _ _ _ | refine And.intro ?_ ?_
set_option maxRecDepth 100000 in
theorem ow_round3 (o : Own) (hn : (ownR o 3).n ≤ 1000) : RoundW (owJ o 3) (fun k => k ≤ (ownR o 3).n) (fun k => (ownR o 3).n - k) (fun _ e J => e = .exit 2 ∧ J = owE o 3) 8 owLs [] (mkE Try.prog tab_own) (fun _ => hnd (mkE Try.prog tab_own) 0) (loopIn (bodyK Try.f14 0)) := by
  refine ⟨fun k g hk => ⟨den_of (ow_3 o k g) ?_⟩⟩
  refine den_br (fun h => ?_) (fun h => ?_)
  · have h : k < (ownR o 3).n := by have := of_decide_eq_true h; omega
    have e : (ovr 3 k 3 (ownR o 3)).n = (ownR o 3).n := rfl
    refine den_need (by simp only [ownR] at e h ⊢; rw [e]; simp; omega) (den_need (by simp only [ownR] at e h ⊢; rw [e]; simp; omega) ?_)
    have hw : IntKind.i64.wrap ((k : Int) + 1) = ((k + 1 : Nat) : Int) := (w64 (by omega) (by omega)).trans (by omega)
    refine ⟨k + 1, h, by show (ownR o 3).n - (k + 1) < (ownR o 3).n - k; omega, fun e J h => h, rfl, rfl, _, ow_g3 o k (k + 1), ?_⟩
    repeat' first | exact trivial | with_reducible rfl | exact Nat.le_refl _ | exact hw | exact fill_step _ _ _ | exact RowsEq.refl _ _ _ | refine And.intro ?_ ?_
  · have h : k = (ownR o 3).n := by have := of_decide_eq_false h; omega
    subst h
    refine ⟨_, ⟨rfl, rfl⟩, rfl, rfl, _, ow_e3 o _, ?_⟩
    repeat' first | exact trivial | with_reducible rfl | exact Nat.le_refl _ | exact RowsEq.refl _ _ _ | refine And.intro ?_ ?_
set_option maxRecDepth 100000 in
theorem o2_round1 (o : Own) (hn : o.l.n ≤ 1000) : RoundW (o2J o 115 116 o.l.n) (fun k => k ≤ o.l.n) (fun k => o.l.n - k) (fun _ e J => e = .exit 4 ∧ J = o2E o) 8 (o2Ls 115 116) [] (mkE Try.prog tab_own) (fun _ => hnd (mkE Try.prog tab_own) 0) (bodyK Try.f14 1) := by
  refine ⟨fun k g hk => ⟨den_of (o2_1 o k g) ?_⟩⟩
  refine den_br (fun h => ?_) (fun h => ?_)
  · have h : k < o.l.n := by have := of_decide_eq_true h; omega
    repeat' refine den_need (by simp; omega) ?_
    refine den_br (fun h => by simp at h) (fun _ => ?_)
    have hw : IntKind.i64.wrap ((k : Int) + 1) = ((k + 1 : Nat) : Int) := (w64 (by omega) (by omega)).trans (by omega)
    refine ⟨k + 1, h, by show o.l.n - (k + 1) < o.l.n - k; omega, fun e J h => h, rfl, rfl, _, o2_g1 o k (k + 1), ?_⟩
    repeat' first | exact trivial | with_reducible rfl | exact Nat.le_refl _ | exact hw | exact RowsEq.refl _ _ _ | refine And.intro ?_ ?_
  · refine ⟨_, ⟨rfl, rfl⟩, rfl, rfl, _, o2_e1 o, ?_⟩
    repeat' first | exact trivial | with_reducible rfl | exact Nat.le_refl _ | exact RowsEq.refl _ _ _ | refine And.intro ?_ ?_
set_option maxRecDepth 100000 in
theorem o2_round2 (o : Own) (hn : o.tabs.n ≤ 1000) : RoundW (o2J o 130 131 o.tabs.n) (fun k => k ≤ o.tabs.n) (fun k => o.tabs.n - k) (fun _ e J => e = .exit 6 ∧ J = o2E o) 8 (o2Ls 130 131) [] (mkE Try.prog tab_own) (fun _ => hnd (mkE Try.prog tab_own) 0) (bodyK Try.f14 2) := by
  refine ⟨fun k g hk => ⟨den_of (o2_2 o k g) ?_⟩⟩
  refine den_br (fun h => ?_) (fun h => ?_)
  · have h : k < o.tabs.n := by have := of_decide_eq_true h; omega
    repeat' refine den_need (by simp; omega) ?_
    refine den_br (fun h => by simp at h) (fun _ => ?_)
    have hw : IntKind.i64.wrap ((k : Int) + 1) = ((k + 1 : Nat) : Int) := (w64 (by omega) (by omega)).trans (by omega)
    refine ⟨k + 1, h, by show o.tabs.n - (k + 1) < o.tabs.n - k; omega, fun e J h => h, rfl, rfl, _, o2_g2 o k (k + 1), ?_⟩
    repeat' first | exact trivial | with_reducible rfl | exact Nat.le_refl _ | exact hw | exact RowsEq.refl _ _ _ | refine And.intro ?_ ?_
  · refine ⟨_, ⟨rfl, rfl⟩, rfl, rfl, _, o2_e2 o, ?_⟩
    repeat' first | exact trivial | with_reducible rfl | exact Nat.le_refl _ | exact RowsEq.refl _ _ _ | refine And.intro ?_ ?_
set_option maxRecDepth 100000 in
theorem o2_round3 (o : Own) (hn : o.holes.n ≤ 1000) : RoundW (o2J o 145 146 o.holes.n) (fun k => k ≤ o.holes.n) (fun k => o.holes.n - k) (fun _ e J => e = .exit 8 ∧ J = o2E o) 8 (o2Ls 145 146) [] (mkE Try.prog tab_own) (fun _ => hnd (mkE Try.prog tab_own) 0) (bodyK Try.f14 3) := by
  refine ⟨fun k g hk => ⟨den_of (o2_3 o k g) ?_⟩⟩
  refine den_br (fun h => ?_) (fun h => ?_)
  · have h : k < o.holes.n := by have := of_decide_eq_true h; omega
    repeat' refine den_need (by simp; omega) ?_
    refine den_br (fun h => by simp at h) (fun _ => ?_)
    have hw : IntKind.i64.wrap ((k : Int) + 1) = ((k + 1 : Nat) : Int) := (w64 (by omega) (by omega)).trans (by omega)
    refine ⟨k + 1, h, by show o.holes.n - (k + 1) < o.holes.n - k; omega, fun e J h => h, rfl, rfl, _, o2_g3 o k (k + 1), ?_⟩
    repeat' first | exact trivial | with_reducible rfl | exact Nat.le_refl _ | exact hw | exact RowsEq.refl _ _ _ | refine And.intro ?_ ?_
  · refine ⟨_, ⟨rfl, rfl⟩, rfl, rfl, _, o2_e3 o, ?_⟩
    repeat' first | exact trivial | with_reducible rfl | exact Nat.le_refl _ | exact RowsEq.refl _ _ _ | refine And.intro ?_ ?_
end Go.Proofs.Ytdaanchagjamfaa
