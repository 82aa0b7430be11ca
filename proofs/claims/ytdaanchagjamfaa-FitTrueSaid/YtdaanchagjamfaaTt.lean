/- The law FitTrue, of the code: its tree. -/
import Derived.Test.YtdaanchagjamfaaTs
import Derived.Test.YtdaanchagjamfaaPf
namespace Go.Proofs.Ytdaanchagjamfaa
open Go.SX

set_option maxRecDepth 100000 in
set_option maxHeartbeats 20000000 in
theorem fitTrue_den (p : Play) (a b : Edge) (w : Sp) (k : Int) (n : Nat) (g : Nat → Int) : DenOk (fun v _ => ∀ r, v.den r = .bool true) (execFn (mkB Try.prog (tabT Try.prog) [39]) (hnd (mkB Try.prog (tabT Try.prog) [39]) 8) false Try.f7 [Enc.enc p, Enc.enc a, Enc.enc b, Enc.enc w, .int false .i64 k, .slice false 0 0 n (.of 0)] [(0, .arr 1 n fun i => [.int false .u16 (g i)])] 1) := by
  refine ⟨?_⟩
  rw [fitTrue_t]
  by_cases hok : (n ≠ 0 ∧ p.ok = true) ∧ a.ok = true ∧ b.ok = true
  rotate_left
  · repeat' first | refine den_need rfl ?_ | refine den_need (by grind) ?_ | refine den_bnd fun x hx => ?_
    refine den_br (fun _ _ => rfl) (fun hx => ?_)
    exfalso
    grind
  obtain ⟨⟨hn0, hpk⟩, ha, hb⟩ := hok
  have hn : 0 < n := by omega
  have eF : FitF p a b = (fitsF p a b, 0) := by unfold FitF; rw [if_pos ⟨hpk, ha, hb⟩]
  have hpi := hpk
  rw [Play.ok_iff] at hpi
  rw [eF, w64 (n := 1000 * p.slack) (by omega) (by omega), w64 (n := -1000 * p.slack) (by omega) (by omega), w64 (n := 1000 * p.loose) (by omega) (by omega)]
  by_cases kA : a.kind = 1 ∧ b.kind = 2
  ·
    have ht : a.ok = true := ha
    have hh : b.ok = true := hb
    have ti := ht
    rw [Edge.ok_iff] at ti
    have hi := hh
    rw [Edge.ok_iff] at hi
    have eB : BetweenF p a b = (gapOf p a b, 0) := by unfold BetweenF; rw [if_pos ⟨hpk, ha, hb⟩, if_pos kA]
    have eV : fitsF p a b = verd p a b := by unfold fitsF; rw [if_neg (by omega), if_pos kA]
    have gb := gap_bd hpk ht hh kA.1 kA.2
    have vc := verd_cases p a b
    have T := fun m u1 u2 v1 v2 w1 w2 => tru (m := m) (u1 := u1) (u2 := u2) (v1 := v1) (v2 := v2) (w1 := w1) (w2 := w2) hpk ht hh kA.1 kA.2
    rw [eB, eV]
    clear eB eV
    generalize gapOf p a b = G at *
    generalize verd p a b = V at *
    unfold Sm at gb
    rw [w64 (n := 1000 * G.off.lo) (by omega) (by omega)]
    rw [w64 (n := 1000 * G.off.hi) (by omega) (by omega)]
    rw [w64 (n := 1000 * G.wide.lo) (by omega) (by omega)]
    rw [w64 (n := 1000 * G.wide.hi) (by omega) (by omega)]
    rw [w64 (n := 1000 * G.deep.lo) (by omega) (by omega)]
    rw [w64 (n := 1000 * G.deep.hi) (by omega) (by omega)]
    repeat' first | refine den_need rfl ?_ | refine den_need (by grind) ?_ | refine den_bnd fun x hx => ?_
    refine den_br (fun hx => by exfalso; grind) (fun _ => ?_)
    repeat' first | refine den_need rfl ?_ | refine den_need (by grind) ?_ | refine den_bnd fun x hx => ?_
    refine den_br (fun _ => ?_) (fun hx => by exfalso; grind)
    repeat' first | refine den_need rfl ?_ | refine den_need (by grind) ?_ | refine den_bnd fun x hx => ?_
    refine den_br (fun hx => by exfalso; grind) (fun _ => ?_)
    refine den_draw hn (by decide) (by omega) (by omega) (by omega) fun m m0 m1 => ?_
    refine den_draw hn (by decide) (by omega) (by omega) (by omega) fun u1 u10 u11 => ?_
    refine den_draw hn (by decide) (by omega) (by omega) (by omega) fun u2 u20 u21 => ?_
    refine den_bndI fun x0 h0 => ?_
    refine den_draw hn (by decide) (by omega) (by omega) (by omega) fun v2 v20 v21 => ?_
    refine den_draw hn (by decide) (by omega) (by omega) (by omega) fun v1 v10 v11 => ?_
    refine den_bndI fun x1 h1 => ?_
    refine den_draw hn (by decide) (by omega) (by omega) (by omega) fun w2 w20 w21 => ?_
    refine den_draw hn (by decide) (by omega) (by omega) (by omega) fun w1 w10 w11 => ?_
    refine den_bndI fun x2 h2 => ?_
    obtain ⟨n1, n2⟩ := mul_sm (a := u1 + u2 - p.length) (m := 1000 + m) (by omega) (by omega) (by omega) (by omega)
    obtain ⟨n3, n4⟩ := mul_sm (a := v2 - v1) (m := 1000 + m) (by omega) (by omega) (by omega) (by omega)
    obtain ⟨n5, n6⟩ := mul_sm (a := w2 - w1) (m := 1000 + m) (by omega) (by omega) (by omega) (by omega)
    rw [w64 (n := u1 + u2) (by omega) (by omega), w64 (n := u1 + u2 - p.length) (by omega) (by omega), w64 (n := 1000 + m) (by omega) (by omega), w64 (by omega) (by omega)] at h0
    rw [w64 (n := v2 - v1) (by omega) (by omega), w64 (n := 1000 + m) (by omega) (by omega), w64 (by omega) (by omega)] at h1
    rw [w64 (n := w2 - w1) (by omega) (by omega), w64 (n := 1000 + m) (by omega) (by omega), w64 (by omega) (by omega)] at h2
    obtain ⟨T1, T2, T3⟩ := T m u1 u2 v1 v2 w1 w2 ⟨m0, m1⟩ ⟨u10, u11⟩ ⟨u20, u21⟩ ⟨v20, v21⟩ ⟨v10, v11⟩ ⟨w20, w21⟩ ⟨w10, w11⟩
    rw [← h0, ← h1, ← h2] at T1 T2 T3
    unfold InGap at T3
    clear T h0 h1 h2 n1 n2 n3 n4 n5 n6 ti hi gb hpi m0 m1 u10 u11 u20 u21 v10 v11 v20 v21 w10 w11 w20 w21
    refine den_bndI fun y15 h15 => ?_
    subst h15
    repeat' first | refine den_need rfl ?_ | refine den_need (by grind) ?_
    refine den_bnd fun b1 k1 => ?_
    repeat' first | refine den_need rfl ?_ | refine den_need (by grind) ?_
    refine den_bnd fun b2 k2 => ?_
    repeat' first | refine den_need rfl ?_ | refine den_need (by grind) ?_
    refine den_bnd fun b3 k3 => ?_
    repeat' first | refine den_need rfl ?_ | refine den_need (by grind) ?_
    refine den_bnd fun b4 k4 => ?_
    repeat' first | refine den_need rfl ?_ | refine den_need (by grind) ?_
    refine den_bnd fun b5 k5 => ?_
    repeat' first | refine den_need rfl ?_ | refine den_need (by grind) ?_
    refine den_bnd fun c1 q1 => ?_
    repeat' first | refine den_need rfl ?_ | refine den_need (by grind) ?_
    refine den_bnd fun c2 q2 => ?_
    repeat' first | refine den_need rfl ?_ | refine den_need (by grind) ?_
    refine den_bnd fun c3 q3 => ?_
    repeat' first | refine den_need rfl ?_ | refine den_need (by grind) ?_
    refine den_bnd fun c4 q4 => ?_
    repeat' first | refine den_need rfl ?_ | refine den_need (by grind) ?_
    refine den_bnd fun c5 q5 => ?_
    refine den_br (fun hx => by rw [bad_no vc T1 T2 k1 k2 k3 k4 k5 q1 q2 q3 q4 q5] at hx; cases hx) (fun _ => ?_)
    clear T1 T2 k1 k2 k3 k4 k5 q1 q2 q3 q4 q5
    refine den_bndI fun z0 hz0 => ?_
    repeat' first | refine den_need rfl ?_ | refine den_need (by grind) ?_ | refine den_bnd fun x hx => ?_
    refine den_br (fun hx => by exfalso; grind) (fun _ => ?_)
    refine den_bndI fun z1 hz1 => ?_
    repeat' first | refine den_need rfl ?_ | refine den_need (by grind) ?_ | refine den_bnd fun x hx => ?_
    refine den_br (fun hx => by exfalso; grind) (fun _ => ?_)
    refine den_bndI fun z2 hz2 => ?_
    repeat' first | refine den_need rfl ?_ | refine den_need (by grind) ?_ | refine den_bnd fun x hx => ?_
    refine den_br (fun hx => by exfalso; grind) (fun _ => ?_)
    clear T3
    have hne : a.kind ≠ 0 := by omega
    have ai := ha
    rw [Edge.ok_iff] at ai
    refine den_need rfl ?_
    by_cases hw0 : (WornF a w k).2 = 0
    · obtain ⟨_, hwi, _, hk, hin, e⟩ := worn_ok hw0
      have e2 : WornF a w k = (a.worn w k, 0) := Prod.ext e hw0
      rw [Sp.isIn_iff] at hwi hin
      simp only [e2, show (a.worn w k).kind = a.kind from rfl, show (a.worn w k).at_ = a.at_ from rfl, show (a.worn w k).deep = a.deep from rfl]
      rw [w64 (n := 1000 * (a.worn w k).wide.lo) (by omega) (by omega), w64 (n := 1000 * (a.worn w k).wide.hi) (by omega) (by omega)]
      have W := fun y z => worn_at (s := a) (w := w) (k := k) (y := y) (z := z)
      generalize (a.worn w k).wide = V at *
      clear e e2 hw0
      refine den_br (fun hx => by cases hx) (fun _ => ?_)
      repeat' first | refine den_need rfl ?_ | refine den_need (by grind) ?_
      refine den_bnd fun b1 k1 => ?_
      repeat' first | refine den_need rfl ?_ | refine den_need (by grind) ?_
      refine den_bnd fun b2 k2 => ?_
      repeat' first | refine den_need rfl ?_ | refine den_need (by grind) ?_
      refine den_bnd fun b3 k3 => ?_
      repeat' first | refine den_need rfl ?_ | refine den_need (by grind) ?_
      refine den_bnd fun b4 k4 => ?_
      refine den_br (fun hx => by
        exfalso
        subst k1 k2 k3 k4
        simp only [Bool.or_eq_true, decide_eq_true_eq] at hx
        omega) (fun _ => ?_)
      clear k1 k2 k3 k4
      refine den_draw hn (by decide) (by omega) (by omega) (by omega) fun y yl yh => ?_
      refine den_bndI fun y4 hy4 => ?_
      rw [w64 (n := 1000 * y) (by omega) (by omega)] at hy4
      refine den_br (fun hk1 => ?_) (fun hk1 => ?_)
      · refine den_draw hn (by decide) (by omega) (by omega) (by omega) fun z zl zh => ?_
        refine den_bndI fun y5 hy5 => ?_
        obtain ⟨b0, b1⟩ := mul_bd (a := z) (n := k) (by omega) (by omega) (by omega) (by omega)
        rw [w64 (n := z * k) (by omega) (by omega)] at hy5
        have W1 := (W y z ⟨yl, yh⟩ ⟨zl, zh⟩ hk.1).1 (by simpa using hk1)
        rw [← hy5] at W1 b0 b1
        rw [w64 (n := y4 - y5) (by omega) (by omega)]
        repeat' first | refine den_need rfl ?_ | refine den_need (by grind) ?_ | refine den_bnd fun x hx => ?_
        intro r
        have : x = true := by first | grind | (subst_vars; simp; omega)
        rw [this]; rfl
      · refine den_draw hn (by decide) (by omega) (by omega) (by omega) fun z zl zh => ?_
        refine den_bndI fun y5 hy5 => ?_
        obtain ⟨b0, b1⟩ := mul_bd (a := z) (n := k) (by omega) (by omega) (by omega) (by omega)
        rw [w64 (n := z * k) (by omega) (by omega)] at hy5
        have W1 := (W y z ⟨yl, yh⟩ ⟨zl, zh⟩ hk.1).2 (by simpa using hk1)
        rw [← hy5] at W1 b0 b1
        rw [w64 (n := y4 + y5) (by omega) (by omega)]
        repeat' first | refine den_need rfl ?_ | refine den_need (by grind) ?_ | refine den_bnd fun x hx => ?_
        intro r
        have : x = true := by first | grind | (subst_vars; simp; omega)
        rw [this]; rfl
    · have e : WornF a w k = (Edge.zero, 2) ∨ WornF a w k = (Edge.zero, 11) := by
        unfold WornF at hw0 ⊢
        rw [if_pos ha] at hw0 ⊢
        by_cases g1 : w.isIn 0 100 = true ∧ within k 0 20000 = true
        · rw [if_pos g1, if_neg hne] at hw0 ⊢
          by_cases g2 : (a.worn w k).wide.isIn 1 3000 = true
          · rw [if_pos g2] at hw0; exact absurd rfl hw0
          · rw [if_neg g2]; exact .inr rfl
        · rw [if_neg g1]; exact .inl rfl
      refine den_br (fun _ => ?_) (fun hx => by exfalso; simp at hx; exact hw0 hx)
      rcases e with e | e
      · simp only [e, Edge.zero]
        repeat' first | refine den_need rfl ?_ | refine den_need (by grind) ?_ | refine den_bnd fun x hx => ?_
        intro r
        have : x = true := by first | grind | (subst_vars; simp; omega)
        rw [this]; rfl
      · simp only [e, Edge.zero]
        repeat' first | refine den_need rfl ?_ | refine den_need (by grind) ?_ | refine den_bnd fun x hx => ?_
        intro r
        have : x = true := by first | grind | (subst_vars; simp; omega)
        rw [this]; rfl
  by_cases kA : b.kind = 1 ∧ a.kind = 2
  ·
    have ht : b.ok = true := hb
    have hh : a.ok = true := ha
    have ti := ht
    rw [Edge.ok_iff] at ti
    have hi := hh
    rw [Edge.ok_iff] at hi
    have eB : BetweenF p a b = (gapOf p b a, 0) := by unfold BetweenF; rw [if_pos ⟨hpk, ha, hb⟩, if_neg (by omega), if_pos kA]
    have eV : fitsF p a b = verd p b a := by unfold fitsF; rw [if_pos kA.2, if_pos kA.1]
    have gb := gap_bd hpk ht hh kA.1 kA.2
    have vc := verd_cases p b a
    have T := fun m u1 u2 v1 v2 w1 w2 => tru (m := m) (u1 := u1) (u2 := u2) (v1 := v1) (v2 := v2) (w1 := w1) (w2 := w2) hpk ht hh kA.1 kA.2
    rw [eB, eV]
    clear eB eV
    generalize gapOf p b a = G at *
    generalize verd p b a = V at *
    unfold Sm at gb
    rw [w64 (n := 1000 * G.off.lo) (by omega) (by omega)]
    rw [w64 (n := 1000 * G.off.hi) (by omega) (by omega)]
    rw [w64 (n := 1000 * G.wide.lo) (by omega) (by omega)]
    rw [w64 (n := 1000 * G.wide.hi) (by omega) (by omega)]
    rw [w64 (n := 1000 * G.deep.lo) (by omega) (by omega)]
    rw [w64 (n := 1000 * G.deep.hi) (by omega) (by omega)]
    repeat' first | refine den_need rfl ?_ | refine den_need (by grind) ?_ | refine den_bnd fun x hx => ?_
    refine den_br (fun hx => by exfalso; grind) (fun _ => ?_)
    repeat' first | refine den_need rfl ?_ | refine den_need (by grind) ?_ | refine den_bnd fun x hx => ?_
    refine den_br (fun hx => by exfalso; grind) (fun _ => ?_)
    repeat' first | refine den_need rfl ?_ | refine den_need (by grind) ?_ | refine den_bnd fun x hx => ?_
    refine den_br (fun _ => ?_) (fun hx => by exfalso; grind)
    repeat' first | refine den_need rfl ?_ | refine den_need (by grind) ?_ | refine den_bnd fun x hx => ?_
    refine den_br (fun hx => by exfalso; grind) (fun _ => ?_)
    refine den_draw hn (by decide) (by omega) (by omega) (by omega) fun m m0 m1 => ?_
    refine den_draw hn (by decide) (by omega) (by omega) (by omega) fun u1 u10 u11 => ?_
    refine den_draw hn (by decide) (by omega) (by omega) (by omega) fun u2 u20 u21 => ?_
    refine den_bndI fun x0 h0 => ?_
    refine den_draw hn (by decide) (by omega) (by omega) (by omega) fun v2 v20 v21 => ?_
    refine den_draw hn (by decide) (by omega) (by omega) (by omega) fun v1 v10 v11 => ?_
    refine den_bndI fun x1 h1 => ?_
    refine den_draw hn (by decide) (by omega) (by omega) (by omega) fun w2 w20 w21 => ?_
    refine den_draw hn (by decide) (by omega) (by omega) (by omega) fun w1 w10 w11 => ?_
    refine den_bndI fun x2 h2 => ?_
    obtain ⟨n1, n2⟩ := mul_sm (a := u1 + u2 - p.length) (m := 1000 + m) (by omega) (by omega) (by omega) (by omega)
    obtain ⟨n3, n4⟩ := mul_sm (a := v2 - v1) (m := 1000 + m) (by omega) (by omega) (by omega) (by omega)
    obtain ⟨n5, n6⟩ := mul_sm (a := w2 - w1) (m := 1000 + m) (by omega) (by omega) (by omega) (by omega)
    rw [w64 (n := u1 + u2) (by omega) (by omega), w64 (n := u1 + u2 - p.length) (by omega) (by omega), w64 (n := 1000 + m) (by omega) (by omega), w64 (by omega) (by omega)] at h0
    rw [w64 (n := v2 - v1) (by omega) (by omega), w64 (n := 1000 + m) (by omega) (by omega), w64 (by omega) (by omega)] at h1
    rw [w64 (n := w2 - w1) (by omega) (by omega), w64 (n := 1000 + m) (by omega) (by omega), w64 (by omega) (by omega)] at h2
    obtain ⟨T1, T2, T3⟩ := T m u1 u2 v1 v2 w1 w2 ⟨m0, m1⟩ ⟨u10, u11⟩ ⟨u20, u21⟩ ⟨v20, v21⟩ ⟨v10, v11⟩ ⟨w20, w21⟩ ⟨w10, w11⟩
    rw [← h0, ← h1, ← h2] at T1 T2 T3
    unfold InGap at T3
    clear T h0 h1 h2 n1 n2 n3 n4 n5 n6 ti hi gb hpi m0 m1 u10 u11 u20 u21 v10 v11 v20 v21 w10 w11 w20 w21
    refine den_bndI fun y15 h15 => ?_
    subst h15
    repeat' first | refine den_need rfl ?_ | refine den_need (by grind) ?_
    refine den_bnd fun b1 k1 => ?_
    repeat' first | refine den_need rfl ?_ | refine den_need (by grind) ?_
    refine den_bnd fun b2 k2 => ?_
    repeat' first | refine den_need rfl ?_ | refine den_need (by grind) ?_
    refine den_bnd fun b3 k3 => ?_
    repeat' first | refine den_need rfl ?_ | refine den_need (by grind) ?_
    refine den_bnd fun b4 k4 => ?_
    repeat' first | refine den_need rfl ?_ | refine den_need (by grind) ?_
    refine den_bnd fun b5 k5 => ?_
    repeat' first | refine den_need rfl ?_ | refine den_need (by grind) ?_
    refine den_bnd fun c1 q1 => ?_
    repeat' first | refine den_need rfl ?_ | refine den_need (by grind) ?_
    refine den_bnd fun c2 q2 => ?_
    repeat' first | refine den_need rfl ?_ | refine den_need (by grind) ?_
    refine den_bnd fun c3 q3 => ?_
    repeat' first | refine den_need rfl ?_ | refine den_need (by grind) ?_
    refine den_bnd fun c4 q4 => ?_
    repeat' first | refine den_need rfl ?_ | refine den_need (by grind) ?_
    refine den_bnd fun c5 q5 => ?_
    refine den_br (fun hx => by rw [bad_no vc T1 T2 k1 k2 k3 k4 k5 q1 q2 q3 q4 q5] at hx; cases hx) (fun _ => ?_)
    clear T1 T2 k1 k2 k3 k4 k5 q1 q2 q3 q4 q5
    refine den_bndI fun z0 hz0 => ?_
    repeat' first | refine den_need rfl ?_ | refine den_need (by grind) ?_ | refine den_bnd fun x hx => ?_
    refine den_br (fun hx => by exfalso; grind) (fun _ => ?_)
    refine den_bndI fun z1 hz1 => ?_
    repeat' first | refine den_need rfl ?_ | refine den_need (by grind) ?_ | refine den_bnd fun x hx => ?_
    refine den_br (fun hx => by exfalso; grind) (fun _ => ?_)
    refine den_bndI fun z2 hz2 => ?_
    repeat' first | refine den_need rfl ?_ | refine den_need (by grind) ?_ | refine den_bnd fun x hx => ?_
    refine den_br (fun hx => by exfalso; grind) (fun _ => ?_)
    clear T3
    have hne : a.kind ≠ 0 := by omega
    have ai := ha
    rw [Edge.ok_iff] at ai
    refine den_need rfl ?_
    by_cases hw0 : (WornF a w k).2 = 0
    · obtain ⟨_, hwi, _, hk, hin, e⟩ := worn_ok hw0
      have e2 : WornF a w k = (a.worn w k, 0) := Prod.ext e hw0
      rw [Sp.isIn_iff] at hwi hin
      simp only [e2, show (a.worn w k).kind = a.kind from rfl, show (a.worn w k).at_ = a.at_ from rfl, show (a.worn w k).deep = a.deep from rfl]
      rw [w64 (n := 1000 * (a.worn w k).wide.lo) (by omega) (by omega), w64 (n := 1000 * (a.worn w k).wide.hi) (by omega) (by omega)]
      have W := fun y z => worn_at (s := a) (w := w) (k := k) (y := y) (z := z)
      generalize (a.worn w k).wide = V at *
      clear e e2 hw0
      refine den_br (fun hx => by cases hx) (fun _ => ?_)
      repeat' first | refine den_need rfl ?_ | refine den_need (by grind) ?_
      refine den_bnd fun b1 k1 => ?_
      repeat' first | refine den_need rfl ?_ | refine den_need (by grind) ?_
      refine den_bnd fun b2 k2 => ?_
      repeat' first | refine den_need rfl ?_ | refine den_need (by grind) ?_
      refine den_bnd fun b3 k3 => ?_
      repeat' first | refine den_need rfl ?_ | refine den_need (by grind) ?_
      refine den_bnd fun b4 k4 => ?_
      refine den_br (fun hx => by
        exfalso
        subst k1 k2 k3 k4
        simp only [Bool.or_eq_true, decide_eq_true_eq] at hx
        omega) (fun _ => ?_)
      clear k1 k2 k3 k4
      refine den_draw hn (by decide) (by omega) (by omega) (by omega) fun y yl yh => ?_
      refine den_bndI fun y4 hy4 => ?_
      rw [w64 (n := 1000 * y) (by omega) (by omega)] at hy4
      refine den_br (fun hk1 => ?_) (fun hk1 => ?_)
      · refine den_draw hn (by decide) (by omega) (by omega) (by omega) fun z zl zh => ?_
        refine den_bndI fun y5 hy5 => ?_
        obtain ⟨b0, b1⟩ := mul_bd (a := z) (n := k) (by omega) (by omega) (by omega) (by omega)
        rw [w64 (n := z * k) (by omega) (by omega)] at hy5
        have W1 := (W y z ⟨yl, yh⟩ ⟨zl, zh⟩ hk.1).1 (by simpa using hk1)
        rw [← hy5] at W1 b0 b1
        rw [w64 (n := y4 - y5) (by omega) (by omega)]
        repeat' first | refine den_need rfl ?_ | refine den_need (by grind) ?_ | refine den_bnd fun x hx => ?_
        intro r
        have : x = true := by first | grind | (subst_vars; simp; omega)
        rw [this]; rfl
      · refine den_draw hn (by decide) (by omega) (by omega) (by omega) fun z zl zh => ?_
        refine den_bndI fun y5 hy5 => ?_
        obtain ⟨b0, b1⟩ := mul_bd (a := z) (n := k) (by omega) (by omega) (by omega) (by omega)
        rw [w64 (n := z * k) (by omega) (by omega)] at hy5
        have W1 := (W y z ⟨yl, yh⟩ ⟨zl, zh⟩ hk.1).2 (by simpa using hk1)
        rw [← hy5] at W1 b0 b1
        rw [w64 (n := y4 + y5) (by omega) (by omega)]
        repeat' first | refine den_need rfl ?_ | refine den_need (by grind) ?_ | refine den_bnd fun x hx => ?_
        intro r
        have : x = true := by first | grind | (subst_vars; simp; omega)
        rw [this]; rfl
    · have e : WornF a w k = (Edge.zero, 2) ∨ WornF a w k = (Edge.zero, 11) := by
        unfold WornF at hw0 ⊢
        rw [if_pos ha] at hw0 ⊢
        by_cases g1 : w.isIn 0 100 = true ∧ within k 0 20000 = true
        · rw [if_pos g1, if_neg hne] at hw0 ⊢
          by_cases g2 : (a.worn w k).wide.isIn 1 3000 = true
          · rw [if_pos g2] at hw0; exact absurd rfl hw0
          · rw [if_neg g2]; exact .inr rfl
        · rw [if_neg g1]; exact .inl rfl
      refine den_br (fun _ => ?_) (fun hx => by exfalso; simp at hx; exact hw0 hx)
      rcases e with e | e
      · simp only [e, Edge.zero]
        repeat' first | refine den_need rfl ?_ | refine den_need (by grind) ?_ | refine den_bnd fun x hx => ?_
        intro r
        have : x = true := by first | grind | (subst_vars; simp; omega)
        rw [this]; rfl
      · simp only [e, Edge.zero]
        repeat' first | refine den_need rfl ?_ | refine den_need (by grind) ?_ | refine den_bnd fun x hx => ?_
        intro r
        have : x = true := by first | grind | (subst_vars; simp; omega)
        rw [this]; rfl
  · have eB : BetweenF p a b = (Gap.zero, 6) := by unfold BetweenF; rw [if_pos ⟨hpk, ha, hb⟩, if_neg (by assumption), if_neg kA]
    have eV : fitsF p a b = 0 := by
      unfold fitsF
      by_cases a2 : a.kind = 2
      · rw [if_pos a2]
        by_cases b1 : b.kind = 1
        · exact absurd ⟨b1, a2⟩ kA
        · rw [if_neg b1]
      · rw [if_neg a2, if_neg (by assumption)]
    rw [eB, eV]
    simp only [Gap.zero]
    repeat' first | refine den_need rfl ?_ | refine den_need (by grind) ?_ | refine den_bnd fun x hx => ?_
    refine den_br (fun hx => by exfalso; grind) (fun _ => ?_)
    repeat' first | refine den_need rfl ?_ | refine den_need (by grind) ?_ | refine den_bnd fun x hx => ?_
    refine den_br (fun hx => by exfalso; grind) (fun _ => ?_)
    repeat' first | refine den_need rfl ?_ | refine den_need (by grind) ?_ | refine den_bnd fun x hx => ?_
    refine den_br (fun hx => by exfalso; grind) (fun _ => ?_)
    repeat' first | refine den_need rfl ?_ | refine den_need (by grind) ?_ | refine den_bnd fun x hx => ?_
    refine den_br (fun hx => by exfalso; grind) (fun _ => ?_)
    repeat' first | refine den_need rfl ?_ | refine den_need (by grind) ?_ | refine den_bnd fun x hx => ?_
    intro r
    have : x = true := by first | grind | (subst_vars; simp; omega)
    rw [this]; rfl
end Go.Proofs.Ytdaanchagjamfaa
