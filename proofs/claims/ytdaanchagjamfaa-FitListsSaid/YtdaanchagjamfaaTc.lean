/- Fit, Between, Worn, of the program. -/
import Derived.Test.YtdaanchagjamfaaTb
namespace Go.Proofs.Ytdaanchagjamfaa
open Go.SX
def okP (p : Play) (a b : Edge) : Bool := p.ok && (a.ok && b.ok)
instance : Enc Gap where
  enc x := .agg [.int false .i64 x.off.lo, .int false .i64 x.off.hi, .int false .i64 x.wide.lo, .int false .i64 x.wide.hi, .int false .i64 x.deep.lo, .int false .i64 x.deep.hi]
  dec | .agg [.int _ .i64 a0, .int _ .i64 a1, .int _ .i64 a2, .int _ .i64 a3, .int _ .i64 a4, .int _ .i64 a5] => some ⟨⟨a0, a1⟩, ⟨a2, a3⟩, ⟨a4, a5⟩⟩ | _ => none
  ok v x h := by
    split at h <;> (try (cases h; done))
    simp only [Option.some.injEq] at h; subst h; exact ⟨fun _ => rfl, rfl⟩
theorem couple_B {p : Play} {a b : Edge} (h1 : p.ok = true) (h2 : a.ok = true) (h3 : b.ok = true) (ha : a.kind = 1) (hb : b.kind = 2) : Couple.B ⟨p, a, b⟩ := ⟨play_B h1, side_B h2 (.inl ha), side_B h3 (.inr hb)⟩
/-- What a tab becomes, and a hole: the wide span after some strokes. -/
def wornSpan (kind : Int) (s w : Sp) (n : Int) : Sp := if kind = 1 then ⟨down (1000 * s.lo - w.hi * n), up (1000 * s.hi - w.lo * n)⟩ else ⟨down (1000 * s.lo + w.lo * n), up (1000 * s.hi + w.hi * n)⟩
def Edge.worn (e : Edge) (w : Sp) (n : Int) : Edge := ⟨e.kind, e.at_, wornSpan e.kind e.wide w n, e.deep⟩
def Edge.zero : Edge := ⟨0, ⟨0, 0⟩, ⟨0, 0⟩, ⟨0, 0⟩⟩
def WornF (s : Edge) (w : Sp) (n : Int) : Edge × Int :=
  if s.ok = true then (if w.isIn 0 100 = true ∧ within n 0 20000 = true then (if s.kind = 0 then (.zero, 6) else if (s.worn w n).wide.isIn 1 3000 = true then (s.worn w n, 0) else (.zero, 11)) else (.zero, 2)) else (.zero, 1)
def WearB (s : Edge) (w : Sp) (n : Int) : Prop := SideB s ∧ (0 ≤ w.lo ∧ w.lo ≤ 100 ∧ 0 ≤ w.hi ∧ w.hi ≤ 100) ∧ 0 ≤ n ∧ n ≤ 20000
instance (s : Edge) (w : Sp) (n : Int) : Decidable (WearB s w n) := by unfold WearB; infer_instance
theorem mul_bd {a n : Int} (h1 : 0 ≤ a) (h2 : a ≤ 100) (h3 : 0 ≤ n) (h4 : n ≤ 20000) : 0 ≤ a * n ∧ a * n ≤ 2000000 := by
  refine ⟨Int.mul_nonneg h1 h3, ?_⟩
  have := Int.mul_le_mul h2 h4 h3 (by omega)
  omega
theorem wear_B {s : Edge} {w : Sp} {n : Int} (h1 : s.ok = true) (h2 : w.isIn 0 100 = true) (h3 : within n 0 20000 = true) (h4 : ¬ s.kind = 0) : WearB s w n := by
  have hk : s.kind = 1 ∨ s.kind = 2 := by rw [Edge.ok_iff] at h1; omega
  refine ⟨side_B h1 hk, ?_, ?_⟩
  · rw [Sp.isIn_iff] at h2; omega
  · simp [within] at h3; omega
def fitsPF : Play × Edge × Edge × Unit → Bool × AV := fun | (p, (a, (b, _))) => (okP p a b, .int false .i64 (fitsF p a b))
def fitsPC : FC := pureFC (pfOf fitsPF)
set_option maxRecDepth 100000 in
theorem fitsP_t (p : Play) (a : Edge) (b : Edge) : execFn (mkE Try.prog tab_verdict) (hnd (mkE Try.prog tab_verdict) 4) false Try.f48 (EncL.enc ((p, a, b, ()) : Play × Edge × Edge × Unit)) [] 0 =
    Tree.br (a.kind == (2 : Int)) (Tree.br (b.kind == (1 : Int)) (Tree.br (a.kind == (2 : Int)) (Tree.need (decide (Couple.mk p b a).B) (Tree.leaf (AV.int false IntKind.i64 (verd p b
    a)) [])) (Tree.leaf (AV.int true IntKind.i64 (0 : Int)) [])) (Tree.leaf (AV.int true IntKind.i64 (0 : Int)) [])) (Tree.br (a.kind == (1 : Int)) (Tree.br (b.kind == (2 : Int))
    (Tree.need (decide (Couple.mk p a b).B) (Tree.leaf (AV.int false IntKind.i64 (verd p a b)) [])) (Tree.leaf (AV.int true IntKind.i64 (0 : Int)) [])) (Tree.leaf (AV.int true
    IntKind.i64 (0 : Int)) [])) := by kernel_rfl
theorem fitsP_s : FSound Try.prog 48 fitsPC := by
  refine plain_fn tab_verdict_ok 4 Try.func48 (by kernel_rfl) (by kernel_rfl) ?_
  rintro ⟨p, a, b, ⟨⟩⟩ hp
  rw [fitsP_t p a b]
  simp only [fitsPF, Tree.den, AV.same, AV.sameL, and_true, true_and] at hp ⊢
  unfold okP at hp
  simp only [Bool.and_eq_true] at hp
  obtain ⟨h1, h2, h3⟩ := hp
  unfold fitsF
  simp only [beq_iff_eq, beq_eq_false_iff_ne]
  refine ⟨fun ha => ⟨fun hb => ?_, fun hb => by rw [if_pos ha, if_neg hb]⟩, fun ha => ⟨fun ha1 => ?_, fun ha1 => by rw [if_neg ha, if_neg (fun h => ha1 h.1)]⟩⟩
  · refine ⟨fun _ => ⟨decide_eq_true (couple_B h1 h3 h2 hb ha), by rw [if_pos ha, if_pos hb]⟩, fun h => absurd ha h⟩
  · refine ⟨fun hb => ⟨decide_eq_true (couple_B h1 h2 h3 ha1 hb), by rw [if_neg ha, if_pos ⟨ha1, hb⟩]⟩, fun hb => by rw [if_neg ha, if_neg (fun h => hb h.2)]⟩
def tab_fitsP : Tab := addF tab_verdict 48 fitsPC
theorem tab_fitsP_ok : TabOk tab_fitsP := tab_verdict_ok.add fitsP_s
def FitPF : Play × Edge × Edge × Unit → Bool × AV := fun | (p, (a, (b, _))) => (true, .tup [.int false .i64 (FitF p a b).1, .int false .i64 (FitF p a b).2])
def FitPC : FC := pureFC (pfOf FitPF)
set_option maxRecDepth 100000 in
theorem FitP_t (p : Play) (a : Edge) (b : Edge) : execFn (mkE Try.prog tab_fitsP) (hnd (mkE Try.prog tab_fitsP) 14) false Try.f15 (EncL.enc ((p, a, b, ()) : Play × Edge × Edge × Unit)) [] 0 =
    Tree.need true (Tree.br (!p.ok) (Tree.leaf (AV.tup [AV.int true IntKind.i64 (0 : Int), AV.int true IntKind.i64 (1 : Int)]) []) (Tree.need true (Tree.br (!a.ok) (Tree.leaf (AV.tup
    [AV.int true IntKind.i64 (0 : Int), AV.int true IntKind.i64 (1 : Int)]) []) (Tree.need true (Tree.br (!b.ok) (Tree.leaf (AV.tup [AV.int true IntKind.i64 (0 : Int), AV.int true
    IntKind.i64 (1 : Int)]) []) (Tree.need (okP p a b) (Tree.leaf (AV.tup [AV.int false IntKind.i64 (fitsF p a b), AV.int true IntKind.i64 (0 : Int)]) []))))))) := by kernel_rfl
theorem FitP_s : FSound Try.prog 15 FitPC := by
  refine plain_fn tab_fitsP_ok 14 Try.func15 (by kernel_rfl) (by kernel_rfl) ?_
  rintro ⟨p, a, b, ⟨⟩⟩ hp
  rw [FitP_t p a b]
  simp only [FitPF, Tree.den, AV.same, AV.sameL, and_true, true_and] at hp ⊢
  unfold FitF okP
  cases p.ok <;> cases a.ok <;> cases b.ok <;> simp
def tab_FitP : Tab := addF tab_fitsP 15 FitPC
theorem tab_FitP_ok : TabOk tab_FitP := tab_fitsP_ok.add FitP_s
theorem damped_w {s d : Sp} (h1 : -100000 ≤ s.lo ∧ s.lo ≤ 100000) (h2 : -100000 ≤ s.hi ∧ s.hi ≤ 100000) (h3 : 0 ≤ d.lo ∧ d.lo ≤ 100) (h4 : 0 ≤ d.hi ∧ d.hi ≤ 100) :
    decide (Sm (min (IntKind.i64.wrap (s.lo * IntKind.i64.wrap (1000 + d.lo))) (IntKind.i64.wrap (s.lo * IntKind.i64.wrap (1000 + d.hi))))) = true ∧
    decide (Sm (max (IntKind.i64.wrap (s.hi * IntKind.i64.wrap (1000 + d.lo))) (IntKind.i64.wrap (s.hi * IntKind.i64.wrap (1000 + d.hi))))) = true ∧
    down (min (IntKind.i64.wrap (s.lo * IntKind.i64.wrap (1000 + d.lo))) (IntKind.i64.wrap (s.lo * IntKind.i64.wrap (1000 + d.hi)))) = (s.damped d).lo ∧
    up (max (IntKind.i64.wrap (s.hi * IntKind.i64.wrap (1000 + d.lo))) (IntKind.i64.wrap (s.hi * IntKind.i64.wrap (1000 + d.hi)))) = (s.damped d).hi := by
  obtain ⟨m1, m2⟩ := mul_sm (a := s.lo) (m := 1000 + d.lo) (by omega) (by omega) (by omega) (by omega)
  obtain ⟨m3, m4⟩ := mul_sm (a := s.lo) (m := 1000 + d.hi) (by omega) (by omega) (by omega) (by omega)
  obtain ⟨m5, m6⟩ := mul_sm (a := s.hi) (m := 1000 + d.lo) (by omega) (by omega) (by omega) (by omega)
  obtain ⟨m7, m8⟩ := mul_sm (a := s.hi) (m := 1000 + d.hi) (by omega) (by omega) (by omega) (by omega)
  rw [w64 (n := 1000 + d.lo) (by omega) (by omega), w64 (n := 1000 + d.hi) (by omega) (by omega), w64 (n := s.lo * _) (by omega) (by omega), w64 (n := s.lo * _) (by omega) (by omega), w64 (n := s.hi * _) (by omega) (by omega), w64 (n := s.hi * _) (by omega) (by omega)]
  exact ⟨decide_eq_true (by unfold Sm; omega), decide_eq_true (by unfold Sm; omega), rfl, rfl⟩
def dampedF : Couple × D × Unit → Bool × AV := fun | (x, (d, _)) => (decide (x.B ∧ d.c.B), Enc.enc (d.by_.damped x.p.damp))
def dampedC : FC := pureFC (pfOf dampedF)
set_option maxRecDepth 100000 in
theorem damped_t0 (x : Couple) (c : Couple) : execFn (mkE Try.prog tab_FitP) (hnd (mkE Try.prog tab_FitP) 4) false Try.f51 (EncL.enc ((x, (D.off c), ()) : Couple × D × Unit)) [] 0 =
    Tree.need (decide c.B) (Tree.need (decide (Sm (min (IntKind.i64.wrap ((offBy c.p c.t c.h).lo * IntKind.i64.wrap ((1000 : Int) + x.p.damp.lo))) (IntKind.i64.wrap ((offBy c.p c.t
    c.h).lo * IntKind.i64.wrap ((1000 : Int) + x.p.damp.hi)))))) (Tree.need (decide (Sm (max (IntKind.i64.wrap ((offBy c.p c.t c.h).hi * IntKind.i64.wrap ((1000 : Int) + x.p.damp.lo)))
    (IntKind.i64.wrap ((offBy c.p c.t c.h).hi * IntKind.i64.wrap ((1000 : Int) + x.p.damp.hi)))))) (Tree.leaf (AV.agg [AV.int false IntKind.i64 (down (min (IntKind.i64.wrap ((offBy c.p
    c.t c.h).lo * IntKind.i64.wrap ((1000 : Int) + x.p.damp.lo))) (IntKind.i64.wrap ((offBy c.p c.t c.h).lo * IntKind.i64.wrap ((1000 : Int) + x.p.damp.hi))))), AV.int false IntKind.i64
    (up (max (IntKind.i64.wrap ((offBy c.p c.t c.h).hi * IntKind.i64.wrap ((1000 : Int) + x.p.damp.lo))) (IntKind.i64.wrap ((offBy c.p c.t c.h).hi * IntKind.i64.wrap ((1000 : Int) +
    x.p.damp.hi)))))]) []))) := by kernel_rfl
set_option maxRecDepth 100000 in
theorem damped_t1 (x : Couple) (c : Couple) : execFn (mkE Try.prog tab_FitP) (hnd (mkE Try.prog tab_FitP) 4) false Try.f51 (EncL.enc ((x, (D.wide c), ()) : Couple × D × Unit)) [] 0 =
    Tree.need (decide c.B) (Tree.need (decide (Sm (min (IntKind.i64.wrap ((wideBy c.t c.h).lo * IntKind.i64.wrap ((1000 : Int) + x.p.damp.lo))) (IntKind.i64.wrap ((wideBy c.t c.h).lo *
    IntKind.i64.wrap ((1000 : Int) + x.p.damp.hi)))))) (Tree.need (decide (Sm (max (IntKind.i64.wrap ((wideBy c.t c.h).hi * IntKind.i64.wrap ((1000 : Int) + x.p.damp.lo)))
    (IntKind.i64.wrap ((wideBy c.t c.h).hi * IntKind.i64.wrap ((1000 : Int) + x.p.damp.hi)))))) (Tree.leaf (AV.agg [AV.int false IntKind.i64 (down (min (IntKind.i64.wrap ((wideBy c.t
    c.h).lo * IntKind.i64.wrap ((1000 : Int) + x.p.damp.lo))) (IntKind.i64.wrap ((wideBy c.t c.h).lo * IntKind.i64.wrap ((1000 : Int) + x.p.damp.hi))))), AV.int false IntKind.i64 (up
    (max (IntKind.i64.wrap ((wideBy c.t c.h).hi * IntKind.i64.wrap ((1000 : Int) + x.p.damp.lo))) (IntKind.i64.wrap ((wideBy c.t c.h).hi * IntKind.i64.wrap ((1000 : Int) +
    x.p.damp.hi)))))]) []))) := by kernel_rfl
set_option maxRecDepth 100000 in
theorem damped_t2 (x : Couple) (c : Couple) : execFn (mkE Try.prog tab_FitP) (hnd (mkE Try.prog tab_FitP) 4) false Try.f51 (EncL.enc ((x, (D.deep c), ()) : Couple × D × Unit)) [] 0 =
    Tree.need (decide c.B) (Tree.need (decide (Sm (min (IntKind.i64.wrap ((deepBy c.t c.h).lo * IntKind.i64.wrap ((1000 : Int) + x.p.damp.lo))) (IntKind.i64.wrap ((deepBy c.t c.h).lo *
    IntKind.i64.wrap ((1000 : Int) + x.p.damp.hi)))))) (Tree.need (decide (Sm (max (IntKind.i64.wrap ((deepBy c.t c.h).hi * IntKind.i64.wrap ((1000 : Int) + x.p.damp.lo)))
    (IntKind.i64.wrap ((deepBy c.t c.h).hi * IntKind.i64.wrap ((1000 : Int) + x.p.damp.hi)))))) (Tree.leaf (AV.agg [AV.int false IntKind.i64 (down (min (IntKind.i64.wrap ((deepBy c.t
    c.h).lo * IntKind.i64.wrap ((1000 : Int) + x.p.damp.lo))) (IntKind.i64.wrap ((deepBy c.t c.h).lo * IntKind.i64.wrap ((1000 : Int) + x.p.damp.hi))))), AV.int false IntKind.i64 (up
    (max (IntKind.i64.wrap ((deepBy c.t c.h).hi * IntKind.i64.wrap ((1000 : Int) + x.p.damp.lo))) (IntKind.i64.wrap ((deepBy c.t c.h).hi * IntKind.i64.wrap ((1000 : Int) +
    x.p.damp.hi)))))]) []))) := by kernel_rfl
theorem damped_s : FSound Try.prog 51 dampedC := by
  refine plain_fn tab_FitP_ok 4 Try.func51 (by kernel_rfl) (by kernel_rfl) ?_
  rintro ⟨x, (c | c | c), ⟨⟩⟩ hp
  · rw [damped_t0 x c]
    simp only [dampedF, Tree.den, AV.same, AV.sameL, and_true, true_and] at hp ⊢
    have hq := of_decide_eq_true hp
    obtain ⟨⟨hx, _⟩, hc⟩ := hq
    refine ⟨decide_eq_true hc, ?_⟩
    obtain ⟨h1, h2, h3⟩ := hc
    unfold PlayB at h1 hx; unfold SideB at h2 h3; simp only [D.c] at h1 h2 h3
    simp only [Enc.enc, AV.same, AV.sameL, true_and, and_true]
    refine damped_w ?_ ?_ ?_ ?_ <;> (try simp only [offBy, wideBy, deepBy]) <;> omega
  · rw [damped_t1 x c]
    simp only [dampedF, Tree.den, AV.same, AV.sameL, and_true, true_and] at hp ⊢
    have hq := of_decide_eq_true hp
    obtain ⟨⟨hx, _⟩, hc⟩ := hq
    refine ⟨decide_eq_true hc, ?_⟩
    obtain ⟨h1, h2, h3⟩ := hc
    unfold PlayB at h1 hx; unfold SideB at h2 h3; simp only [D.c] at h1 h2 h3
    simp only [Enc.enc, AV.same, AV.sameL, true_and, and_true]
    refine damped_w ?_ ?_ ?_ ?_ <;> (try simp only [offBy, wideBy, deepBy]) <;> omega
  · rw [damped_t2 x c]
    simp only [dampedF, Tree.den, AV.same, AV.sameL, and_true, true_and] at hp ⊢
    have hq := of_decide_eq_true hp
    obtain ⟨⟨hx, _⟩, hc⟩ := hq
    refine ⟨decide_eq_true hc, ?_⟩
    obtain ⟨h1, h2, h3⟩ := hc
    unfold PlayB at h1 hx; unfold SideB at h2 h3; simp only [D.c] at h1 h2 h3
    simp only [Enc.enc, AV.same, AV.sameL, true_and, and_true]
    refine damped_w ?_ ?_ ?_ ?_ <;> (try simp only [offBy, wideBy, deepBy]) <;> omega
def tab_damped : Tab := addF tab_FitP 51 dampedC
theorem tab_damped_ok : TabOk tab_damped := tab_FitP_ok.add damped_s
def BetweenPF : Play × Edge × Edge × Unit → Bool × AV := fun | (p, (a, (b, _))) => (true, .tup [Enc.enc (BetweenF p a b).1, .int false .i64 (BetweenF p a b).2])
def BetweenPC : FC := pureFC (pfOf BetweenPF)
set_option maxRecDepth 100000 in
theorem BetweenP_t (p : Play) (a : Edge) (b : Edge) : execFn (mkE Try.prog tab_damped) (hnd (mkE Try.prog tab_damped) 14) false Try.f17 (EncL.enc ((p, a, b, ()) : Play × Edge × Edge × Unit)) [] 0 =
    Tree.need true (Tree.br (!p.ok) (Tree.leaf (AV.tup [AV.agg [AV.int true IntKind.i64 (0 : Int), AV.int true IntKind.i64 (0 : Int), AV.int true IntKind.i64 (0 : Int), AV.int true
    IntKind.i64 (0 : Int), AV.int true IntKind.i64 (0 : Int), AV.int true IntKind.i64 (0 : Int)], AV.int true IntKind.i64 (1 : Int)]) []) (Tree.need true (Tree.br (!a.ok) (Tree.leaf
    (AV.tup [AV.agg [AV.int true IntKind.i64 (0 : Int), AV.int true IntKind.i64 (0 : Int), AV.int true IntKind.i64 (0 : Int), AV.int true IntKind.i64 (0 : Int), AV.int true IntKind.i64
    (0 : Int), AV.int true IntKind.i64 (0 : Int)], AV.int true IntKind.i64 (1 : Int)]) []) (Tree.need true (Tree.br (!b.ok) (Tree.leaf (AV.tup [AV.agg [AV.int true IntKind.i64 (0 :
    Int), AV.int true IntKind.i64 (0 : Int), AV.int true IntKind.i64 (0 : Int), AV.int true IntKind.i64 (0 : Int), AV.int true IntKind.i64 (0 : Int), AV.int true IntKind.i64 (0 : Int)],
    AV.int true IntKind.i64 (1 : Int)]) []) (Tree.br (a.kind == (2 : Int)) (Tree.br (b.kind == (1 : Int)) (Tree.br (!a.kind == (2 : Int)) (Tree.leaf (AV.tup [AV.agg [AV.int true
    IntKind.i64 (0 : Int), AV.int true IntKind.i64 (0 : Int), AV.int true IntKind.i64 (0 : Int), AV.int true IntKind.i64 (0 : Int), AV.int true IntKind.i64 (0 : Int), AV.int true
    IntKind.i64 (0 : Int)], AV.int true IntKind.i64 (6 : Int)]) []) (Tree.need (decide ((Couple.mk p b a).B ∧ (D.off (Couple.mk p b a)).c.B)) (Tree.need (decide ((Couple.mk p b a).B ∧
    (D.wide (Couple.mk p b a)).c.B)) (Tree.need (decide ((Couple.mk p b a).B ∧ (D.deep (Couple.mk p b a)).c.B)) (Tree.leaf (AV.tup [AV.agg [AV.int false IntKind.i64 ((D.off (Couple.mk p
    b a)).by_.damped p.damp).lo, AV.int false IntKind.i64 ((D.off (Couple.mk p b a)).by_.damped p.damp).hi, AV.int false IntKind.i64 ((D.wide (Couple.mk p b a)).by_.damped p.damp).lo,
    AV.int false IntKind.i64 ((D.wide (Couple.mk p b a)).by_.damped p.damp).hi, AV.int false IntKind.i64 ((D.deep (Couple.mk p b a)).by_.damped p.damp).lo, AV.int false IntKind.i64
    ((D.deep (Couple.mk p b a)).by_.damped p.damp).hi], AV.int true IntKind.i64 (0 : Int)]) []))))) (Tree.leaf (AV.tup [AV.agg [AV.int true IntKind.i64 (0 : Int), AV.int true
    IntKind.i64 (0 : Int), AV.int true IntKind.i64 (0 : Int), AV.int true IntKind.i64 (0 : Int), AV.int true IntKind.i64 (0 : Int), AV.int true IntKind.i64 (0 : Int)], AV.int true
    IntKind.i64 (6 : Int)]) [])) (Tree.br (a.kind == (1 : Int)) (Tree.br (!b.kind == (2 : Int)) (Tree.leaf (AV.tup [AV.agg [AV.int true IntKind.i64 (0 : Int), AV.int true IntKind.i64 (0
    : Int), AV.int true IntKind.i64 (0 : Int), AV.int true IntKind.i64 (0 : Int), AV.int true IntKind.i64 (0 : Int), AV.int true IntKind.i64 (0 : Int)], AV.int true IntKind.i64 (6 :
    Int)]) []) (Tree.need (decide ((Couple.mk p a b).B ∧ (D.off (Couple.mk p a b)).c.B)) (Tree.need (decide ((Couple.mk p a b).B ∧ (D.wide (Couple.mk p a b)).c.B)) (Tree.need (decide
    ((Couple.mk p a b).B ∧ (D.deep (Couple.mk p a b)).c.B)) (Tree.leaf (AV.tup [AV.agg [AV.int false IntKind.i64 ((D.off (Couple.mk p a b)).by_.damped p.damp).lo, AV.int false
    IntKind.i64 ((D.off (Couple.mk p a b)).by_.damped p.damp).hi, AV.int false IntKind.i64 ((D.wide (Couple.mk p a b)).by_.damped p.damp).lo, AV.int false IntKind.i64 ((D.wide
    (Couple.mk p a b)).by_.damped p.damp).hi, AV.int false IntKind.i64 ((D.deep (Couple.mk p a b)).by_.damped p.damp).lo, AV.int false IntKind.i64 ((D.deep (Couple.mk p a b)).by_.damped
    p.damp).hi], AV.int true IntKind.i64 (0 : Int)]) []))))) (Tree.leaf (AV.tup [AV.agg [AV.int true IntKind.i64 (0 : Int), AV.int true IntKind.i64 (0 : Int), AV.int true IntKind.i64 (0
    : Int), AV.int true IntKind.i64 (0 : Int), AV.int true IntKind.i64 (0 : Int), AV.int true IntKind.i64 (0 : Int)], AV.int true IntKind.i64 (6 : Int)]) [])))))))) := by kernel_rfl
theorem BetweenP_s : FSound Try.prog 17 BetweenPC := by
  refine plain_fn tab_damped_ok 14 Try.func17 (by kernel_rfl) (by kernel_rfl) ?_
  rintro ⟨p, a, b, ⟨⟩⟩ hp
  rw [BetweenP_t p a b]
  simp only [BetweenPF, Tree.den, AV.same, AV.sameL, and_true, true_and] at hp ⊢
  simp only [Enc.enc, AV.same, AV.sameL, true_and, and_true]
  (repeat' (first | (refine And.intro ?_ ?_) | (intro _))) <;> simp_all [BetweenF, Gap.zero]
  all_goals first | rfl | exact ⟨couple_B (by assumption) (by assumption) (by assumption) (by assumption) (by assumption), couple_B (by assumption) (by assumption) (by assumption) (by assumption) (by assumption)⟩
def tab_BetweenP : Tab := addF tab_damped 17 BetweenPC
theorem tab_BetweenP_ok : TabOk tab_BetweenP := tab_damped_ok.add BetweenP_s
def wornByF : Edge × Sp × Int × Unit → Bool × AV := fun | (s, (w, (n, _))) => (decide (WearB s w n), .tup [Enc.enc (s.worn w n), .bool false ((s.worn w n).wide.isIn 1 3000)])
def wornByC : FC := pureFC (pfOf wornByF)
set_option maxRecDepth 100000 in
theorem wornBy_t (s : Edge) (w : Sp) (n : Int) : execFn (mkE Try.prog tab_BetweenP) (hnd (mkE Try.prog tab_BetweenP) 4) false Try.f56 (EncL.enc ((s, w, n, ()) : Edge × Sp × Int × Unit)) [] 0 =
    Tree.br (s.kind == (1 : Int)) (Tree.need (decide (Sm (IntKind.i64.wrap ((1000 : Int) * s.wide.lo)) ∧ Sm (IntKind.i64.wrap ((1000 : Int) * s.wide.hi)) ∧ Sm (IntKind.i64.wrap (w.lo *
    n)) ∧ Sm (IntKind.i64.wrap (w.hi * n)))) (Tree.need (decide (Sm ((Sp.mk (IntKind.i64.wrap ((1000 : Int) * s.wide.lo)) (IntKind.i64.wrap ((1000 : Int) * s.wide.hi))).less (Sp.mk
    (IntKind.i64.wrap (w.lo * n)) (IntKind.i64.wrap (w.hi * n)))).lo)) (Tree.need (decide (Sm ((Sp.mk (IntKind.i64.wrap ((1000 : Int) * s.wide.lo)) (IntKind.i64.wrap ((1000 : Int) *
    s.wide.hi))).less (Sp.mk (IntKind.i64.wrap (w.lo * n)) (IntKind.i64.wrap (w.hi * n)))).hi)) (Tree.need true (Tree.leaf (AV.tup [AV.agg [AV.int false IntKind.i64 s.kind, AV.int false
    IntKind.i64 s.at_.lo, AV.int false IntKind.i64 s.at_.hi, AV.int false IntKind.i64 (down ((Sp.mk (IntKind.i64.wrap ((1000 : Int) * s.wide.lo)) (IntKind.i64.wrap ((1000 : Int) *
    s.wide.hi))).less (Sp.mk (IntKind.i64.wrap (w.lo * n)) (IntKind.i64.wrap (w.hi * n)))).lo), AV.int false IntKind.i64 (up ((Sp.mk (IntKind.i64.wrap ((1000 : Int) * s.wide.lo))
    (IntKind.i64.wrap ((1000 : Int) * s.wide.hi))).less (Sp.mk (IntKind.i64.wrap (w.lo * n)) (IntKind.i64.wrap (w.hi * n)))).hi), AV.int false IntKind.i64 s.deep.lo, AV.int false
    IntKind.i64 s.deep.hi], AV.bool false ((Sp.mk (down ((Sp.mk (IntKind.i64.wrap ((1000 : Int) * s.wide.lo)) (IntKind.i64.wrap ((1000 : Int) * s.wide.hi))).less (Sp.mk
    (IntKind.i64.wrap (w.lo * n)) (IntKind.i64.wrap (w.hi * n)))).lo) (up ((Sp.mk (IntKind.i64.wrap ((1000 : Int) * s.wide.lo)) (IntKind.i64.wrap ((1000 : Int) * s.wide.hi))).less
    (Sp.mk (IntKind.i64.wrap (w.lo * n)) (IntKind.i64.wrap (w.hi * n)))).hi)).isIn (1 : Int) (3000 : Int))]) []))))) (Tree.need (decide (Sm (IntKind.i64.wrap ((1000 : Int) * s.wide.lo))
    ∧ Sm (IntKind.i64.wrap ((1000 : Int) * s.wide.hi)) ∧ Sm (IntKind.i64.wrap (w.lo * n)) ∧ Sm (IntKind.i64.wrap (w.hi * n)))) (Tree.need (decide (Sm ((Sp.mk (IntKind.i64.wrap ((1000 :
    Int) * s.wide.lo)) (IntKind.i64.wrap ((1000 : Int) * s.wide.hi))).plus (Sp.mk (IntKind.i64.wrap (w.lo * n)) (IntKind.i64.wrap (w.hi * n)))).lo)) (Tree.need (decide (Sm ((Sp.mk
    (IntKind.i64.wrap ((1000 : Int) * s.wide.lo)) (IntKind.i64.wrap ((1000 : Int) * s.wide.hi))).plus (Sp.mk (IntKind.i64.wrap (w.lo * n)) (IntKind.i64.wrap (w.hi * n)))).hi))
    (Tree.need true (Tree.leaf (AV.tup [AV.agg [AV.int false IntKind.i64 s.kind, AV.int false IntKind.i64 s.at_.lo, AV.int false IntKind.i64 s.at_.hi, AV.int false IntKind.i64 (down
    ((Sp.mk (IntKind.i64.wrap ((1000 : Int) * s.wide.lo)) (IntKind.i64.wrap ((1000 : Int) * s.wide.hi))).plus (Sp.mk (IntKind.i64.wrap (w.lo * n)) (IntKind.i64.wrap (w.hi * n)))).lo),
    AV.int false IntKind.i64 (up ((Sp.mk (IntKind.i64.wrap ((1000 : Int) * s.wide.lo)) (IntKind.i64.wrap ((1000 : Int) * s.wide.hi))).plus (Sp.mk (IntKind.i64.wrap (w.lo * n))
    (IntKind.i64.wrap (w.hi * n)))).hi), AV.int false IntKind.i64 s.deep.lo, AV.int false IntKind.i64 s.deep.hi], AV.bool false ((Sp.mk (down ((Sp.mk (IntKind.i64.wrap ((1000 : Int) *
    s.wide.lo)) (IntKind.i64.wrap ((1000 : Int) * s.wide.hi))).plus (Sp.mk (IntKind.i64.wrap (w.lo * n)) (IntKind.i64.wrap (w.hi * n)))).lo) (up ((Sp.mk (IntKind.i64.wrap ((1000 : Int)
    * s.wide.lo)) (IntKind.i64.wrap ((1000 : Int) * s.wide.hi))).plus (Sp.mk (IntKind.i64.wrap (w.lo * n)) (IntKind.i64.wrap (w.hi * n)))).hi)).isIn (1 : Int) (3000 : Int))]) []))))) := by kernel_rfl
theorem wornBy_s : FSound Try.prog 56 wornByC := by
  refine plain_fn tab_BetweenP_ok 4 Try.func56 (by kernel_rfl) (by kernel_rfl) ?_
  rintro ⟨s, w, n, ⟨⟩⟩ hp
  rw [wornBy_t s w n]
  simp only [wornByF, Tree.den, AV.same, AV.sameL, and_true, true_and] at hp ⊢
  have hq := of_decide_eq_true hp
  simp only [Enc.enc, AV.same, AV.sameL, true_and, and_true]
  obtain ⟨⟨h1, h2, h3⟩, h4, h5⟩ := hq
  obtain ⟨e1, e2⟩ := mul_bd (a := w.lo) (n := n) (by omega) (by omega) (by omega) (by omega)
  obtain ⟨e3, e4⟩ := mul_bd (a := w.hi) (n := n) (by omega) (by omega) (by omega) (by omega)
  rw [w64 (n := 1000 * s.wide.lo) (by omega) (by omega), w64 (n := 1000 * s.wide.hi) (by omega) (by omega), w64 (n := w.lo * n) (by omega) (by omega), w64 (n := w.hi * n) (by omega) (by omega)]
  refine ⟨fun hk => ⟨decide_eq_true (by unfold Sm; omega), decide_eq_true (by unfold Sm Sp.less; simp only; omega), decide_eq_true (by unfold Sm Sp.less; simp only; omega), ?_⟩,
    fun hk => ⟨decide_eq_true (by unfold Sm; omega), decide_eq_true (by unfold Sm Sp.plus; simp only; omega), decide_eq_true (by unfold Sm Sp.plus; simp only; omega), ?_⟩⟩
  · simp only [beq_iff_eq] at hk
    simp [Edge.worn, wornSpan, hk, Sp.less]
  · simp only [beq_eq_false_iff_ne] at hk
    simp [Edge.worn, wornSpan, hk, Sp.plus]
def tab_wornBy : Tab := addF tab_BetweenP 56 wornByC
theorem tab_wornBy_ok : TabOk tab_wornBy := tab_BetweenP_ok.add wornBy_s
def WornPF : Edge × Sp × Int × Unit → Bool × AV := fun | (s, (w, (n, _))) => (true, .tup [Enc.enc (WornF s w n).1, .int false .i64 (WornF s w n).2])
def WornPC : FC := pureFC (pfOf WornPF)
set_option maxRecDepth 100000 in
theorem WornP_t (s : Edge) (w : Sp) (n : Int) : execFn (mkE Try.prog tab_wornBy) (hnd (mkE Try.prog tab_wornBy) 4) false Try.f19 (EncL.enc ((s, w, n, ()) : Edge × Sp × Int × Unit)) [] 0 =
    Tree.need true (Tree.br (!s.ok) (Tree.leaf (AV.tup [AV.agg [AV.int true IntKind.i64 (0 : Int), AV.int true IntKind.i64 (0 : Int), AV.int true IntKind.i64 (0 : Int), AV.int true
    IntKind.i64 (0 : Int), AV.int true IntKind.i64 (0 : Int), AV.int true IntKind.i64 (0 : Int), AV.int true IntKind.i64 (0 : Int)], AV.int true IntKind.i64 (1 : Int)]) []) (Tree.need
    true (Tree.br (!w.isIn (0 : Int) (100 : Int)) (Tree.leaf (AV.tup [AV.agg [AV.int true IntKind.i64 (0 : Int), AV.int true IntKind.i64 (0 : Int), AV.int true IntKind.i64 (0 : Int),
    AV.int true IntKind.i64 (0 : Int), AV.int true IntKind.i64 (0 : Int), AV.int true IntKind.i64 (0 : Int), AV.int true IntKind.i64 (0 : Int)], AV.int true IntKind.i64 (2 : Int)]) [])
    (Tree.need true (Tree.br (!within n (0 : Int) (20000 : Int)) (Tree.leaf (AV.tup [AV.agg [AV.int true IntKind.i64 (0 : Int), AV.int true IntKind.i64 (0 : Int), AV.int true
    IntKind.i64 (0 : Int), AV.int true IntKind.i64 (0 : Int), AV.int true IntKind.i64 (0 : Int), AV.int true IntKind.i64 (0 : Int), AV.int true IntKind.i64 (0 : Int)], AV.int true
    IntKind.i64 (2 : Int)]) []) (Tree.br (s.kind == (0 : Int)) (Tree.leaf (AV.tup [AV.agg [AV.int true IntKind.i64 (0 : Int), AV.int true IntKind.i64 (0 : Int), AV.int true IntKind.i64
    (0 : Int), AV.int true IntKind.i64 (0 : Int), AV.int true IntKind.i64 (0 : Int), AV.int true IntKind.i64 (0 : Int), AV.int true IntKind.i64 (0 : Int)], AV.int true IntKind.i64 (6 :
    Int)]) []) (Tree.need (decide (WearB s w n)) (Tree.br (!(s.worn w n).wide.isIn (1 : Int) (3000 : Int)) (Tree.leaf (AV.tup [AV.agg [AV.int true IntKind.i64 (0 : Int), AV.int true
    IntKind.i64 (0 : Int), AV.int true IntKind.i64 (0 : Int), AV.int true IntKind.i64 (0 : Int), AV.int true IntKind.i64 (0 : Int), AV.int true IntKind.i64 (0 : Int), AV.int true
    IntKind.i64 (0 : Int)], AV.int true IntKind.i64 (11 : Int)]) []) (Tree.leaf (AV.tup [AV.agg [AV.int false IntKind.i64 (s.worn w n).kind, AV.int false IntKind.i64 (s.worn w
    n).at_.lo, AV.int false IntKind.i64 (s.worn w n).at_.hi, AV.int false IntKind.i64 (s.worn w n).wide.lo, AV.int false IntKind.i64 (s.worn w n).wide.hi, AV.int false IntKind.i64
    (s.worn w n).deep.lo, AV.int false IntKind.i64 (s.worn w n).deep.hi], AV.int true IntKind.i64 (0 : Int)]) []))))))))) := by kernel_rfl
theorem WornP_s : FSound Try.prog 19 WornPC := by
  refine plain_fn tab_wornBy_ok 4 Try.func19 (by kernel_rfl) (by kernel_rfl) ?_
  rintro ⟨s, w, n, ⟨⟩⟩ hp
  rw [WornP_t s w n]
  simp only [WornPF, Tree.den, AV.same, AV.sameL, and_true, true_and] at hp ⊢
  simp only [Enc.enc, AV.same, AV.sameL, true_and, and_true]
  (repeat' (first | (refine And.intro ?_ ?_) | (intro _))) <;> simp_all [WornF, Edge.zero]
  all_goals exact wear_B (by assumption) (by assumption) (by assumption) (by assumption)
def tab_WornP : Tab := addF tab_wornBy 19 WornPC
theorem tab_WornP_ok : TabOk tab_WornP := tab_wornBy_ok.add WornP_s
end Go.Proofs.Ytdaanchagjamfaa
