/- Fit, Between, Worn, of the program. -/
import Derived.Test.YtdaanchagjamfaaNpo
namespace Go.Proofs.Ytdaanchagjamfaa
open Go.SX
def okP (p : Play) (a b : Edge) : Bool := p.ok && (a.ok && b.ok)
instance : Enc Gap where
  enc x := .agg [.int false .i64 x.off.lo, .int false .i64 x.off.hi, .int false .i64 x.wide.lo, .int false .i64 x.wide.hi, .int false .i64 x.deep.lo, .int false .i64 x.deep.hi]
  dec | .agg [.int _ .i64 a0, .int _ .i64 a1, .int _ .i64 a2, .int _ .i64 a3, .int _ .i64 a4, .int _ .i64 a5] => some ⟨⟨a0, a1⟩, ⟨a2, a3⟩, ⟨a4, a5⟩⟩ | _ => none
  ok v x h := by
    split at h <;> (try (cases h; done))
    simp only [Option.some.injEq] at h; subst h; exact ⟨fun _ => rfl, rfl⟩
theorem couple_B {p : Play} {a b : Edge} (h1 : p.ok = true) (h2 : a.ok = true) (h3 : b.ok = true) (ha : a.kind = 1) (hb : b.kind = 2) : Couple.B ⟨p, a, b⟩ := ⟨play_B h1, side_B h2 (.inl ha), side_B h3 (.inr hb)⟩
/-- What a tab becomes, and a hole: the wide span after some strokes. -/
def wornSpan (kind : Int) (s w : Sp) (n : Int) : Sp := if kind = 1 then ⟨down (1000 * s.lo - w.hi * n), up (1000 * s.hi - w.lo * n)⟩ else ⟨down (1000 * s.lo + w.lo * n), up (1000 * s.hi + w.hi * n)⟩
def Edge.worn (e : Edge) (w : Sp) (n : Int) : Edge := ⟨e.kind, e.at_, wornSpan e.kind e.wide w n, e.deep⟩
def Edge.zero : Edge := ⟨0, ⟨0, 0⟩, ⟨0, 0⟩, ⟨0, 0⟩⟩
def WornF (s : Edge) (w : Sp) (n : Int) : Edge × Int :=
  if s.ok = true then (if w.isIn 0 100 = true ∧ within n 0 20000 = true then (if s.kind = 0 then (.zero, 6) else if (s.worn w n).wide.isIn 1 3000 = true then (s.worn w n, 0) else (.zero, 11)) else (.zero, 2)) else (.zero, 1)
def WearB (s : Edge) (w : Sp) (n : Int) : Prop := SideB s ∧ (0 ≤ w.lo ∧ w.lo ≤ 100 ∧ 0 ≤ w.hi ∧ w.hi ≤ 100) ∧ 0 ≤ n ∧ n ≤ 20000
instance (s : Edge) (w : Sp) (n : Int) : Decidable (WearB s w n) := by unfold WearB; infer_instance
theorem mul_bd {a n : Int} (h1 : 0 ≤ a) (h2 : a ≤ 100) (h3 : 0 ≤ n) (h4 : n ≤ 20000) : 0 ≤ a * n ∧ a * n ≤ 2000000 := by
  refine ⟨Int.mul_nonneg h1 h3, ?_⟩
  have := Int.mul_le_mul h2 h4 h3 (by omega)
  omega
theorem wear_B {s : Edge} {w : Sp} {n : Int} (h1 : s.ok = true) (h2 : w.isIn 0 100 = true) (h3 : within n 0 20000 = true) (h4 : ¬ s.kind = 0) : WearB s w n := by
  have hk : s.kind = 1 ∨ s.kind = 2 := by rw [Edge.ok_iff] at h1; omega
  refine ⟨side_B h1 hk, ?_, ?_⟩
  · rw [Sp.isIn_iff] at h2; omega
  · simp [within] at h3; omega
def fitsPF : Play × Edge × Edge × Unit → Bool × AV := fun | (p, (a, (b, _))) => (okP p a b, .int false .i64 (fitsF p a b))
def fitsPC : FC := pureFC (pfOf fitsPF)
set_option maxRecDepth 100000 in
theorem fitsP_t (p : Play) (a : Edge) (b : Edge) : execFn (mkE Try.prog tab_verdict) (hnd (mkE Try.prog tab_verdict) 4) false Try.f48 (EncL.enc ((p, a, b, ()) : Play × Edge × Edge × Unit)) [] 0 =
    Tree.br (a.kind == (2 : Int)) (Tree.br (b.kind == (1 : Int)) (Tree.br (a.kind == (2 : Int)) (Tree.need (decide (Couple.mk p b a).B) (Tree.leaf (AV.int false IntKind.i64 (verd p b
    a)) [])) (Tree.leaf (AV.int true IntKind.i64 (0 : Int)) [])) (Tree.leaf (AV.int true IntKind.i64 (0 : Int)) [])) (Tree.br (a.kind == (1 : Int)) (Tree.br (b.kind == (2 : Int))
    (Tree.need (decide (Couple.mk p a b).B) (Tree.leaf (AV.int false IntKind.i64 (verd p a b)) [])) (Tree.leaf (AV.int true IntKind.i64 (0 : Int)) [])) (Tree.leaf (AV.int true
    IntKind.i64 (0 : Int)) [])) := by kernel_rfl
theorem fitsP_s : FSound Try.prog 48 fitsPC := by
  refine plain_fn tab_verdict_ok 4 Try.func48 (by kernel_rfl) (by kernel_rfl) ?_
  rintro ⟨p, a, b, ⟨⟩⟩ hp
  rw [fitsP_t p a b]
  simp only [fitsPF, Tree.den, AV.same, AV.sameL, and_true, true_and] at hp ⊢
  unfold okP at hp
  simp only [Bool.and_eq_true] at hp
  obtain ⟨h1, h2, h3⟩ := hp
  unfold fitsF
  simp only [beq_iff_eq, beq_eq_false_iff_ne]
  refine ⟨fun ha => ⟨fun hb => ?_, fun hb => by rw [if_pos ha, if_neg hb]⟩, fun ha => ⟨fun ha1 => ?_, fun ha1 => by rw [if_neg ha, if_neg (fun h => ha1 h.1)]⟩⟩
  · refine ⟨fun _ => ⟨decide_eq_true (couple_B h1 h3 h2 hb ha), by rw [if_pos ha, if_pos hb]⟩, fun h => absurd ha h⟩
  · refine ⟨fun hb => ⟨decide_eq_true (couple_B h1 h2 h3 ha1 hb), by rw [if_neg ha, if_pos ⟨ha1, hb⟩]⟩, fun hb => by rw [if_neg ha, if_neg (fun h => hb h.2)]⟩
def tab_fitsP : Tab := addF tab_verdict 48 fitsPC
theorem tab_fitsP_ok : TabOk tab_fitsP := tab_verdict_ok.add fitsP_s
def FitPF : Play × Edge × Edge × Unit → Bool × AV := fun | (p, (a, (b, _))) => (true, .tup [.int false .i64 (FitF p a b).1, .int false .i64 (FitF p a b).2])
def FitPC : FC := pureFC (pfOf FitPF)
set_option maxRecDepth 100000 in
theorem FitP_t (p : Play) (a : Edge) (b : Edge) : execFn (mkE Try.prog tab_fitsP) (hnd (mkE Try.prog tab_fitsP) 14) false Try.f15 (EncL.enc ((p, a, b, ()) : Play × Edge × Edge × Unit)) [] 0 =
    Tree.need true (Tree.br (!p.ok) (Tree.leaf (AV.tup [AV.int true IntKind.i64 (0 : Int), AV.int true IntKind.i64 (1 : Int)]) []) (Tree.need true (Tree.br (!a.ok) (Tree.leaf (AV.tup
    [AV.int true IntKind.i64 (0 : Int), AV.int true IntKind.i64 (1 : Int)]) []) (Tree.need true (Tree.br (!b.ok) (Tree.leaf (AV.tup [AV.int true IntKind.i64 (0 : Int), AV.int true
    IntKind.i64 (1 : Int)]) []) (Tree.need (okP p a b) (Tree.leaf (AV.tup [AV.int false IntKind.i64 (fitsF p a b), AV.int true IntKind.i64 (0 : Int)]) []))))))) := by kernel_rfl
theorem FitP_s : FSound Try.prog 15 FitPC := by
  refine plain_fn tab_fitsP_ok 14 Try.func15 (by kernel_rfl) (by kernel_rfl) ?_
  rintro ⟨p, a, b, ⟨⟩⟩ hp
  rw [FitP_t p a b]
  simp only [FitPF, Tree.den, AV.same, AV.sameL, and_true, true_and] at hp ⊢
  unfold FitF okP
  cases p.ok <;> cases a.ok <;> cases b.ok <;> simp
def tab_FitP : Tab := addF tab_fitsP 15 FitPC
theorem tab_FitP_ok : TabOk tab_FitP := tab_fitsP_ok.add FitP_s
theorem damped_w {s d : Sp} (h1 : -100000 ≤ s.lo ∧ s.lo ≤ 100000) (h2 : -100000 ≤ s.hi ∧ s.hi ≤ 100000) (h3 : 0 ≤ d.lo ∧ d.lo ≤ 100) (h4 : 0 ≤ d.hi ∧ d.hi ≤ 100) :
    decide (Sm (min (IntKind.i64.wrap (s.lo * IntKind.i64.wrap (1000 + d.lo))) (IntKind.i64.wrap (s.lo * IntKind.i64.wrap (1000 + d.hi))))) = true ∧
    decide (Sm (max (IntKind.i64.wrap (s.hi * IntKind.i64.wrap (1000 + d.lo))) (IntKind.i64.wrap (s.hi * IntKind.i64.wrap (1000 + d.hi))))) = true ∧
    down (min (IntKind.i64.wrap (s.lo * IntKind.i64.wrap (1000 + d.lo))) (IntKind.i64.wrap (s.lo * IntKind.i64.wrap (1000 + d.hi)))) = (s.damped d).lo ∧
    up (max (IntKind.i64.wrap (s.hi * IntKind.i64.wrap (1000 + d.lo))) (IntKind.i64.wrap (s.hi * IntKind.i64.wrap (1000 + d.hi)))) = (s.damped d).hi := by
  obtain ⟨m1, m2⟩ := mul_sm (a := s.lo) (m := 1000 + d.lo) (by omega) (by omega) (by omega) (by omega)
  obtain ⟨m3, m4⟩ := mul_sm (a := s.lo) (m := 1000 + d.hi) (by omega) (by omega) (by omega) (by omega)
  obtain ⟨m5, m6⟩ := mul_sm (a := s.hi) (m := 1000 + d.lo) (by omega) (by omega) (by omega) (by omega)
  obtain ⟨m7, m8⟩ := mul_sm (a := s.hi) (m := 1000 + d.hi) (by omega) (by omega) (by omega) (by omega)
  rw [w64 (n := 1000 + d.lo) (by omega) (by omega), w64 (n := 1000 + d.hi) (by omega) (by omega), w64 (n := s.lo * _) (by omega) (by omega), w64 (n := s.lo * _) (by omega) (by omega), w64 (n := s.hi * _) (by omega) (by omega), w64 (n := s.hi * _) (by omega) (by omega)]
  exact ⟨decide_eq_true (by unfold Sm; omega), decide_eq_true (by unfold Sm; omega), rfl, rfl⟩
def dampedF : Couple × D × Unit → Bool × AV := fun | (x, (d, _)) => (decide (x.B ∧ d.c.B), Enc.enc (d.by_.damped x.p.damp))
def dampedC : FC := pureFC (pfOf dampedF)
set_option maxRecDepth 100000 in
theorem damped_t0 (x : Couple) (c : Couple) : execFn (mkE Try.prog tab_FitP) (hnd (mkE Try.prog tab_FitP) 4) false Try.f51 (EncL.enc ((x, (D.off c), ()) : Couple × D × Unit)) [] 0 =
    Tree.need (decide c.B) (Tree.need (decide (Sm (min (IntKind.i64.wrap ((offBy c.p c.t c.h).lo * IntKind.i64.wrap ((1000 : Int) + x.p.damp.lo))) (IntKind.i64.wrap ((offBy c.p c.t
    c.h).lo * IntKind.i64.wrap ((1000 : Int) + x.p.damp.hi)))))) (Tree.need (decide (Sm (max (IntKind.i64.wrap ((offBy c.p c.t c.h).hi * IntKind.i64.wrap ((1000 : Int) + x.p.damp.lo)))
    (IntKind.i64.wrap ((offBy c.p c.t c.h).hi * IntKind.i64.wrap ((1000 : Int) + x.p.damp.hi)))))) (Tree.leaf (AV.agg [AV.int false IntKind.i64 (down (min (IntKind.i64.wrap ((offBy c.p
    c.t c.h).lo * IntKind.i64.wrap ((1000 : Int) + x.p.damp.lo))) (IntKind.i64.wrap ((offBy c.p c.t c.h).lo * IntKind.i64.wrap ((1000 : Int) + x.p.damp.hi))))), AV.int false IntKind.i64
    (up (max (IntKind.i64.wrap ((offBy c.p c.t c.h).hi * IntKind.i64.wrap ((1000 : Int) + x.p.damp.lo))) (IntKind.i64.wrap ((offBy c.p c.t c.h).hi * IntKind.i64.wrap ((1000 : Int) +
    x.p.damp.hi)))))]) []))) := by kernel_rfl
set_option maxRecDepth 100000 in
theorem damped_t1 (x : Couple) (c : Couple) : execFn (mkE Try.prog tab_FitP) (hnd (mkE Try.prog tab_FitP) 4) false Try.f51 (EncL.enc ((x, (D.wide c), ()) : Couple × D × Unit)) [] 0 =
    Tree.need (decide c.B) (Tree.need (decide (Sm (min (IntKind.i64.wrap ((wideBy c.t c.h).lo * IntKind.i64.wrap ((1000 : Int) + x.p.damp.lo))) (IntKind.i64.wrap ((wideBy c.t c.h).lo *
    IntKind.i64.wrap ((1000 : Int) + x.p.damp.hi)))))) (Tree.need (decide (Sm (max (IntKind.i64.wrap ((wideBy c.t c.h).hi * IntKind.i64.wrap ((1000 : Int) + x.p.damp.lo)))
    (IntKind.i64.wrap ((wideBy c.t c.h).hi * IntKind.i64.wrap ((1000 : Int) + x.p.damp.hi)))))) (Tree.leaf (AV.agg [AV.int false IntKind.i64 (down (min (IntKind.i64.wrap ((wideBy c.t
    c.h).lo * IntKind.i64.wrap ((1000 : Int) + x.p.damp.lo))) (IntKind.i64.wrap ((wideBy c.t c.h).lo * IntKind.i64.wrap ((1000 : Int) + x.p.damp.hi))))), AV.int false IntKind.i64 (up
    (max (IntKind.i64.wrap ((wideBy c.t c.h).hi * IntKind.i64.wrap ((1000 : Int) + x.p.damp.lo))) (IntKind.i64.wrap ((wideBy c.t c.h).hi * IntKind.i64.wrap ((1000 : Int) +
    x.p.damp.hi)))))]) []))) := by kernel_rfl
set_option maxRecDepth 100000 in
theorem damped_t2 (x : Couple) (c : Couple) : execFn (mkE Try.prog tab_FitP) (hnd (mkE Try.prog tab_FitP) 4) false Try.f51 (EncL.enc ((x, (D.deep c), ()) : Couple × D × Unit)) [] 0 =
    Tree.need (decide c.B) (Tree.need (decide (Sm (min (IntKind.i64.wrap ((deepBy c.t c.h).lo * IntKind.i64.wrap ((1000 : Int) + x.p.damp.lo))) (IntKind.i64.wrap ((deepBy c.t c.h).lo *
    IntKind.i64.wrap ((1000 : Int) + x.p.damp.hi)))))) (Tree.need (decide (Sm (max (IntKind.i64.wrap ((deepBy c.t c.h).hi * IntKind.i64.wrap ((1000 : Int) + x.p.damp.lo)))
    (IntKind.i64.wrap ((deepBy c.t c.h).hi * IntKind.i64.wrap ((1000 : Int) + x.p.damp.hi)))))) (Tree.leaf (AV.agg [AV.int false IntKind.i64 (down (min (IntKind.i64.wrap ((deepBy c.t
    c.h).lo * IntKind.i64.wrap ((1000 : Int) + x.p.damp.lo))) (IntKind.i64.wrap ((deepBy c.t c.h).lo * IntKind.i64.wrap ((1000 : Int) + x.p.damp.hi))))), AV.int false IntKind.i64 (up
    (max (IntKind.i64.wrap ((deepBy c.t c.h).hi * IntKind.i64.wrap ((1000 : Int) + x.p.damp.lo))) (IntKind.i64.wrap ((deepBy c.t c.h).hi * IntKind.i64.wrap ((1000 : Int) +
    x.p.damp.hi)))))]) []))) := by kernel_rfl
theorem damped_s : FSound Try.prog 51 dampedC := by
  refine plain_fn tab_FitP_ok 4 Try.func51 (by kernel_rfl) (by kernel_rfl) ?_
  rintro ⟨x, (c | c | c), ⟨⟩⟩ hp
  · rw [damped_t0 x c]
    simp only [dampedF, Tree.den, AV.same, AV.sameL, and_true, true_and] at hp ⊢
    have hq := of_decide_eq_true hp
    obtain ⟨⟨hx, _⟩, hc⟩ := hq
    refine ⟨decide_eq_true hc, ?_⟩
    obtain ⟨h1, h2, h3⟩ := hc
    unfold PlayB at h1 hx; unfold SideB at h2 h3; simp only [D.c] at h1 h2 h3
    simp only [Enc.enc, AV.same, AV.sameL, true_and, and_true]
    refine damped_w ?_ ?_ ?_ ?_ <;> (try simp only [offBy, wideBy, deepBy]) <;> omega
  · rw [damped_t1 x c]
    simp only [dampedF, Tree.den, AV.same, AV.sameL, and_true, true_and] at hp ⊢
    have hq := of_decide_eq_true hp
    obtain ⟨⟨hx, _⟩, hc⟩ := hq
    refine ⟨decide_eq_true hc, ?_⟩
    obtain ⟨h1, h2, h3⟩ := hc
    unfold PlayB at h1 hx; unfold SideB at h2 h3; simp only [D.c] at h1 h2 h3
    simp only [Enc.enc, AV.same, AV.sameL, true_and, and_true]
    refine damped_w ?_ ?_ ?_ ?_ <;> (try simp only [offBy, wideBy, deepBy]) <;> omega
  · rw [damped_t2 x c]
    simp only [dampedF, Tree.den, AV.same, AV.sameL, and_true, true_and] at hp ⊢
    have hq := of_decide_eq_true hp
    obtain ⟨⟨hx, _⟩, hc⟩ := hq
    refine ⟨decide_eq_true hc, ?_⟩
    obtain ⟨h1, h2, h3⟩ := hc
    unfold PlayB at h1 hx; unfold SideB at h2 h3; simp only [D.c] at h1 h2 h3
    simp only [Enc.enc, AV.same, AV.sameL, true_and, and_true]
    refine damped_w ?_ ?_ ?_ ?_ <;> (try simp only [offBy, wideBy, deepBy]) <;> omega
def tab_damped : Tab := addF tab_FitP 51 dampedC
theorem tab_damped_ok : TabOk tab_damped := tab_FitP_ok.add damped_s
def BetweenPF : Play × Edge × Edge × Unit → Bool × AV := fun | (p, (a, (b, _))) => (true, .tup [Enc.enc (BetweenF p a b).1, .int false .i64 (BetweenF p a b).2])
def BetweenPC : FC := pureFC (pfOf BetweenPF)
set_option maxRecDepth 100000 in
theorem BetweenP_t (p : Play) (a : Edge) (b : Edge) : execFn (mkE Try.prog tab_damped) (hnd (mkE Try.prog tab_damped) 14) false Try.f17 (EncL.enc ((p, a, b, ()) : Play × Edge × Edge × Unit)) [] 0 =
    Tree.need true (Tree.br (!p.ok) (Tree.leaf (AV.tup [AV.agg [AV.int true IntKind.i64 (0 : Int), AV.int true IntKind.i64 (0 : Int), AV.int true IntKind.i64 (0 : Int), AV.int true
    IntKind.i64 (0 : Int), AV.int true IntKind.i64 (0 : Int), AV.int true IntKind.i64 (0 : Int)], AV.int true IntKind.i64 (1 : Int)]) []) (Tree.need true (Tree.br (!a.ok) (Tree.leaf
    (AV.tup [AV.agg [AV.int true IntKind.i64 (0 : Int), AV.int true IntKind.i64 (0 : Int), AV.int true IntKind.i64 (0 : Int), AV.int true IntKind.i64 (0 : Int), AV.int true IntKind.i64
    (0 : Int), AV.int true IntKind.i64 (0 : Int)], AV.int true IntKind.i64 (1 : Int)]) []) (Tree.need true (Tree.br (!b.ok) (Tree.leaf (AV.tup [AV.agg [AV.int true IntKind.i64 (0 :
    Int), AV.int true IntKind.i64 (0 : Int), AV.int true IntKind.i64 (0 : Int), AV.int true IntKind.i64 (0 : Int), AV.int true IntKind.i64 (0 : Int), AV.int true IntKind.i64 (0 : Int)],
    AV.int true IntKind.i64 (1 : Int)]) []) (Tree.br (a.kind == (2 : Int)) (Tree.br (b.kind == (1 : Int)) (Tree.br (!a.kind == (2 : Int)) (Tree.leaf (AV.tup [AV.agg [AV.int true
    IntKind.i64 (0 : Int), AV.int true IntKind.i64 (0 : Int), AV.int true IntKind.i64 (0 : Int), AV.int true IntKind.i64 (0 : Int), AV.int true IntKind.i64 (0 : Int), AV.int true
    IntKind.i64 (0 : Int)], AV.int true IntKind.i64 (6 : Int)]) []) (Tree.need (decide ((Couple.mk p b a).B ∧ (D.off (Couple.mk p b a)).c.B)) (Tree.need (decide ((Couple.mk p b a).B ∧
    (D.wide (Couple.mk p b a)).c.B)) (Tree.need (decide ((Couple.mk p b a).B ∧ (D.deep (Couple.mk p b a)).c.B)) (Tree.leaf (AV.tup [AV.agg [AV.int false IntKind.i64 ((D.off (Couple.mk p
    b a)).by_.damped p.damp).lo, AV.int false IntKind.i64 ((D.off (Couple.mk p b a)).by_.damped p.damp).hi, AV.int false IntKind.i64 ((D.wide (Couple.mk p b a)).by_.damped p.damp).lo,
    AV.int false IntKind.i64 ((D.wide (Couple.mk p b a)).by_.damped p.damp).hi, AV.int false IntKind.i64 ((D.deep (Couple.mk p b a)).by_.damped p.damp).lo, AV.int false IntKind.i64
    ((D.deep (Couple.mk p b a)).by_.damped p.damp).hi], AV.int true IntKind.i64 (0 : Int)]) []))))) (Tree.leaf (AV.tup [AV.agg [AV.int true IntKind.i64 (0 : Int), AV.int true
    IntKind.i64 (0 : Int), AV.int true IntKind.i64 (0 : Int), AV.int true IntKind.i64 (0 : Int), AV.int true IntKind.i64 (0 : Int), AV.int true IntKind.i64 (0 : Int)], AV.int true
    IntKind.i64 (6 : Int)]) [])) (Tree.br (a.kind == (1 : Int)) (Tree.br (!b.kind == (2 : Int)) (Tree.leaf (AV.tup [AV.agg [AV.int true IntKind.i64 (0 : Int), AV.int true IntKind.i64 (0
    : Int), AV.int true IntKind.i64 (0 : Int), AV.int true IntKind.i64 (0 : Int), AV.int true IntKind.i64 (0 : Int), AV.int true IntKind.i64 (0 : Int)], AV.int true IntKind.i64 (6 :
    Int)]) []) (Tree.need (decide ((Couple.mk p a b).B ∧ (D.off (Couple.mk p a b)).c.B)) (Tree.need (decide ((Couple.mk p a b).B ∧ (D.wide (Couple.mk p a b)).c.B)) (Tree.need (decide
    ((Couple.mk p a b).B ∧ (D.deep (Couple.mk p a b)).c.B)) (Tree.leaf (AV.tup [AV.agg [AV.int false IntKind.i64 ((D.off (Couple.mk p a b)).by_.damped p.damp).lo, AV.int false
    IntKind.i64 ((D.off (Couple.mk p a b)).by_.damped p.damp).hi, AV.int false IntKind.i64 ((D.wide (Couple.mk p a b)).by_.damped p.damp).lo, AV.int false IntKind.i64 ((D.wide
    (Couple.mk p a b)).by_.damped p.damp).hi, AV.int false IntKind.i64 ((D.deep (Couple.mk p a b)).by_.damped p.damp).lo, AV.int false IntKind.i64 ((D.deep (Couple.mk p a b)).by_.damped
    p.damp).hi], AV.int true IntKind.i64 (0 : Int)]) []))))) (Tree.leaf (AV.tup [AV.agg [AV.int true IntKind.i64 (0 : Int), AV.int true IntKind.i64 (0 : Int), AV.int true IntKind.i64 (0
    : Int), AV.int true IntKind.i64 (0 : Int), AV.int true IntKind.i64 (0 : Int), AV.int true IntKind.i64 (0 : Int)], AV.int true IntKind.i64 (6 : Int)]) [])))))))) := by kernel_rfl
theorem BetweenP_s : FSound Try.prog 17 BetweenPC := by
  refine plain_fn tab_damped_ok 14 Try.func17 (by kernel_rfl) (by kernel_rfl) ?_
  rintro ⟨p, a, b, ⟨⟩⟩ hp
  rw [BetweenP_t p a b]
  simp only [BetweenPF, Tree.den, AV.same, AV.sameL, and_true, true_and] at hp ⊢
  simp only [Enc.enc, AV.same, AV.sameL, true_and, and_true]
  (repeat' (first | (refine And.intro ?_ ?_) | (intro _))) <;> simp_all [BetweenF, Gap.zero]
  all_goals first | rfl | exact ⟨couple_B (by assumption) (by assumption) (by assumption) (by assumption) (by assumption), couple_B (by assumption) (by assumption) (by assumption) (by assumption) (by assumption)⟩
def tab_BetweenP : Tab := addF tab_damped 17 BetweenPC
theorem tab_BetweenP_ok : TabOk tab_BetweenP := tab_damped_ok.add BetweenP_s
def wornByF : Edge × Sp × Int × Unit → Bool × AV := fun | (s, (w, (n, _))) => (decide (WearB s w n), .tup [Enc.enc (s.worn w n), .bool false ((s.worn w n).wide.isIn 1 3000)])
def wornByC : FC := pureFC (pfOf wornByF)
set_option maxRecDepth 100000 in
theorem wornBy_t (s : Edge) (w : Sp) (n : Int) : execFn (mkE Try.prog tab_BetweenP) (hnd (mkE Try.prog tab_BetweenP) 4) false Try.f56 (EncL.enc ((s, w, n, ()) : Edge × Sp × Int × Unit)) [] 0 =
    Tree.br (s.kind == (1 : Int)) (Tree.need (decide (Sm (IntKind.i64.wrap ((1000 : Int) * s.wide.lo)) ∧ Sm (IntKind.i64.wrap ((1000 : Int) * s.wide.hi)) ∧ Sm (IntKind.i64.wrap (w.lo *
    n)) ∧ Sm (IntKind.i64.wrap (w.hi * n)))) (Tree.need (decide (Sm ((Sp.mk (IntKind.i64.wrap ((1000 : Int) * s.wide.lo)) (IntKind.i64.wrap ((1000 : Int) * s.wide.hi))).less (Sp.mk
    (IntKind.i64.wrap (w.lo * n)) (IntKind.i64.wrap (w.hi * n)))).lo)) (Tree.need (decide (Sm ((Sp.mk (IntKind.i64.wrap ((1000 : Int) * s.wide.lo)) (IntKind.i64.wrap ((1000 : Int) *
    s.wide.hi))).less (Sp.mk (IntKind.i64.wrap (w.lo * n)) (IntKind.i64.wrap (w.hi * n)))).hi)) (Tree.need true (Tree.leaf (AV.tup [AV.agg [AV.int false IntKind.i64 s.kind, AV.int false
    IntKind.i64 s.at_.lo, AV.int false IntKind.i64 s.at_.hi, AV.int false IntKind.i64 (down ((Sp.mk (IntKind.i64.wrap ((1000 : Int) * s.wide.lo)) (IntKind.i64.wrap ((1000 : Int) *
    s.wide.hi))).less (Sp.mk (IntKind.i64.wrap (w.lo * n)) (IntKind.i64.wrap (w.hi * n)))).lo), AV.int false IntKind.i64 (up ((Sp.mk (IntKind.i64.wrap ((1000 : Int) * s.wide.lo))
    (IntKind.i64.wrap ((1000 : Int) * s.wide.hi))).less (Sp.mk (IntKind.i64.wrap (w.lo * n)) (IntKind.i64.wrap (w.hi * n)))).hi), AV.int false IntKind.i64 s.deep.lo, AV.int false
    IntKind.i64 s.deep.hi], AV.bool false ((Sp.mk (down ((Sp.mk (IntKind.i64.wrap ((1000 : Int) * s.wide.lo)) (IntKind.i64.wrap ((1000 : Int) * s.wide.hi))).less (Sp.mk
    (IntKind.i64.wrap (w.lo * n)) (IntKind.i64.wrap (w.hi * n)))).lo) (up ((Sp.mk (IntKind.i64.wrap ((1000 : Int) * s.wide.lo)) (IntKind.i64.wrap ((1000 : Int) * s.wide.hi))).less
    (Sp.mk (IntKind.i64.wrap (w.lo * n)) (IntKind.i64.wrap (w.hi * n)))).hi)).isIn (1 : Int) (3000 : Int))]) []))))) (Tree.need (decide (Sm (IntKind.i64.wrap ((1000 : Int) * s.wide.lo))
    ∧ Sm (IntKind.i64.wrap ((1000 : Int) * s.wide.hi)) ∧ Sm (IntKind.i64.wrap (w.lo * n)) ∧ Sm (IntKind.i64.wrap (w.hi * n)))) (Tree.need (decide (Sm ((Sp.mk (IntKind.i64.wrap ((1000 :
    Int) * s.wide.lo)) (IntKind.i64.wrap ((1000 : Int) * s.wide.hi))).plus (Sp.mk (IntKind.i64.wrap (w.lo * n)) (IntKind.i64.wrap (w.hi * n)))).lo)) (Tree.need (decide (Sm ((Sp.mk
    (IntKind.i64.wrap ((1000 : Int) * s.wide.lo)) (IntKind.i64.wrap ((1000 : Int) * s.wide.hi))).plus (Sp.mk (IntKind.i64.wrap (w.lo * n)) (IntKind.i64.wrap (w.hi * n)))).hi))
    (Tree.need true (Tree.leaf (AV.tup [AV.agg [AV.int false IntKind.i64 s.kind, AV.int false IntKind.i64 s.at_.lo, AV.int false IntKind.i64 s.at_.hi, AV.int false IntKind.i64 (down
    ((Sp.mk (IntKind.i64.wrap ((1000 : Int) * s.wide.lo)) (IntKind.i64.wrap ((1000 : Int) * s.wide.hi))).plus (Sp.mk (IntKind.i64.wrap (w.lo * n)) (IntKind.i64.wrap (w.hi * n)))).lo),
    AV.int false IntKind.i64 (up ((Sp.mk (IntKind.i64.wrap ((1000 : Int) * s.wide.lo)) (IntKind.i64.wrap ((1000 : Int) * s.wide.hi))).plus (Sp.mk (IntKind.i64.wrap (w.lo * n))
    (IntKind.i64.wrap (w.hi * n)))).hi), AV.int false IntKind.i64 s.deep.lo, AV.int false IntKind.i64 s.deep.hi], AV.bool false ((Sp.mk (down ((Sp.mk (IntKind.i64.wrap ((1000 : Int) *
    s.wide.lo)) (IntKind.i64.wrap ((1000 : Int) * s.wide.hi))).plus (Sp.mk (IntKind.i64.wrap (w.lo * n)) (IntKind.i64.wrap (w.hi * n)))).lo) (up ((Sp.mk (IntKind.i64.wrap ((1000 : Int)
    * s.wide.lo)) (IntKind.i64.wrap ((1000 : Int) * s.wide.hi))).plus (Sp.mk (IntKind.i64.wrap (w.lo * n)) (IntKind.i64.wrap (w.hi * n)))).hi)).isIn (1 : Int) (3000 : Int))]) []))))) := by kernel_rfl
theorem wornBy_s : FSound Try.prog 56 wornByC := by
  refine plain_fn tab_BetweenP_ok 4 Try.func56 (by kernel_rfl) (by kernel_rfl) ?_
  rintro ⟨s, w, n, ⟨⟩⟩ hp
  rw [wornBy_t s w n]
  simp only [wornByF, Tree.den, AV.same, AV.sameL, and_true, true_and] at hp ⊢
  have hq := of_decide_eq_true hp
  simp only [Enc.enc, AV.same, AV.sameL, true_and, and_true]
  obtain ⟨⟨h1, h2, h3⟩, h4, h5⟩ := hq
  obtain ⟨e1, e2⟩ := mul_bd (a := w.lo) (n := n) (by omega) (by omega) (by omega) (by omega)
  obtain ⟨e3, e4⟩ := mul_bd (a := w.hi) (n := n) (by omega) (by omega) (by omega) (by omega)
  rw [w64 (n := 1000 * s.wide.lo) (by omega) (by omega), w64 (n := 1000 * s.wide.hi) (by omega) (by omega), w64 (n := w.lo * n) (by omega) (by omega), w64 (n := w.hi * n) (by omega) (by omega)]
  refine ⟨fun hk => ⟨decide_eq_true (by unfold Sm; omega), decide_eq_true (by unfold Sm Sp.less; simp only; omega), decide_eq_true (by unfold Sm Sp.less; simp only; omega), ?_⟩,
    fun hk => ⟨decide_eq_true (by unfold Sm; omega), decide_eq_true (by unfold Sm Sp.plus; simp only; omega), decide_eq_true (by unfold Sm Sp.plus; simp only; omega), ?_⟩⟩
  · simp only [beq_iff_eq] at hk
    simp [Edge.worn, wornSpan, hk, Sp.less]
  · simp only [beq_eq_false_iff_ne] at hk
    simp [Edge.worn, wornSpan, hk, Sp.plus]
def tab_wornBy : Tab := addF tab_BetweenP 56 wornByC
theorem tab_wornBy_ok : TabOk tab_wornBy := tab_BetweenP_ok.add wornBy_s
def WornPF : Edge × Sp × Int × Unit → Bool × AV := fun | (s, (w, (n, _))) => (true, .tup [Enc.enc (WornF s w n).1, .int false .i64 (WornF s w n).2])
def WornPC : FC := pureFC (pfOf WornPF)
set_option maxRecDepth 100000 in
theorem WornP_t (s : Edge) (w : Sp) (n : Int) : execFn (mkE Try.prog tab_wornBy) (hnd (mkE Try.prog tab_wornBy) 4) false Try.f19 (EncL.enc ((s, w, n, ()) : Edge × Sp × Int × Unit)) [] 0 =
    Tree.need true (Tree.br (!s.ok) (Tree.leaf (AV.tup [AV.agg [AV.int true IntKind.i64 (0 : Int), AV.int true IntKind.i64 (0 : Int), AV.int true IntKind.i64 (0 : Int), AV.int true
    IntKind.i64 (0 : Int), AV.int true IntKind.i64 (0 : Int), AV.int true IntKind.i64 (0 : Int), AV.int true IntKind.i64 (0 : Int)], AV.int true IntKind.i64 (1 : Int)]) []) (Tree.need
    true (Tree.br (!w.isIn (0 : Int) (100 : Int)) (Tree.leaf (AV.tup [AV.agg [AV.int true IntKind.i64 (0 : Int), AV.int true IntKind.i64 (0 : Int), AV.int true IntKind.i64 (0 : Int),
    AV.int true IntKind.i64 (0 : Int), AV.int true IntKind.i64 (0 : Int), AV.int true IntKind.i64 (0 : Int), AV.int true IntKind.i64 (0 : Int)], AV.int true IntKind.i64 (2 : Int)]) [])
    (Tree.need true (Tree.br (!within n (0 : Int) (20000 : Int)) (Tree.leaf (AV.tup [AV.agg [AV.int true IntKind.i64 (0 : Int), AV.int true IntKind.i64 (0 : Int), AV.int true
    IntKind.i64 (0 : Int), AV.int true IntKind.i64 (0 : Int), AV.int true IntKind.i64 (0 : Int), AV.int true IntKind.i64 (0 : Int), AV.int true IntKind.i64 (0 : Int)], AV.int true
    IntKind.i64 (2 : Int)]) []) (Tree.br (s.kind == (0 : Int)) (Tree.leaf (AV.tup [AV.agg [AV.int true IntKind.i64 (0 : Int), AV.int true IntKind.i64 (0 : Int), AV.int true IntKind.i64
    (0 : Int), AV.int true IntKind.i64 (0 : Int), AV.int true IntKind.i64 (0 : Int), AV.int true IntKind.i64 (0 : Int), AV.int true IntKind.i64 (0 : Int)], AV.int true IntKind.i64 (6 :
    Int)]) []) (Tree.need (decide (WearB s w n)) (Tree.br (!(s.worn w n).wide.isIn (1 : Int) (3000 : Int)) (Tree.leaf (AV.tup [AV.agg [AV.int true IntKind.i64 (0 : Int), AV.int true
    IntKind.i64 (0 : Int), AV.int true IntKind.i64 (0 : Int), AV.int true IntKind.i64 (0 : Int), AV.int true IntKind.i64 (0 : Int), AV.int true IntKind.i64 (0 : Int), AV.int true
    IntKind.i64 (0 : Int)], AV.int true IntKind.i64 (11 : Int)]) []) (Tree.leaf (AV.tup [AV.agg [AV.int false IntKind.i64 (s.worn w n).kind, AV.int false IntKind.i64 (s.worn w
    n).at_.lo, AV.int false IntKind.i64 (s.worn w n).at_.hi, AV.int false IntKind.i64 (s.worn w n).wide.lo, AV.int false IntKind.i64 (s.worn w n).wide.hi, AV.int false IntKind.i64
    (s.worn w n).deep.lo, AV.int false IntKind.i64 (s.worn w n).deep.hi], AV.int true IntKind.i64 (0 : Int)]) []))))))))) := by kernel_rfl
theorem WornP_s : FSound Try.prog 19 WornPC := by
  refine plain_fn tab_wornBy_ok 4 Try.func19 (by kernel_rfl) (by kernel_rfl) ?_
  rintro ⟨s, w, n, ⟨⟩⟩ hp
  rw [WornP_t s w n]
  simp only [WornPF, Tree.den, AV.same, AV.sameL, and_true, true_and] at hp ⊢
  simp only [Enc.enc, AV.same, AV.sameL, true_and, and_true]
  (repeat' (first | (refine And.intro ?_ ?_) | (intro _))) <;> simp_all [WornF, Edge.zero]
  all_goals exact wear_B (by assumption) (by assumption) (by assumption) (by assumption)
def tab_WornP : Tab := addF tab_wornBy 19 WornPC
theorem tab_WornP_ok : TabOk tab_WornP := tab_wornBy_ok.add WornP_s
end Go.Proofs.Ytdaanchagjamfaa
/- The reference: its functions without loops. -/
namespace Go.Proofs.Ytdaanchagjamfaa
open Go.SX
structure Differ where
  off : Sp
  wide : Sp
  deep : Sp
instance : Enc Differ where
  enc x := .agg [.int false .i64 x.off.lo, .int false .i64 x.off.hi, .int false .i64 x.wide.lo, .int false .i64 x.wide.hi, .int false .i64 x.deep.lo, .int false .i64 x.deep.hi]
  dec | .agg [.int _ .i64 a0, .int _ .i64 a1, .int _ .i64 a2, .int _ .i64 a3, .int _ .i64 a4, .int _ .i64 a5] => some ⟨⟨a0, a1⟩, ⟨a2, a3⟩, ⟨a4, a5⟩⟩ | _ => none
  ok v x h := by
    split at h <;> (try (cases h; done))
    simp only [Option.some.injEq] at h; subst h; exact ⟨fun _ => rfl, rfl⟩
theorem by_bd {p : Play} {t h : Edge} (hB : Couple.B ⟨p, t, h⟩) : ((-100000 ≤ (offBy p t h).lo ∧ (offBy p t h).lo ≤ 100000) ∧ -100000 ≤ (offBy p t h).hi ∧ (offBy p t h).hi ≤ 100000) ∧ ((-100000 ≤ (wideBy t h).lo ∧ (wideBy t h).lo ≤ 100000) ∧ -100000 ≤ (wideBy t h).hi ∧ (wideBy t h).hi ≤ 100000) ∧
    ((-100000 ≤ (deepBy t h).lo ∧ (deepBy t h).lo ≤ 100000) ∧ -100000 ≤ (deepBy t h).hi ∧ (deepBy t h).hi ≤ 100000) ∧ (0 ≤ p.damp.lo ∧ p.damp.lo ≤ 100) ∧ 0 ≤ p.damp.hi ∧ p.damp.hi ≤ 100 := by
  obtain ⟨h1, h2, h3⟩ := hB
  unfold PlayB at h1; unfold SideB at h2 h3; simp only [offBy, wideBy, deepBy] at *
  omega
theorem by_off {p : Play} {t h : Edge} (h1 : p.ok = true) (h2 : t.ok = true) (h3 : h.ok = true) (ht : t.kind = 1) (hh : h.kind = 2) : (-100000 ≤ (offBy p t h).lo ∧ (offBy p t h).lo ≤ 100000) ∧ (-100000 ≤ (offBy p t h).hi ∧ (offBy p t h).hi ≤ 100000) ∧ (0 ≤ p.damp.lo ∧ p.damp.lo ≤ 100) ∧ 0 ≤ p.damp.hi ∧ p.damp.hi ≤ 100 := by
  have := by_bd (couple_B h1 h2 h3 ht hh); exact ⟨this.1.1, this.1.2, this.2.2.2⟩
theorem by_wide {p : Play} {t h : Edge} (h1 : p.ok = true) (h2 : t.ok = true) (h3 : h.ok = true) (ht : t.kind = 1) (hh : h.kind = 2) : (-100000 ≤ (wideBy t h).lo ∧ (wideBy t h).lo ≤ 100000) ∧ (-100000 ≤ (wideBy t h).hi ∧ (wideBy t h).hi ≤ 100000) ∧ (0 ≤ p.damp.lo ∧ p.damp.lo ≤ 100) ∧ 0 ≤ p.damp.hi ∧ p.damp.hi ≤ 100 := by
  have := by_bd (couple_B h1 h2 h3 ht hh); exact ⟨this.2.1.1, this.2.1.2, this.2.2.2⟩
theorem by_deep {p : Play} {t h : Edge} (h1 : p.ok = true) (h2 : t.ok = true) (h3 : h.ok = true) (ht : t.kind = 1) (hh : h.kind = 2) : (-100000 ≤ (deepBy t h).lo ∧ (deepBy t h).lo ≤ 100000) ∧ (-100000 ≤ (deepBy t h).hi ∧ (deepBy t h).hi ≤ 100000) ∧ (0 ≤ p.damp.lo ∧ p.damp.lo ≤ 100) ∧ 0 ≤ p.damp.hi ∧ p.damp.hi ≤ 100 := by
  have := by_bd (couple_B h1 h2 h3 ht hh); exact ⟨this.2.2.1.1, this.2.2.1.2, this.2.2.2⟩
/-- What 'all' and 'some' are asked of. -/
def AllP (s : Sp) (lo hi : Int) (d : Sp) : Bool := decide ((-100000 ≤ s.lo ∧ s.lo ≤ 100000) ∧ (-100000 ≤ s.hi ∧ s.hi ≤ 100000) ∧ (-500 ≤ lo ∧ lo ≤ 500) ∧ (-500 ≤ hi ∧ hi ≤ 500) ∧ 0 ≤ d.hi ∧ d.hi ≤ 100)
def rinF : Int × Int × Int × Unit → Bool × AV := fun | (n, (a, (b, _))) => (true, .bool false (within n a b))
def rinC : FC := pureFC (pfOf rinF)
set_option maxRecDepth 100000 in
theorem rin_t (n : Int) (a : Int) (b : Int) : execFn (mkE Try.prog tab_WornP) (hnd (mkE Try.prog tab_WornP) 0) false Try.f58 (EncL.enc ((n, a, b, ()) : Int × Int × Int × Unit)) [] 0 =
    Tree.br (decide (a ≤ n)) (Tree.leaf (AV.bool false (decide (n ≤ b))) []) (Tree.leaf (AV.bool true false) []) := by kernel_rfl
theorem rin_s : FSound Try.prog 58 rinC := by
  refine plain_fn tab_WornP_ok 0 Try.func58 (by kernel_rfl) (by kernel_rfl) ?_
  rintro ⟨n, a, b, ⟨⟩⟩ hp
  rw [rin_t n a b]
  simp only [rinF, Tree.den, AV.same, AV.sameL, and_true, true_and] at hp ⊢
  (repeat' (first | (refine And.intro ?_ ?_) | (intro _))) <;> simp_all [within] <;> omega
def tab_rin : Tab := addF tab_WornP 58 rinC
theorem tab_rin_ok : TabOk tab_rin := tab_WornP_ok.add rin_s
def rspanF : Sp × Int × Int × Unit → Bool × AV := fun | (s, (a, (b, _))) => (true, .bool false (s.isIn a b))
def rspanC : FC := pureFC (pfOf rspanF)
set_option maxRecDepth 100000 in
theorem rspan_t (s : Sp) (a : Int) (b : Int) : execFn (mkE Try.prog tab_rin) (hnd (mkE Try.prog tab_rin) 0) false Try.f57 (EncL.enc ((s, a, b, ()) : Sp × Int × Int × Unit)) [] 0 =
    Tree.br (decide (a ≤ s.lo)) (Tree.br (decide (s.lo ≤ s.hi)) (Tree.leaf (AV.bool false (decide (s.hi ≤ b))) []) (Tree.leaf (AV.bool true false) [])) (Tree.leaf (AV.bool true false)
    []) := by kernel_rfl
theorem rspan_s : FSound Try.prog 57 rspanC := by
  refine plain_fn tab_rin_ok 0 Try.func57 (by kernel_rfl) (by kernel_rfl) ?_
  rintro ⟨s, a, b, ⟨⟩⟩ hp
  rw [rspan_t s a b]
  simp only [rspanF, Tree.den, AV.same, AV.sameL, and_true, true_and] at hp ⊢
  (repeat' (first | (refine And.intro ?_ ?_) | (intro _))) <;> simp_all [Sp.isIn] <;> omega
def tab_rspan : Tab := addF tab_rin 57 rspanC
theorem tab_rspan_ok : TabOk tab_rspan := tab_rin_ok.add rspan_s
def rDownF : Int × Int × Unit → Bool × AV := fun | (n, (d, _)) => (decide (Sm n ∧ d = 1000), .int false .i64 (down n))
def rDownC : FC := pureFC (pfOf rDownF)
set_option maxRecDepth 100000 in
theorem rDown_t (n : Int) (d : Int) : execFn (mkE Try.prog tab_rspan) (hnd (mkE Try.prog tab_rspan) 0) false Try.f41 (EncL.enc ((n, d, ()) : Int × Int × Unit)) [] 0 =
    Tree.need (!decide (d = (0 : Int))) (Tree.br (decide (IntKind.i64.wrap (IntKind.i64.wrap (n.tdiv d) * d) > n)) (Tree.leaf (AV.int false IntKind.i64 (IntKind.i64.wrap
    (IntKind.i64.wrap (n.tdiv d) - (1 : Int)))) []) (Tree.leaf (AV.int false IntKind.i64 (IntKind.i64.wrap (n.tdiv d))) [])) := by kernel_rfl
theorem rDown_s : FSound Try.prog 41 rDownC := by
  refine plain_fn tab_rspan_ok 0 Try.func41 (by kernel_rfl) (by kernel_rfl) ?_
  rintro ⟨n, d, ⟨⟩⟩ hp
  rw [rDown_t n d]
  simp only [rDownF, Tree.den, AV.same, AV.sameL, and_true, true_and] at hp ⊢
  have hq := of_decide_eq_true hp
  obtain ⟨h1, rfl⟩ := hq
  obtain ⟨b1, b2⟩ := tdiv_bd n h1
  have h1' := h1
  unfold Sm at h1'
  have e1 : IntKind.i64.wrap (n.tdiv 1000) = n.tdiv 1000 := w64 (by omega) (by omega)
  rw [e1, w64 (n := n.tdiv 1000 * 1000) (by omega) (by omega), w64 (n := n.tdiv 1000 - 1) (by omega) (by omega)]
  refine ⟨rfl, fun h => ?_, fun h => ?_⟩
  · exact down_neg n ((tdiv_mul n).1 (of_decide_eq_true h))
  · refine down_pos n ?_
    have := of_decide_eq_false h
    rw [show (n.tdiv 1000 * 1000 > n) = (n.tmod 1000 < 0) from propext (tdiv_mul n)] at this
    omega
def tab_rDown : Tab := addF tab_rspan 41 rDownC
theorem tab_rDown_ok : TabOk tab_rDown := tab_rspan_ok.add rDown_s
def rUpF : Int × Int × Unit → Bool × AV := fun | (n, (d, _)) => (decide (Sm n ∧ d = 1000), .int false .i64 (up n))
def rUpC : FC := pureFC (pfOf rUpF)
set_option maxRecDepth 100000 in
theorem rUp_t (n : Int) (d : Int) : execFn (mkE Try.prog tab_rDown) (hnd (mkE Try.prog tab_rDown) 0) false Try.f42 (EncL.enc ((n, d, ()) : Int × Int × Unit)) [] 0 =
    Tree.need (decide (Sm (IntKind.i64.wrap ((0 : Int) - n)) ∧ d = (1000 : Int))) (Tree.leaf (AV.int false IntKind.i64 (IntKind.i64.wrap ((0 : Int) - down (IntKind.i64.wrap ((0 : Int) -
    n))))) []) := by kernel_rfl
theorem rUp_s : FSound Try.prog 42 rUpC := by
  refine plain_fn tab_rDown_ok 0 Try.func42 (by kernel_rfl) (by kernel_rfl) ?_
  rintro ⟨n, d, ⟨⟩⟩ hp
  rw [rUp_t n d]
  simp only [rUpF, Tree.den, AV.same, AV.sameL, and_true, true_and] at hp ⊢
  have hq := of_decide_eq_true hp
  obtain ⟨h1, rfl⟩ := hq
  have h2 : Sm (-n) := by unfold Sm at *; omega
  have h3 := down_sm h2
  have e : IntKind.i64.wrap (0 - n) = -n := by unfold Sm at h1; rw [w64 (by omega) (by omega)]; omega
  rw [e]
  refine ⟨decide_eq_true ⟨h2, rfl⟩, ?_⟩
  unfold Sm at h3
  rw [w64 (by omega) (by omega)]
  show 0 - down (-n) = up n
  unfold up down; omega
def tab_rUp : Tab := addF tab_rDown 42 rUpC
theorem tab_rUp_ok : TabOk tab_rUp := tab_rDown_ok.add rUp_s
def rSideF : Edge × Unit → Bool × AV := fun | (a, _) => (true, .bool false a.ok)
def rSideC : FC := pureFC (pfOf rSideF)
set_option maxRecDepth 100000 in
theorem rSide_t (a : Edge) : execFn (mkE Try.prog tab_rUp) (hnd (mkE Try.prog tab_rUp) 0) false Try.f36 (EncL.enc ((a, ()) : Edge × Unit)) [] 0 =
    Tree.br (a.kind == (0 : Int)) (Tree.leaf (AV.bool true true) []) (Tree.need true (Tree.br (within a.kind (1 : Int) (2 : Int)) (Tree.need true (Tree.br (a.at_.isIn (0 : Int) (10000 :
    Int)) (Tree.need true (Tree.br (a.wide.isIn (1 : Int) (3000 : Int)) (Tree.need true (Tree.leaf (AV.bool false (a.deep.isIn (1 : Int) (3000 : Int))) [])) (Tree.leaf (AV.bool true
    false) []))) (Tree.leaf (AV.bool true false) []))) (Tree.leaf (AV.bool true false) []))) := by kernel_rfl
theorem rSide_s : FSound Try.prog 36 rSideC := by
  refine plain_fn tab_rUp_ok 0 Try.func36 (by kernel_rfl) (by kernel_rfl) ?_
  rintro ⟨a, ⟨⟩⟩ hp
  rw [rSide_t a]
  simp only [rSideF, Tree.den, AV.same, AV.sameL, and_true, true_and] at hp ⊢
  have hw : within a.kind 1 2 = ((a.kind == 1) || (a.kind == 2)) := by
    unfold within
    rw [Bool.eq_iff_iff]
    simp only [decide_eq_true_eq, Bool.or_eq_true, beq_iff_eq]; omega
  simp only [hw]
  unfold Edge.ok
  cases (a.kind == 0) <;> cases ((a.kind == 1) || (a.kind == 2)) <;> cases a.at_.isIn 0 10000 <;> cases a.wide.isIn 1 3000 <;> simp
def tab_rSide : Tab := addF tab_rUp 36 rSideC
theorem tab_rSide_ok : TabOk tab_rSide := tab_rUp_ok.add rSide_s
def rPlayF : Play × Unit → Bool × AV := fun | (p, _) => (true, .bool false p.ok)
def rPlayC : FC := pureFC (pfOf rPlayF)
set_option maxRecDepth 100000 in
theorem rPlay_t (p : Play) : execFn (mkE Try.prog tab_rSide) (hnd (mkE Try.prog tab_rSide) 0) false Try.f35 (EncL.enc ((p, ()) : Play × Unit)) [] 0 =
    Tree.need true (Tree.br (within p.length (1 : Int) (10000 : Int)) (Tree.need true (Tree.br (within p.slack (0 : Int) (500 : Int)) (Tree.need true (Tree.br (within p.loose (0 : Int)
    (500 : Int)) (Tree.need true (Tree.leaf (AV.bool false (p.damp.isIn (0 : Int) (100 : Int))) [])) (Tree.leaf (AV.bool true false) []))) (Tree.leaf (AV.bool true false) [])))
    (Tree.leaf (AV.bool true false) [])) := by kernel_rfl
theorem rPlay_s : FSound Try.prog 35 rPlayC := by
  refine plain_fn tab_rSide_ok 0 Try.func35 (by kernel_rfl) (by kernel_rfl) ?_
  rintro ⟨p, ⟨⟩⟩ hp
  rw [rPlay_t p]
  simp only [rPlayF, Tree.den, AV.same, AV.sameL, and_true, true_and] at hp ⊢
  (repeat' (first | (refine And.intro ?_ ?_) | (intro _))) <;> simp_all [Play.ok]
def tab_rPlay : Tab := addF tab_rSide 35 rPlayC
theorem tab_rPlay_ok : TabOk tab_rPlay := tab_rSide_ok.add rPlay_s
def rDifferF : Play × Edge × Edge × Unit → Bool × AV := fun | (p, (t, (h, _))) => (decide (Couple.B ⟨p, t, h⟩), Enc.enc (⟨offBy p t h, wideBy t h, deepBy t h⟩ : Differ))
def rDifferC : FC := pureFC (pfOf rDifferF)
set_option maxRecDepth 100000 in
theorem rDiffer_t (p : Play) (t : Edge) (h : Edge) : execFn (mkE Try.prog tab_rPlay) (hnd (mkE Try.prog tab_rPlay) 0) false Try.f40 (EncL.enc ((p, t, h, ()) : Play × Edge × Edge × Unit)) [] 0 =
    Tree.leaf (AV.agg [AV.int false IntKind.i64 (IntKind.i64.wrap (IntKind.i64.wrap (t.at_.lo + h.at_.lo) - p.length)), AV.int false IntKind.i64 (IntKind.i64.wrap (IntKind.i64.wrap
    (t.at_.hi + h.at_.hi) - p.length)), AV.int false IntKind.i64 (IntKind.i64.wrap (h.wide.lo - t.wide.hi)), AV.int false IntKind.i64 (IntKind.i64.wrap (h.wide.hi - t.wide.lo)), AV.int
    false IntKind.i64 (IntKind.i64.wrap (h.deep.lo - t.deep.hi)), AV.int false IntKind.i64 (IntKind.i64.wrap (h.deep.hi - t.deep.lo))]) [] := by kernel_rfl
theorem rDiffer_s : FSound Try.prog 40 rDifferC := by
  refine plain_fn tab_rPlay_ok 0 Try.func40 (by kernel_rfl) (by kernel_rfl) ?_
  rintro ⟨p, t, h, ⟨⟩⟩ hp
  rw [rDiffer_t p t h]
  simp only [rDifferF, Tree.den, AV.same, AV.sameL, and_true, true_and] at hp ⊢
  have hq := of_decide_eq_true hp
  obtain ⟨h1, h2, h3⟩ := hq
  unfold PlayB at h1; unfold SideB at h2 h3; simp only at h1 h2 h3
  simp only [Enc.enc, AV.same, AV.sameL, true_and, and_true, offBy, wideBy, deepBy]
  rw [w64 (n := t.at_.lo + h.at_.lo) (by omega) (by omega), w64 (n := t.at_.hi + h.at_.hi) (by omega) (by omega)]
  rw [w64 (by omega) (by omega), w64 (by omega) (by omega), w64 (by omega) (by omega), w64 (by omega) (by omega), w64 (by omega) (by omega), w64 (by omega) (by omega)]
  refine ⟨?_, ?_, ?_, ?_, ?_, ?_⟩ <;> omega
def tab_rDiffer : Tab := addF tab_rPlay 40 rDifferC
theorem tab_rDiffer_ok : TabOk tab_rDiffer := tab_rPlay_ok.add rDiffer_s
def rallF : Sp × Int × Int × Sp × Unit → Bool × AV := fun | (s, (lo, (hi, (d, _)))) => (AllP s lo hi d, .bool false (alwaysB s.lo s.hi lo hi d.hi))
def rallC : FC := pureFC (pfOf rallF)
set_option maxRecDepth 100000 in
theorem rall_t (s : Sp) (lo : Int) (hi : Int) (d : Sp) : execFn (mkE Try.prog tab_rDiffer) (hnd (mkE Try.prog tab_rDiffer) 0) false Try.f75 (EncL.enc ((s, lo, hi, d, ()) : Sp × Int × Int × Sp × Unit)) [] 0 =
    Tree.br (decide (IntKind.i64.wrap (s.lo * IntKind.i64.wrap ((1000 : Int) + d.hi)) ≥ IntKind.i64.wrap ((1000 : Int) * lo))) (Tree.leaf (AV.bool false (decide (IntKind.i64.wrap (s.hi
    * IntKind.i64.wrap ((1000 : Int) + d.hi)) ≤ IntKind.i64.wrap ((1000 : Int) * hi)))) []) (Tree.leaf (AV.bool true false) []) := by kernel_rfl
theorem rall_s : FSound Try.prog 75 rallC := by
  refine plain_fn tab_rDiffer_ok 0 Try.func75 (by kernel_rfl) (by kernel_rfl) ?_
  rintro ⟨s, lo, hi, d, ⟨⟩⟩ hp
  rw [rall_t s lo hi d]
  simp only [rallF, Tree.den, AV.same, AV.sameL, and_true, true_and] at hp ⊢
  have hq := of_decide_eq_true hp
  obtain ⟨h1, h2, h3, h4, h5⟩ := hq
  exact always_w h1 h2 h3 h4 h5
def tab_rall : Tab := addF tab_rDiffer 75 rallC
theorem tab_rall_ok : TabOk tab_rall := tab_rDiffer_ok.add rall_s
def rdampedF : Sp × Sp × Unit → Bool × AV := fun | (s, (d, _)) => (decide ((-100000 ≤ s.lo ∧ s.lo ≤ 100000) ∧ (-100000 ≤ s.hi ∧ s.hi ≤ 100000) ∧ (0 ≤ d.lo ∧ d.lo ≤ 100) ∧ 0 ≤ d.hi ∧ d.hi ≤ 100), Enc.enc (s.damped d))
def rdampedC : FC := pureFC (pfOf rdampedF)
set_option maxRecDepth 100000 in
theorem rdamped_t (s : Sp) (d : Sp) : execFn (mkE Try.prog tab_rall) (hnd (mkE Try.prog tab_rall) 0) false Try.f52 (EncL.enc ((s, d, ()) : Sp × Sp × Unit)) [] 0 =
    Tree.need (decide (Sm (min (IntKind.i64.wrap (s.lo * IntKind.i64.wrap ((1000 : Int) + d.lo))) (IntKind.i64.wrap (s.lo * IntKind.i64.wrap ((1000 : Int) + d.hi)))) ∧ (1000 : Int) =
    (1000 : Int))) (Tree.need (decide (Sm (max (IntKind.i64.wrap (s.hi * IntKind.i64.wrap ((1000 : Int) + d.lo))) (IntKind.i64.wrap (s.hi * IntKind.i64.wrap ((1000 : Int) + d.hi)))) ∧
    (1000 : Int) = (1000 : Int))) (Tree.leaf (AV.agg [AV.int false IntKind.i64 (down (min (IntKind.i64.wrap (s.lo * IntKind.i64.wrap ((1000 : Int) + d.lo))) (IntKind.i64.wrap (s.lo *
    IntKind.i64.wrap ((1000 : Int) + d.hi))))), AV.int false IntKind.i64 (up (max (IntKind.i64.wrap (s.hi * IntKind.i64.wrap ((1000 : Int) + d.lo))) (IntKind.i64.wrap (s.hi *
    IntKind.i64.wrap ((1000 : Int) + d.hi)))))]) [])) := by kernel_rfl
theorem rdamped_s : FSound Try.prog 52 rdampedC := by
  refine plain_fn tab_rall_ok 0 Try.func52 (by kernel_rfl) (by kernel_rfl) ?_
  rintro ⟨s, d, ⟨⟩⟩ hp
  rw [rdamped_t s d]
  simp only [rdampedF, Tree.den, AV.same, AV.sameL, and_true, true_and] at hp ⊢
  have hq := of_decide_eq_true hp
  obtain ⟨h1, h2, h3, h4⟩ := hq
  obtain ⟨a, b, c, e⟩ := damped_w h1 h2 h3 h4
  refine ⟨by simpa using a, by simpa using b, ?_⟩
  simp only [Enc.enc, AV.same, AV.sameL, true_and, and_true]
  exact ⟨c, e⟩
def tab_rdamped : Tab := addF tab_rall 52 rdampedC
theorem tab_rdamped_ok : TabOk tab_rdamped := tab_rall_ok.add rdamped_s
def rBetweenF : Play × Edge × Edge × Unit → Bool × AV := fun | (p, (a, (b, _))) => (true, .tup [Enc.enc (BetweenF p a b).1, .int false .i64 (BetweenF p a b).2])
def rBetweenC : FC := pureFC (pfOf rBetweenF)
set_option maxRecDepth 100000 in
theorem rBetween_t (p : Play) (a : Edge) (b : Edge) : execFn (mkE Try.prog tab_rdamped) (hnd (mkE Try.prog tab_rdamped) 4) false Try.f18 (EncL.enc ((p, a, b, ()) : Play × Edge × Edge × Unit)) [] 0 =
    Tree.need true (Tree.br (!p.ok) (Tree.leaf (AV.tup [AV.agg [AV.int true IntKind.i64 (0 : Int), AV.int true IntKind.i64 (0 : Int), AV.int true IntKind.i64 (0 : Int), AV.int true
    IntKind.i64 (0 : Int), AV.int true IntKind.i64 (0 : Int), AV.int true IntKind.i64 (0 : Int)], AV.int true IntKind.i64 (1 : Int)]) []) (Tree.need true (Tree.br (!a.ok) (Tree.leaf
    (AV.tup [AV.agg [AV.int true IntKind.i64 (0 : Int), AV.int true IntKind.i64 (0 : Int), AV.int true IntKind.i64 (0 : Int), AV.int true IntKind.i64 (0 : Int), AV.int true IntKind.i64
    (0 : Int), AV.int true IntKind.i64 (0 : Int)], AV.int true IntKind.i64 (1 : Int)]) []) (Tree.need true (Tree.br (!b.ok) (Tree.leaf (AV.tup [AV.agg [AV.int true IntKind.i64 (0 :
    Int), AV.int true IntKind.i64 (0 : Int), AV.int true IntKind.i64 (0 : Int), AV.int true IntKind.i64 (0 : Int), AV.int true IntKind.i64 (0 : Int), AV.int true IntKind.i64 (0 : Int)],
    AV.int true IntKind.i64 (1 : Int)]) []) (Tree.br (a.kind == (1 : Int)) (Tree.br (b.kind == (2 : Int)) (Tree.need (decide (Couple.mk p a b).B) (Tree.need (decide (((-100000 : Int) ≤
    (offBy p a b).lo ∧ (offBy p a b).lo ≤ (100000 : Int)) ∧ ((-100000 : Int) ≤ (offBy p a b).hi ∧ (offBy p a b).hi ≤ (100000 : Int)) ∧ ((0 : Int) ≤ p.damp.lo ∧ p.damp.lo ≤ (100 : Int))
    ∧ (0 : Int) ≤ p.damp.hi ∧ p.damp.hi ≤ (100 : Int))) (Tree.need (decide (((-100000 : Int) ≤ (wideBy a b).lo ∧ (wideBy a b).lo ≤ (100000 : Int)) ∧ ((-100000 : Int) ≤ (wideBy a b).hi ∧
    (wideBy a b).hi ≤ (100000 : Int)) ∧ ((0 : Int) ≤ p.damp.lo ∧ p.damp.lo ≤ (100 : Int)) ∧ (0 : Int) ≤ p.damp.hi ∧ p.damp.hi ≤ (100 : Int))) (Tree.need (decide (((-100000 : Int) ≤
    (deepBy a b).lo ∧ (deepBy a b).lo ≤ (100000 : Int)) ∧ ((-100000 : Int) ≤ (deepBy a b).hi ∧ (deepBy a b).hi ≤ (100000 : Int)) ∧ ((0 : Int) ≤ p.damp.lo ∧ p.damp.lo ≤ (100 : Int)) ∧ (0
    : Int) ≤ p.damp.hi ∧ p.damp.hi ≤ (100 : Int))) (Tree.leaf (AV.tup [AV.agg [AV.int false IntKind.i64 ((offBy p a b).damped p.damp).lo, AV.int false IntKind.i64 ((offBy p a b).damped
    p.damp).hi, AV.int false IntKind.i64 ((wideBy a b).damped p.damp).lo, AV.int false IntKind.i64 ((wideBy a b).damped p.damp).hi, AV.int false IntKind.i64 ((deepBy a b).damped
    p.damp).lo, AV.int false IntKind.i64 ((deepBy a b).damped p.damp).hi], AV.int true IntKind.i64 (0 : Int)]) []))))) (Tree.br (b.kind == (1 : Int)) (Tree.br (a.kind == (2 : Int))
    (Tree.need (decide (Couple.mk p b a).B) (Tree.need (decide (((-100000 : Int) ≤ (offBy p b a).lo ∧ (offBy p b a).lo ≤ (100000 : Int)) ∧ ((-100000 : Int) ≤ (offBy p b a).hi ∧ (offBy p
    b a).hi ≤ (100000 : Int)) ∧ ((0 : Int) ≤ p.damp.lo ∧ p.damp.lo ≤ (100 : Int)) ∧ (0 : Int) ≤ p.damp.hi ∧ p.damp.hi ≤ (100 : Int))) (Tree.need (decide (((-100000 : Int) ≤ (wideBy b
    a).lo ∧ (wideBy b a).lo ≤ (100000 : Int)) ∧ ((-100000 : Int) ≤ (wideBy b a).hi ∧ (wideBy b a).hi ≤ (100000 : Int)) ∧ ((0 : Int) ≤ p.damp.lo ∧ p.damp.lo ≤ (100 : Int)) ∧ (0 : Int) ≤
    p.damp.hi ∧ p.damp.hi ≤ (100 : Int))) (Tree.need (decide (((-100000 : Int) ≤ (deepBy b a).lo ∧ (deepBy b a).lo ≤ (100000 : Int)) ∧ ((-100000 : Int) ≤ (deepBy b a).hi ∧ (deepBy b
    a).hi ≤ (100000 : Int)) ∧ ((0 : Int) ≤ p.damp.lo ∧ p.damp.lo ≤ (100 : Int)) ∧ (0 : Int) ≤ p.damp.hi ∧ p.damp.hi ≤ (100 : Int))) (Tree.leaf (AV.tup [AV.agg [AV.int false IntKind.i64
    ((offBy p b a).damped p.damp).lo, AV.int false IntKind.i64 ((offBy p b a).damped p.damp).hi, AV.int false IntKind.i64 ((wideBy b a).damped p.damp).lo, AV.int false IntKind.i64
    ((wideBy b a).damped p.damp).hi, AV.int false IntKind.i64 ((deepBy b a).damped p.damp).lo, AV.int false IntKind.i64 ((deepBy b a).damped p.damp).hi], AV.int true IntKind.i64 (0 :
    Int)]) []))))) (Tree.leaf (AV.tup [AV.agg [AV.int true IntKind.i64 (0 : Int), AV.int true IntKind.i64 (0 : Int), AV.int true IntKind.i64 (0 : Int), AV.int true IntKind.i64 (0 :
    Int), AV.int true IntKind.i64 (0 : Int), AV.int true IntKind.i64 (0 : Int)], AV.int true IntKind.i64 (6 : Int)]) [])) (Tree.leaf (AV.tup [AV.agg [AV.int true IntKind.i64 (0 : Int),
    AV.int true IntKind.i64 (0 : Int), AV.int true IntKind.i64 (0 : Int), AV.int true IntKind.i64 (0 : Int), AV.int true IntKind.i64 (0 : Int), AV.int true IntKind.i64 (0 : Int)],
    AV.int true IntKind.i64 (6 : Int)]) []))) (Tree.br (b.kind == (1 : Int)) (Tree.br (a.kind == (2 : Int)) (Tree.need (decide (Couple.mk p b a).B) (Tree.need (decide (((-100000 : Int)
    ≤ (offBy p b a).lo ∧ (offBy p b a).lo ≤ (100000 : Int)) ∧ ((-100000 : Int) ≤ (offBy p b a).hi ∧ (offBy p b a).hi ≤ (100000 : Int)) ∧ ((0 : Int) ≤ p.damp.lo ∧ p.damp.lo ≤ (100 :
    Int)) ∧ (0 : Int) ≤ p.damp.hi ∧ p.damp.hi ≤ (100 : Int))) (Tree.need (decide (((-100000 : Int) ≤ (wideBy b a).lo ∧ (wideBy b a).lo ≤ (100000 : Int)) ∧ ((-100000 : Int) ≤ (wideBy b
    a).hi ∧ (wideBy b a).hi ≤ (100000 : Int)) ∧ ((0 : Int) ≤ p.damp.lo ∧ p.damp.lo ≤ (100 : Int)) ∧ (0 : Int) ≤ p.damp.hi ∧ p.damp.hi ≤ (100 : Int))) (Tree.need (decide (((-100000 :
    Int) ≤ (deepBy b a).lo ∧ (deepBy b a).lo ≤ (100000 : Int)) ∧ ((-100000 : Int) ≤ (deepBy b a).hi ∧ (deepBy b a).hi ≤ (100000 : Int)) ∧ ((0 : Int) ≤ p.damp.lo ∧ p.damp.lo ≤ (100 :
    Int)) ∧ (0 : Int) ≤ p.damp.hi ∧ p.damp.hi ≤ (100 : Int))) (Tree.leaf (AV.tup [AV.agg [AV.int false IntKind.i64 ((offBy p b a).damped p.damp).lo, AV.int false IntKind.i64 ((offBy p b
    a).damped p.damp).hi, AV.int false IntKind.i64 ((wideBy b a).damped p.damp).lo, AV.int false IntKind.i64 ((wideBy b a).damped p.damp).hi, AV.int false IntKind.i64 ((deepBy b
    a).damped p.damp).lo, AV.int false IntKind.i64 ((deepBy b a).damped p.damp).hi], AV.int true IntKind.i64 (0 : Int)]) []))))) (Tree.leaf (AV.tup [AV.agg [AV.int true IntKind.i64 (0 :
    Int), AV.int true IntKind.i64 (0 : Int), AV.int true IntKind.i64 (0 : Int), AV.int true IntKind.i64 (0 : Int), AV.int true IntKind.i64 (0 : Int), AV.int true IntKind.i64 (0 : Int)],
    AV.int true IntKind.i64 (6 : Int)]) [])) (Tree.leaf (AV.tup [AV.agg [AV.int true IntKind.i64 (0 : Int), AV.int true IntKind.i64 (0 : Int), AV.int true IntKind.i64 (0 : Int), AV.int
    true IntKind.i64 (0 : Int), AV.int true IntKind.i64 (0 : Int), AV.int true IntKind.i64 (0 : Int)], AV.int true IntKind.i64 (6 : Int)]) [])))))))) := by kernel_rfl
theorem rBetween_s : FSound Try.prog 18 rBetweenC := by
  refine plain_fn tab_rdamped_ok 4 Try.func18 (by kernel_rfl) (by kernel_rfl) ?_
  rintro ⟨p, a, b, ⟨⟩⟩ hp
  rw [rBetween_t p a b]
  simp only [rBetweenF, Tree.den, AV.same, AV.sameL, and_true, true_and] at hp ⊢
  simp only [Enc.enc, AV.same, AV.sameL, true_and, and_true]
  (repeat' (first | (refine And.intro ?_ ?_) | (intro _))) <;> simp_all [BetweenF, Gap.zero]
  all_goals first | rfl | exact couple_B (by assumption) (by assumption) (by assumption) (by assumption) (by assumption) | exact by_off (by assumption) (by assumption) (by assumption) (by assumption) (by assumption) | exact by_wide (by assumption) (by assumption) (by assumption) (by assumption) (by assumption) | exact by_deep (by assumption) (by assumption) (by assumption) (by assumption) (by assumption)
def tab_rBetween : Tab := addF tab_rdamped 18 rBetweenC
theorem tab_rBetween_ok : TabOk tab_rBetween := tab_rdamped_ok.add rBetween_s
def rWornF : Edge × Sp × Int × Unit → Bool × AV := fun | (s, (w, (n, _))) => (true, .tup [Enc.enc (WornF s w n).1, .int false .i64 (WornF s w n).2])
def rWornC : FC := pureFC (pfOf rWornF)
set_option maxRecDepth 100000 in
theorem rWorn_t (s : Edge) (w : Sp) (n : Int) : execFn (mkE Try.prog tab_rBetween) (hnd (mkE Try.prog tab_rBetween) 4) false Try.f20 (EncL.enc ((s, w, n, ()) : Edge × Sp × Int × Unit)) [] 0 =
    Tree.need true (Tree.br (!s.ok) (Tree.leaf (AV.tup [AV.agg [AV.int true IntKind.i64 (0 : Int), AV.int true IntKind.i64 (0 : Int), AV.int true IntKind.i64 (0 : Int), AV.int true
    IntKind.i64 (0 : Int), AV.int true IntKind.i64 (0 : Int), AV.int true IntKind.i64 (0 : Int), AV.int true IntKind.i64 (0 : Int)], AV.int true IntKind.i64 (1 : Int)]) []) (Tree.need
    true (Tree.br (!w.isIn (0 : Int) (100 : Int)) (Tree.leaf (AV.tup [AV.agg [AV.int true IntKind.i64 (0 : Int), AV.int true IntKind.i64 (0 : Int), AV.int true IntKind.i64 (0 : Int),
    AV.int true IntKind.i64 (0 : Int), AV.int true IntKind.i64 (0 : Int), AV.int true IntKind.i64 (0 : Int), AV.int true IntKind.i64 (0 : Int)], AV.int true IntKind.i64 (2 : Int)]) [])
    (Tree.need true (Tree.br (!within n (0 : Int) (20000 : Int)) (Tree.leaf (AV.tup [AV.agg [AV.int true IntKind.i64 (0 : Int), AV.int true IntKind.i64 (0 : Int), AV.int true
    IntKind.i64 (0 : Int), AV.int true IntKind.i64 (0 : Int), AV.int true IntKind.i64 (0 : Int), AV.int true IntKind.i64 (0 : Int), AV.int true IntKind.i64 (0 : Int)], AV.int true
    IntKind.i64 (2 : Int)]) []) (Tree.br (s.kind == (0 : Int)) (Tree.leaf (AV.tup [AV.agg [AV.int true IntKind.i64 (0 : Int), AV.int true IntKind.i64 (0 : Int), AV.int true IntKind.i64
    (0 : Int), AV.int true IntKind.i64 (0 : Int), AV.int true IntKind.i64 (0 : Int), AV.int true IntKind.i64 (0 : Int), AV.int true IntKind.i64 (0 : Int)], AV.int true IntKind.i64 (6 :
    Int)]) []) (Tree.need (decide (Sm (IntKind.i64.wrap (IntKind.i64.wrap ((1000 : Int) * s.wide.lo) - IntKind.i64.wrap (w.hi * n))) ∧ (1000 : Int) = (1000 : Int))) (Tree.need (decide
    (Sm (IntKind.i64.wrap (IntKind.i64.wrap ((1000 : Int) * s.wide.hi) - IntKind.i64.wrap (w.lo * n))) ∧ (1000 : Int) = (1000 : Int))) (Tree.br (s.kind == (2 : Int)) (Tree.need (decide
    (Sm (IntKind.i64.wrap (IntKind.i64.wrap ((1000 : Int) * s.wide.lo) + IntKind.i64.wrap (w.lo * n))) ∧ (1000 : Int) = (1000 : Int))) (Tree.need (decide (Sm (IntKind.i64.wrap
    (IntKind.i64.wrap ((1000 : Int) * s.wide.hi) + IntKind.i64.wrap (w.hi * n))) ∧ (1000 : Int) = (1000 : Int))) (Tree.need true (Tree.br (!(Sp.mk (down (IntKind.i64.wrap
    (IntKind.i64.wrap ((1000 : Int) * s.wide.lo) + IntKind.i64.wrap (w.lo * n)))) (up (IntKind.i64.wrap (IntKind.i64.wrap ((1000 : Int) * s.wide.hi) + IntKind.i64.wrap (w.hi *
    n))))).isIn (1 : Int) (3000 : Int)) (Tree.leaf (AV.tup [AV.agg [AV.int true IntKind.i64 (0 : Int), AV.int true IntKind.i64 (0 : Int), AV.int true IntKind.i64 (0 : Int), AV.int true
    IntKind.i64 (0 : Int), AV.int true IntKind.i64 (0 : Int), AV.int true IntKind.i64 (0 : Int), AV.int true IntKind.i64 (0 : Int)], AV.int true IntKind.i64 (11 : Int)]) []) (Tree.leaf
    (AV.tup [AV.agg [AV.int false IntKind.i64 s.kind, AV.int false IntKind.i64 s.at_.lo, AV.int false IntKind.i64 s.at_.hi, AV.int false IntKind.i64 (down (IntKind.i64.wrap
    (IntKind.i64.wrap ((1000 : Int) * s.wide.lo) + IntKind.i64.wrap (w.lo * n)))), AV.int false IntKind.i64 (up (IntKind.i64.wrap (IntKind.i64.wrap ((1000 : Int) * s.wide.hi) +
    IntKind.i64.wrap (w.hi * n)))), AV.int false IntKind.i64 s.deep.lo, AV.int false IntKind.i64 s.deep.hi], AV.int true IntKind.i64 (0 : Int)]) []))))) (Tree.need true (Tree.br
    (!(Sp.mk (down (IntKind.i64.wrap (IntKind.i64.wrap ((1000 : Int) * s.wide.lo) - IntKind.i64.wrap (w.hi * n)))) (up (IntKind.i64.wrap (IntKind.i64.wrap ((1000 : Int) * s.wide.hi) -
    IntKind.i64.wrap (w.lo * n))))).isIn (1 : Int) (3000 : Int)) (Tree.leaf (AV.tup [AV.agg [AV.int true IntKind.i64 (0 : Int), AV.int true IntKind.i64 (0 : Int), AV.int true
    IntKind.i64 (0 : Int), AV.int true IntKind.i64 (0 : Int), AV.int true IntKind.i64 (0 : Int), AV.int true IntKind.i64 (0 : Int), AV.int true IntKind.i64 (0 : Int)], AV.int true
    IntKind.i64 (11 : Int)]) []) (Tree.leaf (AV.tup [AV.agg [AV.int false IntKind.i64 s.kind, AV.int false IntKind.i64 s.at_.lo, AV.int false IntKind.i64 s.at_.hi, AV.int false
    IntKind.i64 (down (IntKind.i64.wrap (IntKind.i64.wrap ((1000 : Int) * s.wide.lo) - IntKind.i64.wrap (w.hi * n)))), AV.int false IntKind.i64 (up (IntKind.i64.wrap (IntKind.i64.wrap
    ((1000 : Int) * s.wide.hi) - IntKind.i64.wrap (w.lo * n)))), AV.int false IntKind.i64 s.deep.lo, AV.int false IntKind.i64 s.deep.hi], AV.int true IntKind.i64 (0 : Int)])
    [])))))))))))) := by kernel_rfl
theorem rWorn_s : FSound Try.prog 20 rWornC := by
  refine plain_fn tab_rBetween_ok 4 Try.func20 (by kernel_rfl) (by kernel_rfl) ?_
  rintro ⟨s, w, n, ⟨⟩⟩ hp
  rw [rWorn_t s w n]
  simp only [rWornF, Tree.den, AV.same, AV.sameL, and_true, true_and] at hp ⊢
  simp only [Enc.enc, AV.same, AV.sameL, true_and, and_true]
  cases hs : s.ok
  · simp [WornF, hs, Edge.zero]
  cases hw : w.isIn 0 100
  · simp [WornF, hs, hw, Edge.zero]
  cases hn : within n 0 20000
  · simp [WornF, hs, hw, hn, Edge.zero]
  by_cases hk : s.kind = 0
  · simp [WornF, hs, hw, hn, hk, Edge.zero]
  obtain ⟨⟨h1, h2, h3⟩, h4, h5⟩ := wear_B hs hw hn hk
  obtain ⟨e1, e2⟩ := mul_bd (a := w.lo) (n := n) (by omega) (by omega) (by omega) (by omega)
  obtain ⟨e3, e4⟩ := mul_bd (a := w.hi) (n := n) (by omega) (by omega) (by omega) (by omega)
  rw [w64 (n := 1000 * s.wide.lo) (by omega) (by omega), w64 (n := 1000 * s.wide.hi) (by omega) (by omega), w64 (n := w.lo * n) (by omega) (by omega), w64 (n := w.hi * n) (by omega) (by omega)]
  rw [w64 (n := 1000 * s.wide.lo - _) (by omega) (by omega), w64 (n := 1000 * s.wide.hi - _) (by omega) (by omega), w64 (n := 1000 * s.wide.lo + _) (by omega) (by omega), w64 (n := 1000 * s.wide.hi + _) (by omega) (by omega)]
  have s1 : Sm (1000 * s.wide.lo - w.hi * n) := by unfold Sm; omega
  have s2 : Sm (1000 * s.wide.hi - w.lo * n) := by unfold Sm; omega
  have s3 : Sm (1000 * s.wide.lo + w.lo * n) := by unfold Sm; omega
  have s4 : Sm (1000 * s.wide.hi + w.hi * n) := by unfold Sm; omega
  have hk12 : s.kind = 1 ∨ s.kind = 2 := by rw [Edge.ok_iff] at hs; omega
  have hW : WornF s w n = if (s.worn w n).wide.isIn 1 3000 = true then (s.worn w n, 0) else (.zero, 11) := by unfold WornF; rw [if_pos hs, if_pos ⟨hw, hn⟩, if_neg hk]
  rcases hk12 with hk1 | hk1
  · have hx : s.worn w n = ⟨1, s.at_, ⟨down (1000 * s.wide.lo - w.hi * n), up (1000 * s.wide.hi - w.lo * n)⟩, s.deep⟩ := by simp [Edge.worn, wornSpan, hk1]
    rw [hW, hx]
    simp only [hk1]
    cases hi : Sp.isIn ⟨down (1000 * s.wide.lo - w.hi * n), up (1000 * s.wide.hi - w.lo * n)⟩ 1 3000 <;> simp [s1, s2, Edge.zero]
  · have hx : s.worn w n = ⟨2, s.at_, ⟨down (1000 * s.wide.lo + w.lo * n), up (1000 * s.wide.hi + w.hi * n)⟩, s.deep⟩ := by simp [Edge.worn, wornSpan, hk1]
    rw [hW, hx]
    simp only [hk1]
    cases hi : Sp.isIn ⟨down (1000 * s.wide.lo + w.lo * n), up (1000 * s.wide.hi + w.hi * n)⟩ 1 3000 <;> simp [s1, s2, s3, s4, Edge.zero]
def tab_rWorn : Tab := addF tab_rBetween 20 rWornC
theorem tab_rWorn_ok : TabOk tab_rWorn := tab_rBetween_ok.add rWorn_s
end Go.Proofs.Ytdaanchagjamfaa
