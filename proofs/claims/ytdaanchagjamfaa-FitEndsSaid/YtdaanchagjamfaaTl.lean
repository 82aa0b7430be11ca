/- The program's Last. -/
import Derived.Test.YtdaanchagjamfaaTk
namespace Go.Proofs.Ytdaanchagjamfaa
open Go.SX

/-- Last, of a tab and a hole, as the program computes it. -/
def lastOf (p : Play) (t h : Edge) (w : Sp) : Int × Int × Int :=
  if seaVal false ⟨p, t, h⟩ w p < seaVal true ⟨p, t, h⟩ w p ∧ alw p t h 0 = true ∧ alw p t h 2 = true then (seaVal false ⟨p, t, h⟩ w p, seaVal true ⟨p, t, h⟩ w p - 1, 0) else (0, 0, 4)
def LastF (p : Play) (a b : Edge) (w : Sp) : Int × Int × Int :=
  if p.ok = true ∧ a.ok = true ∧ b.ok = true then
    if w.isIn 0 100 = true then
      if a.kind = 2 then (if b.kind = 1 then lastOf p b a w else (0, 0, 6)) else if a.kind = 1 ∧ b.kind = 2 then lastOf p a b w else (0, 0, 6)
    else (0, 0, 2)
  else (0, 0, 1)
theorem seaVal_bd (w2 : Bool) (x : Couple) (w : Sp) (p : Play) : 0 ≤ seaVal w2 x w p ∧ seaVal w2 x w p ≤ 20001 := by
  obtain ⟨h1, h2, _, _⟩ := firstN_spec (SeaS.q ⟨w2, x, w, p, 0, 0⟩) 20001 0
  exact ⟨h1, by unfold seaVal; omega⟩
theorem last_core {p : Play} {t h : Edge} {w : Sp} (hp : p.ok = true) (ht : t.ok = true) (hh : h.ok = true) (hw : w.isIn 0 100 = true) (kt : t.kind = 1) (kh : h.kind = 2) :
    (IntKind.i64.wrap (IntKind.i64.wrap (20000 - 0) + 1) = 20001 ∧ SeaB ⟨p, t, h⟩ w p) ∧ Couple.B ⟨p, t, h⟩ ∧ IntKind.i64.wrap (0 + seaVal false ⟨p, t, h⟩ w p) = seaVal false ⟨p, t, h⟩ w p ∧ IntKind.i64.wrap (0 + seaVal true ⟨p, t, h⟩ w p) = seaVal true ⟨p, t, h⟩ w p ∧
      IntKind.i64.wrap (seaVal true ⟨p, t, h⟩ w p - 1) = seaVal true ⟨p, t, h⟩ w p - 1 ∧
      alwaysB (D.off ⟨p, t, h⟩).by_.lo (D.off ⟨p, t, h⟩).by_.hi (D.off ⟨p, t, h⟩).lo (D.off ⟨p, t, h⟩).hi p.damp.hi = alw p t h 0 ∧ alwaysB (D.deep ⟨p, t, h⟩).by_.lo (D.deep ⟨p, t, h⟩).by_.hi (D.deep ⟨p, t, h⟩).lo (D.deep ⟨p, t, h⟩).hi p.damp.hi = alw p t h 2 := by
  have b1 := seaVal_bd false ⟨p, t, h⟩ w p
  have b2 := seaVal_bd true ⟨p, t, h⟩ w p
  refine ⟨⟨rfl, ht, hh, kt, kh, hw, hp⟩, couple_B hp ht hh kt kh, ?_, ?_, ?_, rfl, rfl⟩
  · rw [Int.zero_add]; exact w64 (by omega) (by omega)
  · rw [Int.zero_add]; exact w64 (by omega) (by omega)
  · exact w64 (by omega) (by omega)
def LastPF : Play × Edge × Edge × Sp × Unit → Bool × AV := fun | (p, (a, (b, (w, _)))) => (true, .tup [.int false .i64 (LastF p a b w).1, .int false .i64 (LastF p a b w).2.1, .int false .i64 (LastF p a b w).2.2])
def LastPC : FC := pureFC (pfOf LastPF)
set_option maxRecDepth 100000 in
theorem LastP_t (p : Play) (a : Edge) (b : Edge) (w : Sp) : execFn (mkE Try.prog tab_sea) (hnd (mkE Try.prog tab_sea) 14) false Try.f22 (EncL.enc ((p, a, b, w, ()) : Play × Edge × Edge × Sp × Unit)) [] 0 =
    Tree.need true (Tree.br (!p.ok) (Tree.leaf (AV.tup [AV.int true IntKind.i64 (0 : Int), AV.int true IntKind.i64 (0 : Int), AV.int true IntKind.i64 (1 : Int)]) []) (Tree.need true
    (Tree.br (!a.ok) (Tree.leaf (AV.tup [AV.int true IntKind.i64 (0 : Int), AV.int true IntKind.i64 (0 : Int), AV.int true IntKind.i64 (1 : Int)]) []) (Tree.need true (Tree.br (!b.ok)
    (Tree.leaf (AV.tup [AV.int true IntKind.i64 (0 : Int), AV.int true IntKind.i64 (0 : Int), AV.int true IntKind.i64 (1 : Int)]) []) (Tree.need true (Tree.br (!w.isIn (0 : Int) (100 :
    Int)) (Tree.leaf (AV.tup [AV.int true IntKind.i64 (0 : Int), AV.int true IntKind.i64 (0 : Int), AV.int true IntKind.i64 (2 : Int)]) []) (Tree.br (a.kind == (2 : Int)) (Tree.br
    (b.kind == (1 : Int)) (Tree.br (!a.kind == (2 : Int)) (Tree.leaf (AV.tup [AV.int true IntKind.i64 (0 : Int), AV.int true IntKind.i64 (0 : Int), AV.int true IntKind.i64 (6 : Int)])
    []) (Tree.need (decide (IntKind.i64.wrap (IntKind.i64.wrap ((20000 : Int) - (0 : Int)) + (1 : Int)) = (20001 : Int) ∧ SeaB (Couple.mk p b a) w p)) (Tree.need (decide
    (IntKind.i64.wrap (IntKind.i64.wrap ((20000 : Int) - (0 : Int)) + (1 : Int)) = (20001 : Int) ∧ SeaB (Couple.mk p b a) w p)) (Tree.br (decide (IntKind.i64.wrap ((0 : Int) + seaVal
    false (Couple.mk p b a) w p) ≥ IntKind.i64.wrap ((0 : Int) + seaVal true (Couple.mk p b a) w p))) (Tree.leaf (AV.tup [AV.int true IntKind.i64 (0 : Int), AV.int true IntKind.i64 (0 :
    Int), AV.int true IntKind.i64 (4 : Int)]) []) (Tree.need (decide ((Couple.mk p b a).B ∧ (D.off (Couple.mk p b a)).c.B)) (Tree.br (!alwaysB (D.off (Couple.mk p b a)).by_.lo (D.off
    (Couple.mk p b a)).by_.hi (D.off (Couple.mk p b a)).lo (D.off (Couple.mk p b a)).hi p.damp.hi) (Tree.leaf (AV.tup [AV.int true IntKind.i64 (0 : Int), AV.int true IntKind.i64 (0 :
    Int), AV.int true IntKind.i64 (4 : Int)]) []) (Tree.need (decide ((Couple.mk p b a).B ∧ (D.deep (Couple.mk p b a)).c.B)) (Tree.br (!alwaysB (D.deep (Couple.mk p b a)).by_.lo (D.deep
    (Couple.mk p b a)).by_.hi (D.deep (Couple.mk p b a)).lo (D.deep (Couple.mk p b a)).hi p.damp.hi) (Tree.leaf (AV.tup [AV.int true IntKind.i64 (0 : Int), AV.int true IntKind.i64 (0 :
    Int), AV.int true IntKind.i64 (4 : Int)]) []) (Tree.leaf (AV.tup [AV.int false IntKind.i64 (IntKind.i64.wrap ((0 : Int) + seaVal false (Couple.mk p b a) w p)), AV.int false
    IntKind.i64 (IntKind.i64.wrap (IntKind.i64.wrap ((0 : Int) + seaVal true (Couple.mk p b a) w p) - (1 : Int))), AV.int true IntKind.i64 (0 : Int)]) []))))))))) (Tree.leaf (AV.tup
    [AV.int true IntKind.i64 (0 : Int), AV.int true IntKind.i64 (0 : Int), AV.int true IntKind.i64 (6 : Int)]) [])) (Tree.br (a.kind == (1 : Int)) (Tree.br (!b.kind == (2 : Int))
    (Tree.leaf (AV.tup [AV.int true IntKind.i64 (0 : Int), AV.int true IntKind.i64 (0 : Int), AV.int true IntKind.i64 (6 : Int)]) []) (Tree.need (decide (IntKind.i64.wrap
    (IntKind.i64.wrap ((20000 : Int) - (0 : Int)) + (1 : Int)) = (20001 : Int) ∧ SeaB (Couple.mk p a b) w p)) (Tree.need (decide (IntKind.i64.wrap (IntKind.i64.wrap ((20000 : Int) - (0
    : Int)) + (1 : Int)) = (20001 : Int) ∧ SeaB (Couple.mk p a b) w p)) (Tree.br (decide (IntKind.i64.wrap ((0 : Int) + seaVal false (Couple.mk p a b) w p) ≥ IntKind.i64.wrap ((0 : Int)
    + seaVal true (Couple.mk p a b) w p))) (Tree.leaf (AV.tup [AV.int true IntKind.i64 (0 : Int), AV.int true IntKind.i64 (0 : Int), AV.int true IntKind.i64 (4 : Int)]) []) (Tree.need
    (decide ((Couple.mk p a b).B ∧ (D.off (Couple.mk p a b)).c.B)) (Tree.br (!alwaysB (D.off (Couple.mk p a b)).by_.lo (D.off (Couple.mk p a b)).by_.hi (D.off (Couple.mk p a b)).lo
    (D.off (Couple.mk p a b)).hi p.damp.hi) (Tree.leaf (AV.tup [AV.int true IntKind.i64 (0 : Int), AV.int true IntKind.i64 (0 : Int), AV.int true IntKind.i64 (4 : Int)]) []) (Tree.need
    (decide ((Couple.mk p a b).B ∧ (D.deep (Couple.mk p a b)).c.B)) (Tree.br (!alwaysB (D.deep (Couple.mk p a b)).by_.lo (D.deep (Couple.mk p a b)).by_.hi (D.deep (Couple.mk p a b)).lo
    (D.deep (Couple.mk p a b)).hi p.damp.hi) (Tree.leaf (AV.tup [AV.int true IntKind.i64 (0 : Int), AV.int true IntKind.i64 (0 : Int), AV.int true IntKind.i64 (4 : Int)]) []) (Tree.leaf
    (AV.tup [AV.int false IntKind.i64 (IntKind.i64.wrap ((0 : Int) + seaVal false (Couple.mk p a b) w p)), AV.int false IntKind.i64 (IntKind.i64.wrap (IntKind.i64.wrap ((0 : Int) +
    seaVal true (Couple.mk p a b) w p) - (1 : Int))), AV.int true IntKind.i64 (0 : Int)]) []))))))))) (Tree.leaf (AV.tup [AV.int true IntKind.i64 (0 : Int), AV.int true IntKind.i64 (0 :
    Int), AV.int true IntKind.i64 (6 : Int)]) [])))))))))) := by kernel_rfl
theorem LastP_s : FSound Try.prog 22 LastPC := by
  refine plain_fn tab_sea_ok 14 Try.func22 (by kernel_rfl) (by kernel_rfl) ?_
  rintro ⟨p, a, b, w, ⟨⟩⟩ hp
  rw [LastP_t p a b w]
  simp only [LastPF, Tree.den, AV.same, AV.sameL, and_true, true_and] at hp ⊢
  cases hpo : p.ok with
  | false => simp [LastF, hpo]
  | true =>
  cases hao : a.ok with
  | false => simp [LastF, hpo, hao]
  | true =>
  cases hbo : b.ok with
  | false => simp [LastF, hpo, hao, hbo]
  | true =>
  cases hwo : w.isIn 0 100 with
  | false => simp [LastF, hpo, hao, hbo, hwo]
  | true =>
  by_cases ka2 : a.kind = 2
  · by_cases kb1 : b.kind = 1
    · obtain ⟨c1, c2, c3, c4, c5, c6, c7⟩ := last_core hpo hbo hao hwo kb1 ka2
      have d1 : decide (Couple.B ⟨p, b, a⟩ ∧ (D.off ⟨p, b, a⟩).c.B) = true := decide_eq_true ⟨c2, c2⟩
      have d2 : decide (Couple.B ⟨p, b, a⟩ ∧ (D.deep ⟨p, b, a⟩).c.B) = true := decide_eq_true ⟨c2, c2⟩
      rw [decide_eq_true c1, d1, d2, c6, c7, c3, c4, c5]
      simp only [LastF, lastOf, hpo, hao, hbo, hwo, ka2, kb1]
      by_cases hlt : seaVal false ⟨p, b, a⟩ w p < seaVal true ⟨p, b, a⟩ w p <;> cases alw p b a 0 <;> cases alw p b a 2 <;> simp [hlt] <;> omega
    · simp [LastF, hpo, hao, hbo, hwo, ka2, kb1]
  · by_cases ka1 : a.kind = 1
    · by_cases kb2 : b.kind = 2
      · obtain ⟨c1, c2, c3, c4, c5, c6, c7⟩ := last_core hpo hao hbo hwo ka1 kb2
        have d1 : decide (Couple.B ⟨p, a, b⟩ ∧ (D.off ⟨p, a, b⟩).c.B) = true := decide_eq_true ⟨c2, c2⟩
        have d2 : decide (Couple.B ⟨p, a, b⟩ ∧ (D.deep ⟨p, a, b⟩).c.B) = true := decide_eq_true ⟨c2, c2⟩
        have e21 : ((1 : Int) == 2) = false := rfl
        rw [decide_eq_true c1, d1, d2, c6, c7, c3, c4, c5]
        simp only [LastF, lastOf, hpo, hao, hbo, hwo, ka1, kb2]
        by_cases hlt : seaVal false ⟨p, a, b⟩ w p < seaVal true ⟨p, a, b⟩ w p <;> cases alw p a b 0 <;> cases alw p a b 2 <;> simp [hlt] <;> omega
      · simp [LastF, hpo, hao, hbo, hwo, ka1, ka2, kb2]
    · simp [LastF, hpo, hao, hbo, hwo, ka1, ka2]
def tab_LastP : Tab := addF tab_sea 22 LastPC
theorem tab_LastP_ok : TabOk tab_LastP := tab_sea_ok.add LastP_s
end Go.Proofs.Ytdaanchagjamfaa
