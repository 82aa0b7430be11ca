/- FitOwns: no argument is changed, and what is returned is new. -/
import Derived.Test.YtdaanchagjamfaaMozf
namespace Go.Proofs.Ytdaanchagjamfaa
open Go.SX
def PRes.le (N : Nat) : PRes → Prop
  | .go _ f => f.n ≤ N
  | .stop f g => f.n ≤ N ∧ g.n ≤ N
theorem loopP_le {N : Nat} {skip : Nat → Bool} {rec : Nat → Int → Rw Int → PRes} (h : ∀ k m f, f.n ≤ N → (rec k m f).le N) : ∀ (c k : Nat) (m : Int) (f : Rw Int), f.n ≤ N → (loopP skip rec c k m f).le N
  | 0, _, _, _, hf => hf
  | c + 1, k, m, f, hf => by
    simp only [loopP]
    have := h k m f hf
    cases skip k with
    | true => exact loopP_le h c (k + 1) m f hf
    | false =>
      generalize rec k m f = r at this ⊢
      cases r with
      | stop f g => exact this
      | go m f => exact loopP_le h c (k + 1) m f this
theorem onP_le (p : Play) (tabs holes : Rw Edge) {N : Nat} : ∀ (d : Nat) (w : Rw Int) (has : Int → Bool) (m : Int) (f : Rw Int), w.n + d = N → f.n ≤ N → (onP p tabs holes d w has m f).le N
  | 0, w, _, m, f, hw, hf => by
    simp only [onP, yieldP]
    split
    · exact ⟨hf, by omega⟩
    · exact (by omega : w.n ≤ N)
  | d + 1, w, has, m, f, hw, hf => loopP_le (fun k m f hf => onP_le p tabs holes d (snocW w k) (hasF k true has) m f (by show w.n + 1 + d = N; omega) hf) _ _ m f hf
theorem pairsV_le (p : Play) (tabs holes : Rw Edge) : (pairsV p tabs holes).1.n ≤ 8 ∧ (pairsV p tabs holes).2.1.n ≤ 8 := by
  have z : ∀ e : Int, (nilW, nilW, e).1.n ≤ 8 ∧ (nilW, nilW, e).2.1.n ≤ 8 := fun e => ⟨Nat.zero_le _, Nat.zero_le _⟩
  unfold pairsV
  cases p.ok <;> (try simp only [Bool.not_true, Bool.not_false, cond_true, cond_false]) <;> (try first | exact z _ | exact ⟨Nat.zero_le _, Nat.zero_le _⟩)
  cases allN (fun i => (tabs.get i).ok) tabs.n <;> (try simp only [Bool.not_true, Bool.not_false, cond_true, cond_false]) <;> (try first | exact z _ | exact ⟨Nat.zero_le _, Nat.zero_le _⟩)
  cases allN (fun i => (holes.get i).ok) holes.n <;> (try simp only [Bool.not_true, Bool.not_false, cond_true, cond_false]) <;> (try first | exact z _ | exact ⟨Nat.zero_le _, Nat.zero_le _⟩)
  cases h8 : decide ((tabs.n : Int) > 8) <;> (try simp only [cond_true, cond_false]) <;> (try first | exact z _ | exact ⟨Nat.zero_le _, Nat.zero_le _⟩)
  have h8 : tabs.n ≤ 8 := by have := of_decide_eq_false h8; omega
  cases decide ((holes.n : Int) > 8) <;> (try simp only [cond_true, cond_false]) <;> (try first | exact z _ | exact ⟨Nat.zero_le _, Nat.zero_le _⟩)
  cases badK 1 tabs <;> (try simp only [cond_true, cond_false]) <;> (try first | exact z _ | exact ⟨Nat.zero_le _, Nat.zero_le _⟩)
  cases badK 2 holes <;> (try simp only [cond_true, cond_false]) <;> (try first | exact z _ | exact ⟨Nat.zero_le _, Nat.zero_le _⟩)
  cases ((tabs.n : Int) != holes.n) <;> (try simp only [cond_true, cond_false]) <;> (try first | exact z _ | exact ⟨Nat.zero_le _, Nat.zero_le _⟩)
  have := onP_le p tabs holes (N := tabs.n) tabs.n nilW noM 0 nilW (Nat.zero_add _) (Nat.zero_le _)
  unfold pairsR
  generalize onP p tabs holes tabs.n nilW noM 0 nilW = r at this ⊢
  cases r with
  | go m f =>
    have this : f.n ≤ tabs.n := this
    simp only [pairsO]
    cases (m == 0)
    · exact ⟨(by omega : f.n ≤ 8), Nat.zero_le _⟩
    · exact z _
  | stop f g =>
    have this : f.n ≤ tabs.n ∧ g.n ≤ tabs.n := this
    exact ⟨(by omega : f.n ≤ 8), (by omega : g.n ≤ 8)⟩
theorem matL_le (p : Play) (s : Edge) (j : Int) (l : Rw Edge) : (matL p s j l).length ≤ l.n := by
  unfold matL
  split
  · exact picks_len _ _
  · exact Nat.zero_le _
def matW (p : Play) (s : Edge) (j : Int) (l : Rw Edge) : Rw Int := ⟨(matL p s j l).length, fun i => (matL p s j l).getD i 0⟩
def ownOf (p : Play) (s : Edge) (l tabs holes : Rw Edge) : Own := ⟨p, s, l, tabs, holes, matW p s 2 l, matW p s 1 l, (pairsV p tabs holes).1, (pairsV p tabs holes).2.1, matE p s l, (pairsV p tabs holes).2.2⟩
def owT (o : Own) (j : Nat) : St → (Ex → St → Tree) → Tree := askH ((ownR o j).n ≤ 1000) (loopT 8 [] (owJ o j 0) [(True, .exit 2, owE o j)])
abbrev owIn (P : Program) (o : Own) : Hnd := { hnd (mkE P tab_own) 1 with loop := byReg [(12, pickN 78 [owT o 0, owT o 1, owT o 2, owT o 3])] }
def owL (P : Program) (o : Own) (c0 : Code) : Code → St → (Ex → St → Tree) → Tree := byReg [(8, unrollL (mkE P tab_own) (owIn P o) c0 5),
  (20, askH (o.l.n ≤ 1000) (loopT 8 [] (o2J o 115 116 o.l.n 0) [(True, .exit 4, o2E o)])),
  (26, askH (o.tabs.n ≤ 1000) (loopT 8 [] (o2J o 130 131 o.tabs.n 0) [(True, .exit 6, o2E o)])),
  (32, askH (o.holes.n ≤ 1000) (loopT 8 [] (o2J o 145 146 o.holes.n 0) [(True, .exit 8, o2E o)]))]
abbrev owH (P : Program) (o : Own) (c0 : Code) : Hnd := { hnd (mkE P tab_own) 1 with loop := owL P o c0 }
theorem ow_in (o : Own) (G : Ctx) (hrd : G.rd = none) (hG : G.n = 8) : HndOk (mkE Try.prog tab_own) G (owIn Try.prog o) (bodyK Try.f14 0) := by
  refine loops_ok (mkE_ok tab_own_ok) hrd fun c hc => ?_
  have e : loops (bodyK Try.f14 0) = [.loop (loopIn (bodyK Try.f14 0))] := by kernel_rfl
  rw [e] at hc
  simp only [List.mem_cons, List.not_mem_nil, or_false] at hc
  subst hc
  have e1 : byReg [(12, pickN 78 [owT o 0, owT o 1, owT o 2, owT o 3])] (.loop (loopIn (bodyK Try.f14 0))) = pickN 78 [owT o 0, owT o 1, owT o 2, owT o 3] := by kernel_rfl
  show CSound _ G _ (byReg [(12, pickN 78 [owT o 0, owT o 1, owT o 2, owT o 3])] (.loop (loopIn (bodyK Try.f14 0))))
  rw [e1]
  refine pickN_ok fun x hx => ?_
  simp only [List.mem_cons, List.not_mem_nil, or_false] at hx
  rcases hx with rfl | rfl | rfl | rfl
  · refine askH_ok fun hl => ?_
    refine loopT_ok (n0 := 8) (mkE_ok tab_own_ok) (by omega) (fun s hs => hnd_hndOk (mkE_ok tab_own_ok) 0 G _ hrd) (fun s hs => (by decide : 8 ≤ 600)) ?_ (ow_round0 o hl) (s0 := 0) (Nat.zero_le _) ?_
    · rintro s e J ⟨_, rfl⟩; exact (by decide : 8 ≤ 600)
    · rintro e J ⟨rfl, rfl⟩
      exact ⟨_, List.mem_cons_self, trivial, rfl, rfl⟩
  · refine askH_ok fun hl => ?_
    refine loopT_ok (n0 := 8) (mkE_ok tab_own_ok) (by omega) (fun s hs => hnd_hndOk (mkE_ok tab_own_ok) 0 G _ hrd) (fun s hs => (by decide : 8 ≤ 600)) ?_ (ow_round1 o hl) (s0 := 0) (Nat.zero_le _) ?_
    · rintro s e J ⟨_, rfl⟩; exact (by decide : 8 ≤ 600)
    · rintro e J ⟨rfl, rfl⟩
      exact ⟨_, List.mem_cons_self, trivial, rfl, rfl⟩
  · refine askH_ok fun hl => ?_
    refine loopT_ok (n0 := 8) (mkE_ok tab_own_ok) (by omega) (fun s hs => hnd_hndOk (mkE_ok tab_own_ok) 0 G _ hrd) (fun s hs => (by decide : 8 ≤ 600)) ?_ (ow_round2 o hl) (s0 := 0) (Nat.zero_le _) ?_
    · rintro s e J ⟨_, rfl⟩; exact (by decide : 8 ≤ 600)
    · rintro e J ⟨rfl, rfl⟩
      exact ⟨_, List.mem_cons_self, trivial, rfl, rfl⟩
  · refine askH_ok fun hl => ?_
    refine loopT_ok (n0 := 8) (mkE_ok tab_own_ok) (by omega) (fun s hs => hnd_hndOk (mkE_ok tab_own_ok) 0 G _ hrd) (fun s hs => (by decide : 8 ≤ 600)) ?_ (ow_round3 o hl) (s0 := 0) (Nat.zero_le _) ?_
    · rintro s e J ⟨_, rfl⟩; exact (by decide : 8 ≤ 600)
    · rintro e J ⟨rfl, rfl⟩
      exact ⟨_, List.mem_cons_self, trivial, rfl, rfl⟩
theorem ow_hnd (o : Own) (G : Ctx) (hrd : G.rd = none) (hG : G.n = 8) : HndOk (mkE Try.prog tab_own) G (owH Try.prog o (bodyK Try.f14 0)) (bodyOf Try.f14) := by
  refine loops_ok (mkE_ok tab_own_ok) hrd fun c hc => ?_
  have e : loops (bodyOf Try.f14) = [.loop (bodyK Try.f14 0), .loop (bodyK Try.f14 1), .loop (bodyK Try.f14 2), .loop (bodyK Try.f14 3)] := by kernel_rfl
  rw [e] at hc
  simp only [List.mem_cons, List.not_mem_nil, or_false] at hc
  rcases hc with rfl | rfl | rfl | rfl
  · have e1 : owL Try.prog o (bodyK Try.f14 0) (.loop (bodyK Try.f14 0)) = unrollL (mkE Try.prog tab_own) (owIn Try.prog o) (bodyK Try.f14 0) 5 := by kernel_rfl
    rw [e1]
    exact unroll_ok (mkE_ok tab_own_ok) (ow_in o G hrd hG) 5
  · have e1 : owL Try.prog o (bodyK Try.f14 0) (.loop (bodyK Try.f14 1)) = askH (o.l.n ≤ 1000) (loopT 8 [] (o2J o 115 116 o.l.n 0) [(True, .exit 4, o2E o)]) := by kernel_rfl
    rw [e1]
    refine askH_ok fun hl => ?_
    refine loopT_ok (n0 := 8) (mkE_ok tab_own_ok) (by omega) (fun s hs => hnd_hndOk (mkE_ok tab_own_ok) 0 G _ hrd) (fun s hs => (by decide : 8 ≤ 700)) ?_ (o2_round1 o hl) (s0 := 0) (Nat.zero_le _) ?_
    · rintro s e J ⟨_, rfl⟩; exact (by decide : 8 ≤ 700)
    · rintro e J ⟨rfl, rfl⟩
      exact ⟨_, List.mem_cons_self, trivial, rfl, rfl⟩
  · have e1 : owL Try.prog o (bodyK Try.f14 0) (.loop (bodyK Try.f14 2)) = askH (o.tabs.n ≤ 1000) (loopT 8 [] (o2J o 130 131 o.tabs.n 0) [(True, .exit 6, o2E o)]) := by kernel_rfl
    rw [e1]
    refine askH_ok fun hl => ?_
    refine loopT_ok (n0 := 8) (mkE_ok tab_own_ok) (by omega) (fun s hs => hnd_hndOk (mkE_ok tab_own_ok) 0 G _ hrd) (fun s hs => (by decide : 8 ≤ 700)) ?_ (o2_round2 o hl) (s0 := 0) (Nat.zero_le _) ?_
    · rintro s e J ⟨_, rfl⟩; exact (by decide : 8 ≤ 700)
    · rintro e J ⟨rfl, rfl⟩
      exact ⟨_, List.mem_cons_self, trivial, rfl, rfl⟩
  · have e1 : owL Try.prog o (bodyK Try.f14 0) (.loop (bodyK Try.f14 3)) = askH (o.holes.n ≤ 1000) (loopT 8 [] (o2J o 145 146 o.holes.n 0) [(True, .exit 8, o2E o)]) := by kernel_rfl
    rw [e1]
    refine askH_ok fun hl => ?_
    refine loopT_ok (n0 := 8) (mkE_ok tab_own_ok) (by omega) (fun s hs => hnd_hndOk (mkE_ok tab_own_ok) 0 G _ hrd) (fun s hs => (by decide : 8 ≤ 700)) ?_ (o2_round3 o hl) (s0 := 0) (Nat.zero_le _) ?_
    · rintro s e J ⟨_, rfl⟩; exact (by decide : 8 ≤ 700)
    · rintro e J ⟨rfl, rfl⟩
      exact ⟨_, List.mem_cons_self, trivial, rfl, rfl⟩
def fowF : WF (Play × Edge × (Rw Edge) × (Rw Edge) × (Rw Edge) × Unit) := fun | (p, (s, (l, (tabs, (holes, _))))) => (true, .bool false true, [])
def fowC : FC := wFC fowF
set_option maxRecDepth 100000 in
theorem fow_t (p : Play) (s : Edge) (l : (Rw Edge)) (tabs : (Rw Edge)) (holes : (Rw Edge)) : execW (mkE Try.prog tab_own) (owH Try.prog (ownOf p s l tabs holes) (bodyK Try.f14 0)) Try.f14 (ArgsE.vals 0 ((p, s, l, tabs, holes, ()) : Play × Edge × (Rw Edge) × (Rw Edge) × (Rw Edge) × Unit)) (ArgsE.blks 0 ((p, s, l, tabs, holes, ()) : Play × Edge × (Rw Edge) × (Rw Edge) × (Rw Edge) × Unit)) 8 =
    Tree.br (decide ((↑l.n : Int) > (50 : Int))) (Tree.leaf (AV.bool true true) ([])) (Tree.br (decide ((↑tabs.n : Int) > (6 : Int))) (Tree.leaf (AV.bool true true) ([])) (Tree.br
    (decide ((↑holes.n : Int) > (6 : Int))) (Tree.leaf (AV.bool true true) ([])) (Tree.need (true && (decide (l.n ≤ l.n) && decide (((0 : Nat) + l.n + ((0 : Nat) + l.n) / (4 : Nat) +
    (192 : Nat)) * (56 : Nat) ≤ (281474976710656 : Nat) ∧ (0 : Nat) + l.n ≤ (9223372036854775807 : Nat)))) (Tree.need (true && (decide (tabs.n ≤ tabs.n) && decide (((0 : Nat) + tabs.n +
    ((0 : Nat) + tabs.n) / (4 : Nat) + (192 : Nat)) * (56 : Nat) ≤ (281474976710656 : Nat) ∧ (0 : Nat) + tabs.n ≤ (9223372036854775807 : Nat)))) (Tree.need (true && (decide (holes.n ≤
    holes.n) && decide (((0 : Nat) + holes.n + ((0 : Nat) + holes.n) / (4 : Nat) + (192 : Nat)) * (56 : Nat) ≤ (281474976710656 : Nat) ∧ (0 : Nat) + holes.n ≤ (9223372036854775807 :
    Nat)))) (Tree.need (true && (true && (decide (l.n ≤ l.n) && true)) && decide (l.n ≤ (1000 : Nat))) (Tree.need (true && (decide (tabs.n ≤ tabs.n) && (decide (holes.n ≤ holes.n) &&
    true)) && decide (tabs.n ≤ (1000 : Nat) ∧ holes.n ≤ (1000 : Nat))) (Tree.need (true && (decide ((matL p s (2 : Int) l).length ≤ (matL p s (2 : Int) l).length) && decide (((0 : Nat)
    + (matL p s (2 : Int) l).length + ((0 : Nat) + (matL p s (2 : Int) l).length) / (4 : Nat) + (192 : Nat)) * (8 : Nat) ≤ (281474976710656 : Nat) ∧ (0 : Nat) + (matL p s (2 : Int)
    l).length ≤ (9223372036854775807 : Nat)))) (Tree.ask ((ownR (ownOf p s l tabs holes) (0 : Nat)).n ≤ (1000 : Nat)) (Tree.ask ((0 : Nat) = (0 : Nat)) (Tree.ask (l.n = (ownOf p s l
    tabs holes).l.n) (Tree.ask (Cap.of (0 : Nat) = Cap.of (0 : Nat)) (Tree.ask ((0 : Nat) = (0 : Nat)) (Tree.ask (tabs.n = (ownOf p s l tabs holes).tabs.n) (Tree.ask (Cap.of (0 : Nat) =
    Cap.of (0 : Nat)) (Tree.ask ((0 : Nat) = (0 : Nat)) (Tree.ask (holes.n = (ownOf p s l tabs holes).holes.n) (Tree.ask (Cap.of (0 : Nat) = Cap.of (0 : Nat)) (Tree.ask ((0 : Nat) = (0
    : Nat)) (Tree.ask ((0 : Nat) = (0 : Nat)) (Tree.ask ((0 : Nat) = (0 : Nat)) (Tree.ask ((0 : Nat) = (0 : Nat)) (Tree.ask ((0 : Nat) = (0 : Nat)) (Tree.ask ((0 : Nat) + l.n = (ownOf p
    s l tabs holes).l.n) (Tree.ask (Cap.of (0 : Nat) = Cap.of (0 : Nat)) (Tree.ask ((0 : Nat) = (0 : Nat)) (Tree.ask ((0 : Nat) + tabs.n = (ownOf p s l tabs holes).tabs.n) (Tree.ask
    (Cap.of (0 : Nat) = Cap.of (0 : Nat)) (Tree.ask ((0 : Nat) = (0 : Nat)) (Tree.ask ((0 : Nat) + holes.n = (ownOf p s l tabs holes).holes.n) (Tree.ask (Cap.of (0 : Nat) = Cap.of (0 :
    Nat)) (Tree.ask (matE p s l = (ownOf p s l tabs holes).e) (Tree.ask ((pairsV p tabs holes).2.2 = (ownOf p s l tabs holes).f) (Tree.ask ((0 : Nat) = (0 : Nat)) (Tree.ask ((0 : Nat) =
    (0 : Nat)) (Tree.ask ((0 : Nat) = (0 : Nat)) (Tree.ask ((4 : Nat) = (4 : Nat)) (Tree.ask (Cap.lit (4 : Nat) = Cap.lit (4 : Nat)) (Tree.ask ((4 : Int) = (4 : Int)) (Tree.ask ((0 :
    Int) = (0 : Int)) (Tree.ask ((0 : Nat) = (0 : Nat)) (Tree.ask ((matL p s (2 : Int) l).length = (ownR (ownOf p s l tabs holes) (0 : Nat)).n) (Tree.ask (Cap.of (0 : Nat) = Cap.of (0 :
    Nat)) (Tree.ask ((↑(matL p s (2 : Int) l).length : Int) = (↑(ownR (ownOf p s l tabs holes) (0 : Nat)).n : Int)) (Tree.ask ((0 : Int) = (0 : Int)) (Tree.ask (p.length = (ownOf p s l
    tabs holes).p.length) (Tree.ask (p.slack = (ownOf p s l tabs holes).p.slack) (Tree.ask (p.loose = (ownOf p s l tabs holes).p.loose) (Tree.ask (p.damp.lo = (ownOf p s l tabs
    holes).p.damp.lo) (Tree.ask (p.damp.hi = (ownOf p s l tabs holes).p.damp.hi) (Tree.ask (s.kind = (ownOf p s l tabs holes).s.kind) (Tree.ask (s.at_.lo = (ownOf p s l tabs
    holes).s.at_.lo) (Tree.ask (s.at_.hi = (ownOf p s l tabs holes).s.at_.hi) (Tree.ask (s.wide.lo = (ownOf p s l tabs holes).s.wide.lo) (Tree.ask (s.wide.hi = (ownOf p s l tabs
    holes).s.wide.hi) (Tree.ask (s.deep.lo = (ownOf p s l tabs holes).s.deep.lo) (Tree.ask (s.deep.hi = (ownOf p s l tabs holes).s.deep.hi) (Tree.ask ((0 : Nat) = (0 : Nat)) (Tree.ask
    ((matL p s (2 : Int) l).length = (ownOf p s l tabs holes).x.n) (Tree.ask (Cap.of (0 : Nat) = Cap.of (0 : Nat)) (Tree.ask ((0 : Nat) = (0 : Nat)) (Tree.ask ((matL p s (1 : Int)
    l).length = (ownOf p s l tabs holes).y.n) (Tree.ask (Cap.of (0 : Nat) = Cap.of (0 : Nat)) (Tree.ask ((0 : Nat) = (0 : Nat)) (Tree.ask ((pairsV p tabs holes).1.n = (ownOf p s l tabs
    holes).u.n) (Tree.ask (Cap.of (0 : Nat) = Cap.of (0 : Nat)) (Tree.ask ((0 : Nat) = (0 : Nat)) (Tree.ask ((pairsV p tabs holes).2.1.n = (ownOf p s l tabs holes).v.n) (Tree.ask
    (Cap.of (0 : Nat) = Cap.of (0 : Nat)) (Tree.ask ((0 : Nat) = (0 : Nat)) (Tree.ask ((0 : Nat) + (matL p s (2 : Int) l).length = (ownOf p s l tabs holes).x.n) (Tree.ask (Cap.of (0 :
    Nat) = Cap.of (0 : Nat)) (Tree.ask ((ownOf p s l tabs holes).l.n ≤ (0 : Nat) + l.n) (Tree.ask (RowsEq (7 : Nat) (ownOf p s l tabs holes).l.n (joinG (0 : Nat) (fun x x_1 => (0 :
    Int)) fun i => RowT.enc (l.get i)) fun i => RowT.enc ((ownOf p s l tabs holes).l.get i)) (Tree.ask ((ownOf p s l tabs holes).tabs.n ≤ (0 : Nat) + tabs.n) (Tree.ask (RowsEq (7 : Nat)
    (ownOf p s l tabs holes).tabs.n (joinG (0 : Nat) (fun x x_1 => (0 : Int)) fun i => RowT.enc (tabs.get i)) fun i => RowT.enc ((ownOf p s l tabs holes).tabs.get i)) (Tree.ask ((ownOf
    p s l tabs holes).holes.n ≤ (0 : Nat) + holes.n) (Tree.ask (RowsEq (7 : Nat) (ownOf p s l tabs holes).holes.n (joinG (0 : Nat) (fun x x_1 => (0 : Int)) fun i => RowT.enc (holes.get
    i)) fun i => RowT.enc ((ownOf p s l tabs holes).holes.get i)) (Tree.ask ((ovr (0 : Nat) (0 : Nat) (0 : Nat) (ownOf p s l tabs holes).x).n ≤ (matL p s (2 : Int) l).length) (Tree.ask
    (RowsEq (1 : Nat) (ovr (0 : Nat) (0 : Nat) (0 : Nat) (ownOf p s l tabs holes).x).n (fun i => RowT.enc ((matL p s (2 : Int) l).getD i (0 : Int))) fun i => RowT.enc ((ovr (0 : Nat) (0
    : Nat) (0 : Nat) (ownOf p s l tabs holes).x).get i)) (Tree.ask ((ovr (0 : Nat) (0 : Nat) (1 : Nat) (ownOf p s l tabs holes).y).n ≤ (matL p s (1 : Int) l).length) (Tree.ask (RowsEq
    (1 : Nat) (ovr (0 : Nat) (0 : Nat) (1 : Nat) (ownOf p s l tabs holes).y).n (fun i => RowT.enc ((matL p s (1 : Int) l).getD i (0 : Int))) fun i => RowT.enc ((ovr (0 : Nat) (0 : Nat)
    (1 : Nat) (ownOf p s l tabs holes).y).get i)) (Tree.ask ((ovr (0 : Nat) (0 : Nat) (2 : Nat) (ownOf p s l tabs holes).u).n ≤ (pairsV p tabs holes).1.n) (Tree.ask (RowsEq (1 : Nat)
    (ovr (0 : Nat) (0 : Nat) (2 : Nat) (ownOf p s l tabs holes).u).n (fun i => RowT.enc ((pairsV p tabs holes).1.get i)) fun i => RowT.enc ((ovr (0 : Nat) (0 : Nat) (2 : Nat) (ownOf p s
    l tabs holes).u).get i)) (Tree.ask ((ovr (0 : Nat) (0 : Nat) (3 : Nat) (ownOf p s l tabs holes).v).n ≤ (pairsV p tabs holes).2.1.n) (Tree.ask (RowsEq (1 : Nat) (ovr (0 : Nat) (0 :
    Nat) (3 : Nat) (ownOf p s l tabs holes).v).n (fun i => RowT.enc ((pairsV p tabs holes).2.1.get i)) fun i => RowT.enc ((ovr (0 : Nat) (0 : Nat) (3 : Nat) (ownOf p s l tabs
    holes).v).get i)) (Tree.ask ((ownOf p s l tabs holes).x.n ≤ (0 : Nat) + (matL p s (2 : Int) l).length) (Tree.ask (RowsEq (1 : Nat) (ownOf p s l tabs holes).x.n (joinG (0 : Nat) (fun
    x x_1 => (0 : Int)) fun i => RowT.enc ((matL p s (2 : Int) l).getD i (0 : Int))) fun i => RowT.enc ((ownOf p s l tabs holes).x.get i)) (Tree.ask ((ownOf p s l tabs holes).l.n ≤ l.n)
    (Tree.ask (RowsEq (7 : Nat) (ownOf p s l tabs holes).l.n (fun i => RowT.enc (l.get i)) fun i => RowT.enc ((ownOf p s l tabs holes).l.get i)) (Tree.ask ((ownOf p s l tabs
    holes).tabs.n ≤ tabs.n) (Tree.ask (RowsEq (7 : Nat) (ownOf p s l tabs holes).tabs.n (fun i => RowT.enc (tabs.get i)) fun i => RowT.enc ((ownOf p s l tabs holes).tabs.get i))
    (Tree.ask ((ownOf p s l tabs holes).holes.n ≤ holes.n) (Tree.ask (RowsEq (7 : Nat) (ownOf p s l tabs holes).holes.n (fun i => RowT.enc (holes.get i)) fun i => RowT.enc ((ownOf p s l
    tabs holes).holes.get i)) (Tree.asm (True) (Tree.all (fun (g0 : Nat → Value) => Tree.need (true && (decide ((ownOf p s l tabs holes).y.n ≤ (ovr (0 : Nat) (ownR (ownOf p s l tabs
    holes) (0 : Nat)).n (1 : Nat) (ownOf p s l tabs holes).y).n) && decide (((0 : Nat) + (ownOf p s l tabs holes).y.n + ((0 : Nat) + (ownOf p s l tabs holes).y.n) / (4 : Nat) + (192 :
    Nat)) * (8 : Nat) ≤ (281474976710656 : Nat) ∧ (0 : Nat) + (ownOf p s l tabs holes).y.n ≤ (9223372036854775807 : Nat)))) (Tree.ask ((ownR (ownOf p s l tabs holes) (1 : Nat)).n ≤
    (1000 : Nat)) (Tree.ask ((0 : Nat) = (0 : Nat)) (Tree.ask ((ownOf p s l tabs holes).l.n = (ownOf p s l tabs holes).l.n) (Tree.ask (Cap.of (0 : Nat) = Cap.of (0 : Nat)) (Tree.ask ((0
    : Nat) = (0 : Nat)) (Tree.ask ((ownOf p s l tabs holes).tabs.n = (ownOf p s l tabs holes).tabs.n) (Tree.ask (Cap.of (0 : Nat) = Cap.of (0 : Nat)) (Tree.ask ((0 : Nat) = (0 : Nat))
    (Tree.ask ((ownOf p s l tabs holes).holes.n = (ownOf p s l tabs holes).holes.n) (Tree.ask (Cap.of (0 : Nat) = Cap.of (0 : Nat)) (Tree.ask ((0 : Nat) = (0 : Nat)) (Tree.ask ((0 :
    Nat) = (0 : Nat)) (Tree.ask ((0 : Nat) = (0 : Nat)) (Tree.ask ((0 : Nat) = (0 : Nat)) (Tree.ask ((0 : Nat) = (0 : Nat)) (Tree.ask ((ownOf p s l tabs holes).l.n = (ownOf p s l tabs
    holes).l.n) (Tree.ask (Cap.of (0 : Nat) = Cap.of (0 : Nat)) (Tree.ask ((0 : Nat) = (0 : Nat)) (Tree.ask ((ownOf p s l tabs holes).tabs.n = (ownOf p s l tabs holes).tabs.n) (Tree.ask
    (Cap.of (0 : Nat) = Cap.of (0 : Nat)) (Tree.ask ((0 : Nat) = (0 : Nat)) (Tree.ask ((ownOf p s l tabs holes).holes.n = (ownOf p s l tabs holes).holes.n) (Tree.ask (Cap.of (0 : Nat) =
    Cap.of (0 : Nat)) (Tree.ask ((ownOf p s l tabs holes).e = (ownOf p s l tabs holes).e) (Tree.ask ((ownOf p s l tabs holes).f = (ownOf p s l tabs holes).f) (Tree.ask ((0 : Nat) = (0 :
    Nat)) (Tree.ask ((0 : Nat) = (0 : Nat)) (Tree.ask ((0 : Nat) = (0 : Nat)) (Tree.ask ((4 : Nat) = (4 : Nat)) (Tree.ask (Cap.lit (4 : Nat) = Cap.lit (4 : Nat)) (Tree.ask ((4 : Int) =
    (4 : Int)) (Tree.ask ((1 : Int) = (1 : Int)) (Tree.ask ((0 : Nat) = (0 : Nat)) (Tree.ask ((ownOf p s l tabs holes).y.n = (ownR (ownOf p s l tabs holes) (1 : Nat)).n) (Tree.ask
    (Cap.of (0 : Nat) = Cap.of (0 : Nat)) (Tree.ask ((↑(ownOf p s l tabs holes).y.n : Int) = (↑(ownR (ownOf p s l tabs holes) (1 : Nat)).n : Int)) (Tree.ask ((0 : Int) = (0 : Int))
    (Tree.ask ((ownOf p s l tabs holes).p.length = (ownOf p s l tabs holes).p.length) (Tree.ask ((ownOf p s l tabs holes).p.slack = (ownOf p s l tabs holes).p.slack) (Tree.ask ((ownOf p
    s l tabs holes).p.loose = (ownOf p s l tabs holes).p.loose) (Tree.ask ((ownOf p s l tabs holes).p.damp.lo = (ownOf p s l tabs holes).p.damp.lo) (Tree.ask ((ownOf p s l tabs
    holes).p.damp.hi = (ownOf p s l tabs holes).p.damp.hi) (Tree.ask ((ownOf p s l tabs holes).s.kind = (ownOf p s l tabs holes).s.kind) (Tree.ask ((ownOf p s l tabs holes).s.at_.lo =
    (ownOf p s l tabs holes).s.at_.lo) (Tree.ask ((ownOf p s l tabs holes).s.at_.hi = (ownOf p s l tabs holes).s.at_.hi) (Tree.ask ((ownOf p s l tabs holes).s.wide.lo = (ownOf p s l
    tabs holes).s.wide.lo) (Tree.ask ((ownOf p s l tabs holes).s.wide.hi = (ownOf p s l tabs holes).s.wide.hi) (Tree.ask ((ownOf p s l tabs holes).s.deep.lo = (ownOf p s l tabs
    holes).s.deep.lo) (Tree.ask ((ownOf p s l tabs holes).s.deep.hi = (ownOf p s l tabs holes).s.deep.hi) (Tree.ask ((0 : Nat) = (0 : Nat)) (Tree.ask ((ownOf p s l tabs holes).x.n =
    (ownOf p s l tabs holes).x.n) (Tree.ask (Cap.of (0 : Nat) = Cap.of (0 : Nat)) (Tree.ask ((0 : Nat) = (0 : Nat)) (Tree.ask ((ownOf p s l tabs holes).y.n = (ownOf p s l tabs
    holes).y.n) (Tree.ask (Cap.of (0 : Nat) = Cap.of (0 : Nat)) (Tree.ask ((0 : Nat) = (0 : Nat)) (Tree.ask ((ownOf p s l tabs holes).u.n = (ownOf p s l tabs holes).u.n) (Tree.ask
    (Cap.of (0 : Nat) = Cap.of (0 : Nat)) (Tree.ask ((0 : Nat) = (0 : Nat)) (Tree.ask ((ownOf p s l tabs holes).v.n = (ownOf p s l tabs holes).v.n) (Tree.ask (Cap.of (0 : Nat) = Cap.of
    (0 : Nat)) (Tree.ask ((0 : Nat) = (0 : Nat)) (Tree.ask ((ownOf p s l tabs holes).x.n = (ownOf p s l tabs holes).x.n) (Tree.ask (Cap.of (0 : Nat) = Cap.of (0 : Nat)) (Tree.ask ((0 :
    Nat) = (0 : Nat)) (Tree.ask ((0 : Nat) + (ownOf p s l tabs holes).y.n = (ownOf p s l tabs holes).y.n) (Tree.ask (Cap.of (0 : Nat) = Cap.of (0 : Nat)) (Tree.ask ((ownOf p s l tabs
    holes).l.n ≤ (ownOf p s l tabs holes).l.n) (Tree.ask (RowsEq (7 : Nat) (ownOf p s l tabs holes).l.n (fun i => RowT.enc ((ownOf p s l tabs holes).l.get i)) fun i => RowT.enc ((ownOf
    p s l tabs holes).l.get i)) (Tree.ask ((ownOf p s l tabs holes).tabs.n ≤ (ownOf p s l tabs holes).tabs.n) (Tree.ask (RowsEq (7 : Nat) (ownOf p s l tabs holes).tabs.n (fun i =>
    RowT.enc ((ownOf p s l tabs holes).tabs.get i)) fun i => RowT.enc ((ownOf p s l tabs holes).tabs.get i)) (Tree.ask ((ownOf p s l tabs holes).holes.n ≤ (ownOf p s l tabs
    holes).holes.n) (Tree.ask (RowsEq (7 : Nat) (ownOf p s l tabs holes).holes.n (fun i => RowT.enc ((ownOf p s l tabs holes).holes.get i)) fun i => RowT.enc ((ownOf p s l tabs
    holes).holes.get i)) (Tree.ask ((ovr (1 : Nat) (0 : Nat) (0 : Nat) (ownOf p s l tabs holes).x).n ≤ (ovr (0 : Nat) (ownR (ownOf p s l tabs holes) (0 : Nat)).n (0 : Nat) (ownOf p s l
    tabs holes).x).n) (Tree.ask (RowsEq (1 : Nat) (ovr (1 : Nat) (0 : Nat) (0 : Nat) (ownOf p s l tabs holes).x).n (fun i => RowT.enc ((ovr (0 : Nat) (ownR (ownOf p s l tabs holes) (0 :
    Nat)).n (0 : Nat) (ownOf p s l tabs holes).x).get i)) fun i => RowT.enc ((ovr (1 : Nat) (0 : Nat) (0 : Nat) (ownOf p s l tabs holes).x).get i)) (Tree.ask ((ovr (1 : Nat) (0 : Nat)
    (1 : Nat) (ownOf p s l tabs holes).y).n ≤ (ovr (0 : Nat) (ownR (ownOf p s l tabs holes) (0 : Nat)).n (1 : Nat) (ownOf p s l tabs holes).y).n) (Tree.ask (RowsEq (1 : Nat) (ovr (1 :
    Nat) (0 : Nat) (1 : Nat) (ownOf p s l tabs holes).y).n (fun i => RowT.enc ((ovr (0 : Nat) (ownR (ownOf p s l tabs holes) (0 : Nat)).n (1 : Nat) (ownOf p s l tabs holes).y).get i))
    fun i => RowT.enc ((ovr (1 : Nat) (0 : Nat) (1 : Nat) (ownOf p s l tabs holes).y).get i)) (Tree.ask ((ovr (1 : Nat) (0 : Nat) (2 : Nat) (ownOf p s l tabs holes).u).n ≤ (ovr (0 :
    Nat) (ownR (ownOf p s l tabs holes) (0 : Nat)).n (2 : Nat) (ownOf p s l tabs holes).u).n) (Tree.ask (RowsEq (1 : Nat) (ovr (1 : Nat) (0 : Nat) (2 : Nat) (ownOf p s l tabs
    holes).u).n (fun i => RowT.enc ((ovr (0 : Nat) (ownR (ownOf p s l tabs holes) (0 : Nat)).n (2 : Nat) (ownOf p s l tabs holes).u).get i)) fun i => RowT.enc ((ovr (1 : Nat) (0 : Nat)
    (2 : Nat) (ownOf p s l tabs holes).u).get i)) (Tree.ask ((ovr (1 : Nat) (0 : Nat) (3 : Nat) (ownOf p s l tabs holes).v).n ≤ (ovr (0 : Nat) (ownR (ownOf p s l tabs holes) (0 :
    Nat)).n (3 : Nat) (ownOf p s l tabs holes).v).n) (Tree.ask (RowsEq (1 : Nat) (ovr (1 : Nat) (0 : Nat) (3 : Nat) (ownOf p s l tabs holes).v).n (fun i => RowT.enc ((ovr (0 : Nat)
    (ownR (ownOf p s l tabs holes) (0 : Nat)).n (3 : Nat) (ownOf p s l tabs holes).v).get i)) fun i => RowT.enc ((ovr (1 : Nat) (0 : Nat) (3 : Nat) (ownOf p s l tabs holes).v).get i))
    (Tree.ask ((ownOf p s l tabs holes).x.n ≤ (ownOf p s l tabs holes).x.n) (Tree.ask (RowsEq (1 : Nat) (ownOf p s l tabs holes).x.n (fun i => RowT.enc ((ownOf p s l tabs holes).x.get
    i)) fun i => RowT.enc ((ownOf p s l tabs holes).x.get i)) (Tree.ask ((ownOf p s l tabs holes).y.n ≤ (0 : Nat) + (ownOf p s l tabs holes).y.n) (Tree.ask (RowsEq (1 : Nat) (ownOf p s
    l tabs holes).y.n (joinG (0 : Nat) (fun x x_1 => (0 : Int)) fun i => RowT.enc ((ovr (0 : Nat) (ownR (ownOf p s l tabs holes) (0 : Nat)).n (1 : Nat) (ownOf p s l tabs holes).y).get
    i)) fun i => RowT.enc ((ownOf p s l tabs holes).y.get i)) (Tree.ask ((ownOf p s l tabs holes).l.n ≤ (ownOf p s l tabs holes).l.n) (Tree.ask (RowsEq (7 : Nat) (ownOf p s l tabs
    holes).l.n (fun i => RowT.enc ((ownOf p s l tabs holes).l.get i)) fun i => RowT.enc ((ownOf p s l tabs holes).l.get i)) (Tree.ask ((ownOf p s l tabs holes).tabs.n ≤ (ownOf p s l
    tabs holes).tabs.n) (Tree.ask (RowsEq (7 : Nat) (ownOf p s l tabs holes).tabs.n (fun i => RowT.enc ((ownOf p s l tabs holes).tabs.get i)) fun i => RowT.enc ((ownOf p s l tabs
    holes).tabs.get i)) (Tree.ask ((ownOf p s l tabs holes).holes.n ≤ (ownOf p s l tabs holes).holes.n) (Tree.ask (RowsEq (7 : Nat) (ownOf p s l tabs holes).holes.n (fun i => RowT.enc
    ((ownOf p s l tabs holes).holes.get i)) fun i => RowT.enc ((ownOf p s l tabs holes).holes.get i)) (Tree.asm (True) (Tree.all (fun (g1 : Nat → Value) => Tree.need (true && (decide
    ((ownOf p s l tabs holes).u.n ≤ (ovr (1 : Nat) (ownR (ownOf p s l tabs holes) (1 : Nat)).n (2 : Nat) (ownOf p s l tabs holes).u).n) && decide (((0 : Nat) + (ownOf p s l tabs
    holes).u.n + ((0 : Nat) + (ownOf p s l tabs holes).u.n) / (4 : Nat) + (192 : Nat)) * (8 : Nat) ≤ (281474976710656 : Nat) ∧ (0 : Nat) + (ownOf p s l tabs holes).u.n ≤
    (9223372036854775807 : Nat)))) (Tree.ask ((ownR (ownOf p s l tabs holes) (2 : Nat)).n ≤ (1000 : Nat)) (Tree.ask ((0 : Nat) = (0 : Nat)) (Tree.ask ((ownOf p s l tabs holes).l.n =
    (ownOf p s l tabs holes).l.n) (Tree.ask (Cap.of (0 : Nat) = Cap.of (0 : Nat)) (Tree.ask ((0 : Nat) = (0 : Nat)) (Tree.ask ((ownOf p s l tabs holes).tabs.n = (ownOf p s l tabs
    holes).tabs.n) (Tree.ask (Cap.of (0 : Nat) = Cap.of (0 : Nat)) (Tree.ask ((0 : Nat) = (0 : Nat)) (Tree.ask ((ownOf p s l tabs holes).holes.n = (ownOf p s l tabs holes).holes.n)
    (Tree.ask (Cap.of (0 : Nat) = Cap.of (0 : Nat)) (Tree.ask ((0 : Nat) = (0 : Nat)) (Tree.ask ((0 : Nat) = (0 : Nat)) (Tree.ask ((0 : Nat) = (0 : Nat)) (Tree.ask ((0 : Nat) = (0 :
    Nat)) (Tree.ask ((0 : Nat) = (0 : Nat)) (Tree.ask ((ownOf p s l tabs holes).l.n = (ownOf p s l tabs holes).l.n) (Tree.ask (Cap.of (0 : Nat) = Cap.of (0 : Nat)) (Tree.ask ((0 : Nat)
    = (0 : Nat)) (Tree.ask ((ownOf p s l tabs holes).tabs.n = (ownOf p s l tabs holes).tabs.n) (Tree.ask (Cap.of (0 : Nat) = Cap.of (0 : Nat)) (Tree.ask ((0 : Nat) = (0 : Nat))
    (Tree.ask ((ownOf p s l tabs holes).holes.n = (ownOf p s l tabs holes).holes.n) (Tree.ask (Cap.of (0 : Nat) = Cap.of (0 : Nat)) (Tree.ask ((ownOf p s l tabs holes).e = (ownOf p s l
    tabs holes).e) (Tree.ask ((ownOf p s l tabs holes).f = (ownOf p s l tabs holes).f) (Tree.ask ((0 : Nat) = (0 : Nat)) (Tree.ask ((0 : Nat) = (0 : Nat)) (Tree.ask ((0 : Nat) = (0 :
    Nat)) (Tree.ask ((4 : Nat) = (4 : Nat)) (Tree.ask (Cap.lit (4 : Nat) = Cap.lit (4 : Nat)) (Tree.ask ((4 : Int) = (4 : Int)) (Tree.ask ((2 : Int) = (2 : Int)) (Tree.ask ((0 : Nat) =
    (0 : Nat)) (Tree.ask ((ownOf p s l tabs holes).u.n = (ownR (ownOf p s l tabs holes) (2 : Nat)).n) (Tree.ask (Cap.of (0 : Nat) = Cap.of (0 : Nat)) (Tree.ask ((↑(ownOf p s l tabs
    holes).u.n : Int) = (↑(ownR (ownOf p s l tabs holes) (2 : Nat)).n : Int)) (Tree.ask ((0 : Int) = (0 : Int)) (Tree.ask ((ownOf p s l tabs holes).p.length = (ownOf p s l tabs
    holes).p.length) (Tree.ask ((ownOf p s l tabs holes).p.slack = (ownOf p s l tabs holes).p.slack) (Tree.ask ((ownOf p s l tabs holes).p.loose = (ownOf p s l tabs holes).p.loose)
    (Tree.ask ((ownOf p s l tabs holes).p.damp.lo = (ownOf p s l tabs holes).p.damp.lo) (Tree.ask ((ownOf p s l tabs holes).p.damp.hi = (ownOf p s l tabs holes).p.damp.hi) (Tree.ask
    ((ownOf p s l tabs holes).s.kind = (ownOf p s l tabs holes).s.kind) (Tree.ask ((ownOf p s l tabs holes).s.at_.lo = (ownOf p s l tabs holes).s.at_.lo) (Tree.ask ((ownOf p s l tabs
    holes).s.at_.hi = (ownOf p s l tabs holes).s.at_.hi) (Tree.ask ((ownOf p s l tabs holes).s.wide.lo = (ownOf p s l tabs holes).s.wide.lo) (Tree.ask ((ownOf p s l tabs
    holes).s.wide.hi = (ownOf p s l tabs holes).s.wide.hi) (Tree.ask ((ownOf p s l tabs holes).s.deep.lo = (ownOf p s l tabs holes).s.deep.lo) (Tree.ask ((ownOf p s l tabs
    holes).s.deep.hi = (ownOf p s l tabs holes).s.deep.hi) (Tree.ask ((0 : Nat) = (0 : Nat)) (Tree.ask ((ownOf p s l tabs holes).x.n = (ownOf p s l tabs holes).x.n) (Tree.ask (Cap.of (0
    : Nat) = Cap.of (0 : Nat)) (Tree.ask ((0 : Nat) = (0 : Nat)) (Tree.ask ((ownOf p s l tabs holes).y.n = (ownOf p s l tabs holes).y.n) (Tree.ask (Cap.of (0 : Nat) = Cap.of (0 : Nat))
    (Tree.ask ((0 : Nat) = (0 : Nat)) (Tree.ask ((ownOf p s l tabs holes).u.n = (ownOf p s l tabs holes).u.n) (Tree.ask (Cap.of (0 : Nat) = Cap.of (0 : Nat)) (Tree.ask ((0 : Nat) = (0 :
    Nat)) (Tree.ask ((ownOf p s l tabs holes).v.n = (ownOf p s l tabs holes).v.n) (Tree.ask (Cap.of (0 : Nat) = Cap.of (0 : Nat)) (Tree.ask ((0 : Nat) = (0 : Nat)) (Tree.ask ((ownOf p s
    l tabs holes).x.n = (ownOf p s l tabs holes).x.n) (Tree.ask (Cap.of (0 : Nat) = Cap.of (0 : Nat)) (Tree.ask ((0 : Nat) = (0 : Nat)) (Tree.ask ((ownOf p s l tabs holes).y.n = (ownOf
    p s l tabs holes).y.n) (Tree.ask (Cap.of (0 : Nat) = Cap.of (0 : Nat)) (Tree.ask ((0 : Nat) = (0 : Nat)) (Tree.ask ((0 : Nat) + (ownOf p s l tabs holes).u.n = (ownOf p s l tabs
    holes).u.n) (Tree.ask (Cap.of (0 : Nat) = Cap.of (0 : Nat)) (Tree.ask ((ownOf p s l tabs holes).l.n ≤ (ownOf p s l tabs holes).l.n) (Tree.ask (RowsEq (7 : Nat) (ownOf p s l tabs
    holes).l.n (fun i => RowT.enc ((ownOf p s l tabs holes).l.get i)) fun i => RowT.enc ((ownOf p s l tabs holes).l.get i)) (Tree.ask ((ownOf p s l tabs holes).tabs.n ≤ (ownOf p s l
    tabs holes).tabs.n) (Tree.ask (RowsEq (7 : Nat) (ownOf p s l tabs holes).tabs.n (fun i => RowT.enc ((ownOf p s l tabs holes).tabs.get i)) fun i => RowT.enc ((ownOf p s l tabs
    holes).tabs.get i)) (Tree.ask ((ownOf p s l tabs holes).holes.n ≤ (ownOf p s l tabs holes).holes.n) (Tree.ask (RowsEq (7 : Nat) (ownOf p s l tabs holes).holes.n (fun i => RowT.enc
    ((ownOf p s l tabs holes).holes.get i)) fun i => RowT.enc ((ownOf p s l tabs holes).holes.get i)) (Tree.ask ((ovr (2 : Nat) (0 : Nat) (0 : Nat) (ownOf p s l tabs holes).x).n ≤ (ovr
    (1 : Nat) (ownR (ownOf p s l tabs holes) (1 : Nat)).n (0 : Nat) (ownOf p s l tabs holes).x).n) (Tree.ask (RowsEq (1 : Nat) (ovr (2 : Nat) (0 : Nat) (0 : Nat) (ownOf p s l tabs
    holes).x).n (fun i => RowT.enc ((ovr (1 : Nat) (ownR (ownOf p s l tabs holes) (1 : Nat)).n (0 : Nat) (ownOf p s l tabs holes).x).get i)) fun i => RowT.enc ((ovr (2 : Nat) (0 : Nat)
    (0 : Nat) (ownOf p s l tabs holes).x).get i)) (Tree.ask ((ovr (2 : Nat) (0 : Nat) (1 : Nat) (ownOf p s l tabs holes).y).n ≤ (ovr (1 : Nat) (ownR (ownOf p s l tabs holes) (1 :
    Nat)).n (1 : Nat) (ownOf p s l tabs holes).y).n) (Tree.ask (RowsEq (1 : Nat) (ovr (2 : Nat) (0 : Nat) (1 : Nat) (ownOf p s l tabs holes).y).n (fun i => RowT.enc ((ovr (1 : Nat)
    (ownR (ownOf p s l tabs holes) (1 : Nat)).n (1 : Nat) (ownOf p s l tabs holes).y).get i)) fun i => RowT.enc ((ovr (2 : Nat) (0 : Nat) (1 : Nat) (ownOf p s l tabs holes).y).get i))
    (Tree.ask ((ovr (2 : Nat) (0 : Nat) (2 : Nat) (ownOf p s l tabs holes).u).n ≤ (ovr (1 : Nat) (ownR (ownOf p s l tabs holes) (1 : Nat)).n (2 : Nat) (ownOf p s l tabs holes).u).n)
    (Tree.ask (RowsEq (1 : Nat) (ovr (2 : Nat) (0 : Nat) (2 : Nat) (ownOf p s l tabs holes).u).n (fun i => RowT.enc ((ovr (1 : Nat) (ownR (ownOf p s l tabs holes) (1 : Nat)).n (2 : Nat)
    (ownOf p s l tabs holes).u).get i)) fun i => RowT.enc ((ovr (2 : Nat) (0 : Nat) (2 : Nat) (ownOf p s l tabs holes).u).get i)) (Tree.ask ((ovr (2 : Nat) (0 : Nat) (3 : Nat) (ownOf p
    s l tabs holes).v).n ≤ (ovr (1 : Nat) (ownR (ownOf p s l tabs holes) (1 : Nat)).n (3 : Nat) (ownOf p s l tabs holes).v).n) (Tree.ask (RowsEq (1 : Nat) (ovr (2 : Nat) (0 : Nat) (3 :
    Nat) (ownOf p s l tabs holes).v).n (fun i => RowT.enc ((ovr (1 : Nat) (ownR (ownOf p s l tabs holes) (1 : Nat)).n (3 : Nat) (ownOf p s l tabs holes).v).get i)) fun i => RowT.enc
    ((ovr (2 : Nat) (0 : Nat) (3 : Nat) (ownOf p s l tabs holes).v).get i)) (Tree.ask ((ownOf p s l tabs holes).x.n ≤ (ownOf p s l tabs holes).x.n) (Tree.ask (RowsEq (1 : Nat) (ownOf p
    s l tabs holes).x.n (fun i => RowT.enc ((ownOf p s l tabs holes).x.get i)) fun i => RowT.enc ((ownOf p s l tabs holes).x.get i)) (Tree.ask ((ownOf p s l tabs holes).y.n ≤ (ownOf p s
    l tabs holes).y.n) (Tree.ask (RowsEq (1 : Nat) (ownOf p s l tabs holes).y.n (fun i => RowT.enc ((ownOf p s l tabs holes).y.get i)) fun i => RowT.enc ((ownOf p s l tabs holes).y.get
    i)) (Tree.ask ((ownOf p s l tabs holes).u.n ≤ (0 : Nat) + (ownOf p s l tabs holes).u.n) (Tree.ask (RowsEq (1 : Nat) (ownOf p s l tabs holes).u.n (joinG (0 : Nat) (fun x x_1 => (0 :
    Int)) fun i => RowT.enc ((ovr (1 : Nat) (ownR (ownOf p s l tabs holes) (1 : Nat)).n (2 : Nat) (ownOf p s l tabs holes).u).get i)) fun i => RowT.enc ((ownOf p s l tabs holes).u.get
    i)) (Tree.ask ((ownOf p s l tabs holes).l.n ≤ (ownOf p s l tabs holes).l.n) (Tree.ask (RowsEq (7 : Nat) (ownOf p s l tabs holes).l.n (fun i => RowT.enc ((ownOf p s l tabs
    holes).l.get i)) fun i => RowT.enc ((ownOf p s l tabs holes).l.get i)) (Tree.ask ((ownOf p s l tabs holes).tabs.n ≤ (ownOf p s l tabs holes).tabs.n) (Tree.ask (RowsEq (7 : Nat)
    (ownOf p s l tabs holes).tabs.n (fun i => RowT.enc ((ownOf p s l tabs holes).tabs.get i)) fun i => RowT.enc ((ownOf p s l tabs holes).tabs.get i)) (Tree.ask ((ownOf p s l tabs
    holes).holes.n ≤ (ownOf p s l tabs holes).holes.n) (Tree.ask (RowsEq (7 : Nat) (ownOf p s l tabs holes).holes.n (fun i => RowT.enc ((ownOf p s l tabs holes).holes.get i)) fun i =>
    RowT.enc ((ownOf p s l tabs holes).holes.get i)) (Tree.asm (True) (Tree.all (fun (g2 : Nat → Value) => Tree.need (true && (decide ((ownOf p s l tabs holes).v.n ≤ (ovr (2 : Nat)
    (ownR (ownOf p s l tabs holes) (2 : Nat)).n (3 : Nat) (ownOf p s l tabs holes).v).n) && decide (((0 : Nat) + (ownOf p s l tabs holes).v.n + ((0 : Nat) + (ownOf p s l tabs
    holes).v.n) / (4 : Nat) + (192 : Nat)) * (8 : Nat) ≤ (281474976710656 : Nat) ∧ (0 : Nat) + (ownOf p s l tabs holes).v.n ≤ (9223372036854775807 : Nat)))) (Tree.ask ((ownR (ownOf p s
    l tabs holes) (3 : Nat)).n ≤ (1000 : Nat)) (Tree.ask ((0 : Nat) = (0 : Nat)) (Tree.ask ((ownOf p s l tabs holes).l.n = (ownOf p s l tabs holes).l.n) (Tree.ask (Cap.of (0 : Nat) =
    Cap.of (0 : Nat)) (Tree.ask ((0 : Nat) = (0 : Nat)) (Tree.ask ((ownOf p s l tabs holes).tabs.n = (ownOf p s l tabs holes).tabs.n) (Tree.ask (Cap.of (0 : Nat) = Cap.of (0 : Nat))
    (Tree.ask ((0 : Nat) = (0 : Nat)) (Tree.ask ((ownOf p s l tabs holes).holes.n = (ownOf p s l tabs holes).holes.n) (Tree.ask (Cap.of (0 : Nat) = Cap.of (0 : Nat)) (Tree.ask ((0 :
    Nat) = (0 : Nat)) (Tree.ask ((0 : Nat) = (0 : Nat)) (Tree.ask ((0 : Nat) = (0 : Nat)) (Tree.ask ((0 : Nat) = (0 : Nat)) (Tree.ask ((0 : Nat) = (0 : Nat)) (Tree.ask ((ownOf p s l
    tabs holes).l.n = (ownOf p s l tabs holes).l.n) (Tree.ask (Cap.of (0 : Nat) = Cap.of (0 : Nat)) (Tree.ask ((0 : Nat) = (0 : Nat)) (Tree.ask ((ownOf p s l tabs holes).tabs.n = (ownOf
    p s l tabs holes).tabs.n) (Tree.ask (Cap.of (0 : Nat) = Cap.of (0 : Nat)) (Tree.ask ((0 : Nat) = (0 : Nat)) (Tree.ask ((ownOf p s l tabs holes).holes.n = (ownOf p s l tabs
    holes).holes.n) (Tree.ask (Cap.of (0 : Nat) = Cap.of (0 : Nat)) (Tree.ask ((ownOf p s l tabs holes).e = (ownOf p s l tabs holes).e) (Tree.ask ((ownOf p s l tabs holes).f = (ownOf p
    s l tabs holes).f) (Tree.ask ((0 : Nat) = (0 : Nat)) (Tree.ask ((0 : Nat) = (0 : Nat)) (Tree.ask ((0 : Nat) = (0 : Nat)) (Tree.ask ((4 : Nat) = (4 : Nat)) (Tree.ask (Cap.lit (4 :
    Nat) = Cap.lit (4 : Nat)) (Tree.ask ((4 : Int) = (4 : Int)) (Tree.ask ((3 : Int) = (3 : Int)) (Tree.ask ((0 : Nat) = (0 : Nat)) (Tree.ask ((ownOf p s l tabs holes).v.n = (ownR
    (ownOf p s l tabs holes) (3 : Nat)).n) (Tree.ask (Cap.of (0 : Nat) = Cap.of (0 : Nat)) (Tree.ask ((↑(ownOf p s l tabs holes).v.n : Int) = (↑(ownR (ownOf p s l tabs holes) (3 :
    Nat)).n : Int)) (Tree.ask ((0 : Int) = (0 : Int)) (Tree.ask ((ownOf p s l tabs holes).p.length = (ownOf p s l tabs holes).p.length) (Tree.ask ((ownOf p s l tabs holes).p.slack =
    (ownOf p s l tabs holes).p.slack) (Tree.ask ((ownOf p s l tabs holes).p.loose = (ownOf p s l tabs holes).p.loose) (Tree.ask ((ownOf p s l tabs holes).p.damp.lo = (ownOf p s l tabs
    holes).p.damp.lo) (Tree.ask ((ownOf p s l tabs holes).p.damp.hi = (ownOf p s l tabs holes).p.damp.hi) (Tree.ask ((ownOf p s l tabs holes).s.kind = (ownOf p s l tabs holes).s.kind)
    (Tree.ask ((ownOf p s l tabs holes).s.at_.lo = (ownOf p s l tabs holes).s.at_.lo) (Tree.ask ((ownOf p s l tabs holes).s.at_.hi = (ownOf p s l tabs holes).s.at_.hi) (Tree.ask ((ownOf
    p s l tabs holes).s.wide.lo = (ownOf p s l tabs holes).s.wide.lo) (Tree.ask ((ownOf p s l tabs holes).s.wide.hi = (ownOf p s l tabs holes).s.wide.hi) (Tree.ask ((ownOf p s l tabs
    holes).s.deep.lo = (ownOf p s l tabs holes).s.deep.lo) (Tree.ask ((ownOf p s l tabs holes).s.deep.hi = (ownOf p s l tabs holes).s.deep.hi) (Tree.ask ((0 : Nat) = (0 : Nat))
    (Tree.ask ((ownOf p s l tabs holes).x.n = (ownOf p s l tabs holes).x.n) (Tree.ask (Cap.of (0 : Nat) = Cap.of (0 : Nat)) (Tree.ask ((0 : Nat) = (0 : Nat)) (Tree.ask ((ownOf p s l
    tabs holes).y.n = (ownOf p s l tabs holes).y.n) (Tree.ask (Cap.of (0 : Nat) = Cap.of (0 : Nat)) (Tree.ask ((0 : Nat) = (0 : Nat)) (Tree.ask ((ownOf p s l tabs holes).u.n = (ownOf p
    s l tabs holes).u.n) (Tree.ask (Cap.of (0 : Nat) = Cap.of (0 : Nat)) (Tree.ask ((0 : Nat) = (0 : Nat)) (Tree.ask ((ownOf p s l tabs holes).v.n = (ownOf p s l tabs holes).v.n)
    (Tree.ask (Cap.of (0 : Nat) = Cap.of (0 : Nat)) (Tree.ask ((0 : Nat) = (0 : Nat)) (Tree.ask ((ownOf p s l tabs holes).x.n = (ownOf p s l tabs holes).x.n) (Tree.ask (Cap.of (0 : Nat)
    = Cap.of (0 : Nat)) (Tree.ask ((0 : Nat) = (0 : Nat)) (Tree.ask ((ownOf p s l tabs holes).y.n = (ownOf p s l tabs holes).y.n) (Tree.ask (Cap.of (0 : Nat) = Cap.of (0 : Nat))
    (Tree.ask ((0 : Nat) = (0 : Nat)) (Tree.ask ((ownOf p s l tabs holes).u.n = (ownOf p s l tabs holes).u.n) (Tree.ask (Cap.of (0 : Nat) = Cap.of (0 : Nat)) (Tree.ask ((0 : Nat) = (0 :
    Nat)) (Tree.ask ((0 : Nat) + (ownOf p s l tabs holes).v.n = (ownOf p s l tabs holes).v.n) (Tree.ask (Cap.of (0 : Nat) = Cap.of (0 : Nat)) (Tree.ask ((ownOf p s l tabs holes).l.n ≤
    (ownOf p s l tabs holes).l.n) (Tree.ask (RowsEq (7 : Nat) (ownOf p s l tabs holes).l.n (fun i => RowT.enc ((ownOf p s l tabs holes).l.get i)) fun i => RowT.enc ((ownOf p s l tabs
    holes).l.get i)) (Tree.ask ((ownOf p s l tabs holes).tabs.n ≤ (ownOf p s l tabs holes).tabs.n) (Tree.ask (RowsEq (7 : Nat) (ownOf p s l tabs holes).tabs.n (fun i => RowT.enc ((ownOf
    p s l tabs holes).tabs.get i)) fun i => RowT.enc ((ownOf p s l tabs holes).tabs.get i)) (Tree.ask ((ownOf p s l tabs holes).holes.n ≤ (ownOf p s l tabs holes).holes.n) (Tree.ask
    (RowsEq (7 : Nat) (ownOf p s l tabs holes).holes.n (fun i => RowT.enc ((ownOf p s l tabs holes).holes.get i)) fun i => RowT.enc ((ownOf p s l tabs holes).holes.get i)) (Tree.ask
    ((ovr (3 : Nat) (0 : Nat) (0 : Nat) (ownOf p s l tabs holes).x).n ≤ (ovr (2 : Nat) (ownR (ownOf p s l tabs holes) (2 : Nat)).n (0 : Nat) (ownOf p s l tabs holes).x).n) (Tree.ask
    (RowsEq (1 : Nat) (ovr (3 : Nat) (0 : Nat) (0 : Nat) (ownOf p s l tabs holes).x).n (fun i => RowT.enc ((ovr (2 : Nat) (ownR (ownOf p s l tabs holes) (2 : Nat)).n (0 : Nat) (ownOf p
    s l tabs holes).x).get i)) fun i => RowT.enc ((ovr (3 : Nat) (0 : Nat) (0 : Nat) (ownOf p s l tabs holes).x).get i)) (Tree.ask ((ovr (3 : Nat) (0 : Nat) (1 : Nat) (ownOf p s l tabs
    holes).y).n ≤ (ovr (2 : Nat) (ownR (ownOf p s l tabs holes) (2 : Nat)).n (1 : Nat) (ownOf p s l tabs holes).y).n) (Tree.ask (RowsEq (1 : Nat) (ovr (3 : Nat) (0 : Nat) (1 : Nat)
    (ownOf p s l tabs holes).y).n (fun i => RowT.enc ((ovr (2 : Nat) (ownR (ownOf p s l tabs holes) (2 : Nat)).n (1 : Nat) (ownOf p s l tabs holes).y).get i)) fun i => RowT.enc ((ovr (3
    : Nat) (0 : Nat) (1 : Nat) (ownOf p s l tabs holes).y).get i)) (Tree.ask ((ovr (3 : Nat) (0 : Nat) (2 : Nat) (ownOf p s l tabs holes).u).n ≤ (ovr (2 : Nat) (ownR (ownOf p s l tabs
    holes) (2 : Nat)).n (2 : Nat) (ownOf p s l tabs holes).u).n) (Tree.ask (RowsEq (1 : Nat) (ovr (3 : Nat) (0 : Nat) (2 : Nat) (ownOf p s l tabs holes).u).n (fun i => RowT.enc ((ovr (2
    : Nat) (ownR (ownOf p s l tabs holes) (2 : Nat)).n (2 : Nat) (ownOf p s l tabs holes).u).get i)) fun i => RowT.enc ((ovr (3 : Nat) (0 : Nat) (2 : Nat) (ownOf p s l tabs
    holes).u).get i)) (Tree.ask ((ovr (3 : Nat) (0 : Nat) (3 : Nat) (ownOf p s l tabs holes).v).n ≤ (ovr (2 : Nat) (ownR (ownOf p s l tabs holes) (2 : Nat)).n (3 : Nat) (ownOf p s l
    tabs holes).v).n) (Tree.ask (RowsEq (1 : Nat) (ovr (3 : Nat) (0 : Nat) (3 : Nat) (ownOf p s l tabs holes).v).n (fun i => RowT.enc ((ovr (2 : Nat) (ownR (ownOf p s l tabs holes) (2 :
    Nat)).n (3 : Nat) (ownOf p s l tabs holes).v).get i)) fun i => RowT.enc ((ovr (3 : Nat) (0 : Nat) (3 : Nat) (ownOf p s l tabs holes).v).get i)) (Tree.ask ((ownOf p s l tabs
    holes).x.n ≤ (ownOf p s l tabs holes).x.n) (Tree.ask (RowsEq (1 : Nat) (ownOf p s l tabs holes).x.n (fun i => RowT.enc ((ownOf p s l tabs holes).x.get i)) fun i => RowT.enc ((ownOf
    p s l tabs holes).x.get i)) (Tree.ask ((ownOf p s l tabs holes).y.n ≤ (ownOf p s l tabs holes).y.n) (Tree.ask (RowsEq (1 : Nat) (ownOf p s l tabs holes).y.n (fun i => RowT.enc
    ((ownOf p s l tabs holes).y.get i)) fun i => RowT.enc ((ownOf p s l tabs holes).y.get i)) (Tree.ask ((ownOf p s l tabs holes).u.n ≤ (ownOf p s l tabs holes).u.n) (Tree.ask (RowsEq
    (1 : Nat) (ownOf p s l tabs holes).u.n (fun i => RowT.enc ((ownOf p s l tabs holes).u.get i)) fun i => RowT.enc ((ownOf p s l tabs holes).u.get i)) (Tree.ask ((ownOf p s l tabs
    holes).v.n ≤ (0 : Nat) + (ownOf p s l tabs holes).v.n) (Tree.ask (RowsEq (1 : Nat) (ownOf p s l tabs holes).v.n (joinG (0 : Nat) (fun x x_1 => (0 : Int)) fun i => RowT.enc ((ovr (2
    : Nat) (ownR (ownOf p s l tabs holes) (2 : Nat)).n (3 : Nat) (ownOf p s l tabs holes).v).get i)) fun i => RowT.enc ((ownOf p s l tabs holes).v.get i)) (Tree.ask ((ownOf p s l tabs
    holes).l.n ≤ (ownOf p s l tabs holes).l.n) (Tree.ask (RowsEq (7 : Nat) (ownOf p s l tabs holes).l.n (fun i => RowT.enc ((ownOf p s l tabs holes).l.get i)) fun i => RowT.enc ((ownOf
    p s l tabs holes).l.get i)) (Tree.ask ((ownOf p s l tabs holes).tabs.n ≤ (ownOf p s l tabs holes).tabs.n) (Tree.ask (RowsEq (7 : Nat) (ownOf p s l tabs holes).tabs.n (fun i =>
    RowT.enc ((ownOf p s l tabs holes).tabs.get i)) fun i => RowT.enc ((ownOf p s l tabs holes).tabs.get i)) (Tree.ask ((ownOf p s l tabs holes).holes.n ≤ (ownOf p s l tabs
    holes).holes.n) (Tree.ask (RowsEq (7 : Nat) (ownOf p s l tabs holes).holes.n (fun i => RowT.enc ((ownOf p s l tabs holes).holes.get i)) fun i => RowT.enc ((ownOf p s l tabs
    holes).holes.get i)) (Tree.asm (True) (Tree.all (fun (g3 : Nat → Value) => Tree.need (true && (true && (decide ((ownOf p s l tabs holes).l.n ≤ (ownOf p s l tabs holes).l.n) &&
    true)) && decide ((ownOf p s l tabs holes).l.n ≤ (1000 : Nat))) (Tree.need (true && (decide ((ownOf p s l tabs holes).tabs.n ≤ (ownOf p s l tabs holes).tabs.n) && (decide ((ownOf p
    s l tabs holes).holes.n ≤ (ownOf p s l tabs holes).holes.n) && true)) && decide ((ownOf p s l tabs holes).tabs.n ≤ (1000 : Nat) ∧ (ownOf p s l tabs holes).holes.n ≤ (1000 : Nat)))
    (Tree.ask ((ownOf p s l tabs holes).l.n ≤ (1000 : Nat)) (Tree.ask ((0 : Nat) = (0 : Nat)) (Tree.ask ((ownOf p s l tabs holes).l.n = (ownOf p s l tabs holes).l.n) (Tree.ask (Cap.of
    (0 : Nat) = Cap.of (0 : Nat)) (Tree.ask ((0 : Nat) = (0 : Nat)) (Tree.ask ((ownOf p s l tabs holes).tabs.n = (ownOf p s l tabs holes).tabs.n) (Tree.ask (Cap.of (0 : Nat) = Cap.of (0
    : Nat)) (Tree.ask ((0 : Nat) = (0 : Nat)) (Tree.ask ((ownOf p s l tabs holes).holes.n = (ownOf p s l tabs holes).holes.n) (Tree.ask (Cap.of (0 : Nat) = Cap.of (0 : Nat)) (Tree.ask
    ((0 : Nat) = (0 : Nat)) (Tree.ask ((ownOf p s l tabs holes).l.n = (ownOf p s l tabs holes).l.n) (Tree.ask (Cap.of (0 : Nat) = Cap.of (0 : Nat)) (Tree.ask ((0 : Nat) = (0 : Nat))
    (Tree.ask ((ownOf p s l tabs holes).tabs.n = (ownOf p s l tabs holes).tabs.n) (Tree.ask (Cap.of (0 : Nat) = Cap.of (0 : Nat)) (Tree.ask ((0 : Nat) = (0 : Nat)) (Tree.ask ((ownOf p s
    l tabs holes).holes.n = (ownOf p s l tabs holes).holes.n) (Tree.ask (Cap.of (0 : Nat) = Cap.of (0 : Nat)) (Tree.ask ((ownOf p s l tabs holes).e = (ownOf p s l tabs holes).e)
    (Tree.ask ((ownOf p s l tabs holes).f = (ownOf p s l tabs holes).f) (Tree.ask ((0 : Nat) = (0 : Nat)) (Tree.ask ((0 : Nat) = (0 : Nat)) (Tree.ask ((0 : Nat) = (0 : Nat)) (Tree.ask
    ((matL (ownOf p s l tabs holes).p (ownOf p s l tabs holes).s (2 : Int) (ownOf p s l tabs holes).l).length = (ownOf p s l tabs holes).x.n) (Tree.ask (Cap.of (0 : Nat) = Cap.of (0 :
    Nat)) (Tree.ask ((0 : Nat) = (0 : Nat)) (Tree.ask ((matL (ownOf p s l tabs holes).p (ownOf p s l tabs holes).s (1 : Int) (ownOf p s l tabs holes).l).length = (ownOf p s l tabs
    holes).y.n) (Tree.ask (Cap.of (0 : Nat) = Cap.of (0 : Nat)) (Tree.ask (matE (ownOf p s l tabs holes).p (ownOf p s l tabs holes).s (ownOf p s l tabs holes).l = (ownOf p s l tabs
    holes).e) (Tree.ask ((0 : Nat) = (0 : Nat)) (Tree.ask ((pairsV (ownOf p s l tabs holes).p (ownOf p s l tabs holes).tabs (ownOf p s l tabs holes).holes).1.n = (ownOf p s l tabs
    holes).u.n) (Tree.ask (Cap.of (0 : Nat) = Cap.of (0 : Nat)) (Tree.ask ((0 : Nat) = (0 : Nat)) (Tree.ask ((pairsV (ownOf p s l tabs holes).p (ownOf p s l tabs holes).tabs (ownOf p s
    l tabs holes).holes).2.1.n = (ownOf p s l tabs holes).v.n) (Tree.ask (Cap.of (0 : Nat) = Cap.of (0 : Nat)) (Tree.ask ((pairsV (ownOf p s l tabs holes).p (ownOf p s l tabs
    holes).tabs (ownOf p s l tabs holes).holes).2.2 = (ownOf p s l tabs holes).f) (Tree.ask ((↑(ownOf p s l tabs holes).l.n : Int) = (↑(ownOf p s l tabs holes).l.n : Int)) (Tree.ask ((0
    : Int) = (0 : Int)) (Tree.ask ((0 : Nat) = (0 : Nat)) (Tree.ask ((ownOf p s l tabs holes).x.n = (ownOf p s l tabs holes).x.n) (Tree.ask (Cap.of (0 : Nat) = Cap.of (0 : Nat))
    (Tree.ask ((0 : Nat) = (0 : Nat)) (Tree.ask ((ownOf p s l tabs holes).y.n = (ownOf p s l tabs holes).y.n) (Tree.ask (Cap.of (0 : Nat) = Cap.of (0 : Nat)) (Tree.ask ((0 : Nat) = (0 :
    Nat)) (Tree.ask ((ownOf p s l tabs holes).u.n = (ownOf p s l tabs holes).u.n) (Tree.ask (Cap.of (0 : Nat) = Cap.of (0 : Nat)) (Tree.ask ((0 : Nat) = (0 : Nat)) (Tree.ask ((ownOf p s
    l tabs holes).v.n = (ownOf p s l tabs holes).v.n) (Tree.ask (Cap.of (0 : Nat) = Cap.of (0 : Nat)) (Tree.ask ((ownOf p s l tabs holes).l.n ≤ (ownOf p s l tabs holes).l.n) (Tree.ask
    (RowsEq (7 : Nat) (ownOf p s l tabs holes).l.n (fun i => RowT.enc ((ownOf p s l tabs holes).l.get i)) fun i => RowT.enc ((ownOf p s l tabs holes).l.get i)) (Tree.ask ((ownOf p s l
    tabs holes).tabs.n ≤ (ownOf p s l tabs holes).tabs.n) (Tree.ask (RowsEq (7 : Nat) (ownOf p s l tabs holes).tabs.n (fun i => RowT.enc ((ownOf p s l tabs holes).tabs.get i)) fun i =>
    RowT.enc ((ownOf p s l tabs holes).tabs.get i)) (Tree.ask ((ownOf p s l tabs holes).holes.n ≤ (ownOf p s l tabs holes).holes.n) (Tree.ask (RowsEq (7 : Nat) (ownOf p s l tabs
    holes).holes.n (fun i => RowT.enc ((ownOf p s l tabs holes).holes.get i)) fun i => RowT.enc ((ownOf p s l tabs holes).holes.get i)) (Tree.ask ((ownOf p s l tabs holes).x.n ≤ (matL
    (ownOf p s l tabs holes).p (ownOf p s l tabs holes).s (2 : Int) (ownOf p s l tabs holes).l).length) (Tree.ask (RowsEq (1 : Nat) (ownOf p s l tabs holes).x.n (fun i => RowT.enc
    ((matL (ownOf p s l tabs holes).p (ownOf p s l tabs holes).s (2 : Int) (ownOf p s l tabs holes).l).getD i (0 : Int))) fun i => RowT.enc ((ownOf p s l tabs holes).x.get i)) (Tree.ask
    ((ownOf p s l tabs holes).y.n ≤ (matL (ownOf p s l tabs holes).p (ownOf p s l tabs holes).s (1 : Int) (ownOf p s l tabs holes).l).length) (Tree.ask (RowsEq (1 : Nat) (ownOf p s l
    tabs holes).y.n (fun i => RowT.enc ((matL (ownOf p s l tabs holes).p (ownOf p s l tabs holes).s (1 : Int) (ownOf p s l tabs holes).l).getD i (0 : Int))) fun i => RowT.enc ((ownOf p
    s l tabs holes).y.get i)) (Tree.ask ((ownOf p s l tabs holes).u.n ≤ (pairsV (ownOf p s l tabs holes).p (ownOf p s l tabs holes).tabs (ownOf p s l tabs holes).holes).1.n) (Tree.ask
    (RowsEq (1 : Nat) (ownOf p s l tabs holes).u.n (fun i => RowT.enc ((pairsV (ownOf p s l tabs holes).p (ownOf p s l tabs holes).tabs (ownOf p s l tabs holes).holes).1.get i)) fun i
    => RowT.enc ((ownOf p s l tabs holes).u.get i)) (Tree.ask ((ownOf p s l tabs holes).v.n ≤ (pairsV (ownOf p s l tabs holes).p (ownOf p s l tabs holes).tabs (ownOf p s l tabs
    holes).holes).2.1.n) (Tree.ask (RowsEq (1 : Nat) (ownOf p s l tabs holes).v.n (fun i => RowT.enc ((pairsV (ownOf p s l tabs holes).p (ownOf p s l tabs holes).tabs (ownOf p s l tabs
    holes).holes).2.1.get i)) fun i => RowT.enc ((ownOf p s l tabs holes).v.get i)) (Tree.ask ((ownOf p s l tabs holes).x.n ≤ (ownOf p s l tabs holes).x.n) (Tree.ask (RowsEq (1 : Nat)
    (ownOf p s l tabs holes).x.n (fun i => RowT.enc ((ownOf p s l tabs holes).x.get i)) fun i => RowT.enc ((ownOf p s l tabs holes).x.get i)) (Tree.ask ((ownOf p s l tabs holes).y.n ≤
    (ownOf p s l tabs holes).y.n) (Tree.ask (RowsEq (1 : Nat) (ownOf p s l tabs holes).y.n (fun i => RowT.enc ((ownOf p s l tabs holes).y.get i)) fun i => RowT.enc ((ownOf p s l tabs
    holes).y.get i)) (Tree.ask ((ownOf p s l tabs holes).u.n ≤ (ownOf p s l tabs holes).u.n) (Tree.ask (RowsEq (1 : Nat) (ownOf p s l tabs holes).u.n (fun i => RowT.enc ((ownOf p s l
    tabs holes).u.get i)) fun i => RowT.enc ((ownOf p s l tabs holes).u.get i)) (Tree.ask ((ownOf p s l tabs holes).v.n ≤ (ownOf p s l tabs holes).v.n) (Tree.ask (RowsEq (1 : Nat)
    (ownOf p s l tabs holes).v.n (fun i => RowT.enc ((ownOf p s l tabs holes).v.get i)) fun i => RowT.enc ((ownOf p s l tabs holes).v.get i)) (Tree.ask ((ownOf p s l tabs holes).l.n ≤
    (ownOf p s l tabs holes).l.n) (Tree.ask (RowsEq (7 : Nat) (ownOf p s l tabs holes).l.n (fun i => RowT.enc ((ownOf p s l tabs holes).l.get i)) fun i => RowT.enc ((ownOf p s l tabs
    holes).l.get i)) (Tree.ask ((ownOf p s l tabs holes).tabs.n ≤ (ownOf p s l tabs holes).tabs.n) (Tree.ask (RowsEq (7 : Nat) (ownOf p s l tabs holes).tabs.n (fun i => RowT.enc ((ownOf
    p s l tabs holes).tabs.get i)) fun i => RowT.enc ((ownOf p s l tabs holes).tabs.get i)) (Tree.ask ((ownOf p s l tabs holes).holes.n ≤ (ownOf p s l tabs holes).holes.n) (Tree.ask
    (RowsEq (7 : Nat) (ownOf p s l tabs holes).holes.n (fun i => RowT.enc ((ownOf p s l tabs holes).holes.get i)) fun i => RowT.enc ((ownOf p s l tabs holes).holes.get i)) (Tree.asm
    (True) (Tree.all (fun (g4 : Nat → Value) => Tree.ask ((ownOf p s l tabs holes).tabs.n ≤ (1000 : Nat)) (Tree.ask ((0 : Nat) = (0 : Nat)) (Tree.ask ((ownOf p s l tabs holes).l.n =
    (ownOf p s l tabs holes).l.n) (Tree.ask (Cap.of (0 : Nat) = Cap.of (0 : Nat)) (Tree.ask ((0 : Nat) = (0 : Nat)) (Tree.ask ((ownOf p s l tabs holes).tabs.n = (ownOf p s l tabs
    holes).tabs.n) (Tree.ask (Cap.of (0 : Nat) = Cap.of (0 : Nat)) (Tree.ask ((0 : Nat) = (0 : Nat)) (Tree.ask ((ownOf p s l tabs holes).holes.n = (ownOf p s l tabs holes).holes.n)
    (Tree.ask (Cap.of (0 : Nat) = Cap.of (0 : Nat)) (Tree.ask ((0 : Nat) = (0 : Nat)) (Tree.ask ((ownOf p s l tabs holes).l.n = (ownOf p s l tabs holes).l.n) (Tree.ask (Cap.of (0 : Nat)
    = Cap.of (0 : Nat)) (Tree.ask ((0 : Nat) = (0 : Nat)) (Tree.ask ((ownOf p s l tabs holes).tabs.n = (ownOf p s l tabs holes).tabs.n) (Tree.ask (Cap.of (0 : Nat) = Cap.of (0 : Nat))
    (Tree.ask ((0 : Nat) = (0 : Nat)) (Tree.ask ((ownOf p s l tabs holes).holes.n = (ownOf p s l tabs holes).holes.n) (Tree.ask (Cap.of (0 : Nat) = Cap.of (0 : Nat)) (Tree.ask ((ownOf p
    s l tabs holes).e = (ownOf p s l tabs holes).e) (Tree.ask ((ownOf p s l tabs holes).f = (ownOf p s l tabs holes).f) (Tree.ask ((0 : Nat) = (0 : Nat)) (Tree.ask ((0 : Nat) = (0 :
    Nat)) (Tree.ask ((0 : Nat) = (0 : Nat)) (Tree.ask ((ownOf p s l tabs holes).x.n = (ownOf p s l tabs holes).x.n) (Tree.ask (Cap.of (0 : Nat) = Cap.of (0 : Nat)) (Tree.ask ((0 : Nat)
    = (0 : Nat)) (Tree.ask ((ownOf p s l tabs holes).y.n = (ownOf p s l tabs holes).y.n) (Tree.ask (Cap.of (0 : Nat) = Cap.of (0 : Nat)) (Tree.ask ((ownOf p s l tabs holes).e = (ownOf p
    s l tabs holes).e) (Tree.ask ((0 : Nat) = (0 : Nat)) (Tree.ask ((ownOf p s l tabs holes).u.n = (ownOf p s l tabs holes).u.n) (Tree.ask (Cap.of (0 : Nat) = Cap.of (0 : Nat))
    (Tree.ask ((0 : Nat) = (0 : Nat)) (Tree.ask ((ownOf p s l tabs holes).v.n = (ownOf p s l tabs holes).v.n) (Tree.ask (Cap.of (0 : Nat) = Cap.of (0 : Nat)) (Tree.ask ((ownOf p s l
    tabs holes).f = (ownOf p s l tabs holes).f) (Tree.ask ((↑(ownOf p s l tabs holes).tabs.n : Int) = (↑(ownOf p s l tabs holes).tabs.n : Int)) (Tree.ask ((0 : Int) = (0 : Int))
    (Tree.ask ((0 : Nat) = (0 : Nat)) (Tree.ask ((ownOf p s l tabs holes).x.n = (ownOf p s l tabs holes).x.n) (Tree.ask (Cap.of (0 : Nat) = Cap.of (0 : Nat)) (Tree.ask ((0 : Nat) = (0 :
    Nat)) (Tree.ask ((ownOf p s l tabs holes).y.n = (ownOf p s l tabs holes).y.n) (Tree.ask (Cap.of (0 : Nat) = Cap.of (0 : Nat)) (Tree.ask ((0 : Nat) = (0 : Nat)) (Tree.ask ((ownOf p s
    l tabs holes).u.n = (ownOf p s l tabs holes).u.n) (Tree.ask (Cap.of (0 : Nat) = Cap.of (0 : Nat)) (Tree.ask ((0 : Nat) = (0 : Nat)) (Tree.ask ((ownOf p s l tabs holes).v.n = (ownOf
    p s l tabs holes).v.n) (Tree.ask (Cap.of (0 : Nat) = Cap.of (0 : Nat)) (Tree.ask ((ownOf p s l tabs holes).l.n ≤ (ownOf p s l tabs holes).l.n) (Tree.ask (RowsEq (7 : Nat) (ownOf p s
    l tabs holes).l.n (fun i => RowT.enc ((ownOf p s l tabs holes).l.get i)) fun i => RowT.enc ((ownOf p s l tabs holes).l.get i)) (Tree.ask ((ownOf p s l tabs holes).tabs.n ≤ (ownOf p
    s l tabs holes).tabs.n) (Tree.ask (RowsEq (7 : Nat) (ownOf p s l tabs holes).tabs.n (fun i => RowT.enc ((ownOf p s l tabs holes).tabs.get i)) fun i => RowT.enc ((ownOf p s l tabs
    holes).tabs.get i)) (Tree.ask ((ownOf p s l tabs holes).holes.n ≤ (ownOf p s l tabs holes).holes.n) (Tree.ask (RowsEq (7 : Nat) (ownOf p s l tabs holes).holes.n (fun i => RowT.enc
    ((ownOf p s l tabs holes).holes.get i)) fun i => RowT.enc ((ownOf p s l tabs holes).holes.get i)) (Tree.ask ((ownOf p s l tabs holes).x.n ≤ (ownOf p s l tabs holes).x.n) (Tree.ask
    (RowsEq (1 : Nat) (ownOf p s l tabs holes).x.n (fun i => RowT.enc ((ownOf p s l tabs holes).x.get i)) fun i => RowT.enc ((ownOf p s l tabs holes).x.get i)) (Tree.ask ((ownOf p s l
    tabs holes).y.n ≤ (ownOf p s l tabs holes).y.n) (Tree.ask (RowsEq (1 : Nat) (ownOf p s l tabs holes).y.n (fun i => RowT.enc ((ownOf p s l tabs holes).y.get i)) fun i => RowT.enc
    ((ownOf p s l tabs holes).y.get i)) (Tree.ask ((ownOf p s l tabs holes).u.n ≤ (ownOf p s l tabs holes).u.n) (Tree.ask (RowsEq (1 : Nat) (ownOf p s l tabs holes).u.n (fun i =>
    RowT.enc ((ownOf p s l tabs holes).u.get i)) fun i => RowT.enc ((ownOf p s l tabs holes).u.get i)) (Tree.ask ((ownOf p s l tabs holes).v.n ≤ (ownOf p s l tabs holes).v.n) (Tree.ask
    (RowsEq (1 : Nat) (ownOf p s l tabs holes).v.n (fun i => RowT.enc ((ownOf p s l tabs holes).v.get i)) fun i => RowT.enc ((ownOf p s l tabs holes).v.get i)) (Tree.ask ((ownOf p s l
    tabs holes).x.n ≤ (ownOf p s l tabs holes).x.n) (Tree.ask (RowsEq (1 : Nat) (ownOf p s l tabs holes).x.n (fun i => RowT.enc ((ownOf p s l tabs holes).x.get i)) fun i => RowT.enc
    ((ownOf p s l tabs holes).x.get i)) (Tree.ask ((ownOf p s l tabs holes).y.n ≤ (ownOf p s l tabs holes).y.n) (Tree.ask (RowsEq (1 : Nat) (ownOf p s l tabs holes).y.n (fun i =>
    RowT.enc ((ownOf p s l tabs holes).y.get i)) fun i => RowT.enc ((ownOf p s l tabs holes).y.get i)) (Tree.ask ((ownOf p s l tabs holes).u.n ≤ (ownOf p s l tabs holes).u.n) (Tree.ask
    (RowsEq (1 : Nat) (ownOf p s l tabs holes).u.n (fun i => RowT.enc ((ownOf p s l tabs holes).u.get i)) fun i => RowT.enc ((ownOf p s l tabs holes).u.get i)) (Tree.ask ((ownOf p s l
    tabs holes).v.n ≤ (ownOf p s l tabs holes).v.n) (Tree.ask (RowsEq (1 : Nat) (ownOf p s l tabs holes).v.n (fun i => RowT.enc ((ownOf p s l tabs holes).v.get i)) fun i => RowT.enc
    ((ownOf p s l tabs holes).v.get i)) (Tree.ask ((ownOf p s l tabs holes).l.n ≤ (ownOf p s l tabs holes).l.n) (Tree.ask (RowsEq (7 : Nat) (ownOf p s l tabs holes).l.n (fun i =>
    RowT.enc ((ownOf p s l tabs holes).l.get i)) fun i => RowT.enc ((ownOf p s l tabs holes).l.get i)) (Tree.ask ((ownOf p s l tabs holes).tabs.n ≤ (ownOf p s l tabs holes).tabs.n)
    (Tree.ask (RowsEq (7 : Nat) (ownOf p s l tabs holes).tabs.n (fun i => RowT.enc ((ownOf p s l tabs holes).tabs.get i)) fun i => RowT.enc ((ownOf p s l tabs holes).tabs.get i))
    (Tree.ask ((ownOf p s l tabs holes).holes.n ≤ (ownOf p s l tabs holes).holes.n) (Tree.ask (RowsEq (7 : Nat) (ownOf p s l tabs holes).holes.n (fun i => RowT.enc ((ownOf p s l tabs
    holes).holes.get i)) fun i => RowT.enc ((ownOf p s l tabs holes).holes.get i)) (Tree.asm (True) (Tree.all (fun (g5 : Nat → Value) => Tree.ask ((ownOf p s l tabs holes).holes.n ≤
    (1000 : Nat)) (Tree.ask ((0 : Nat) = (0 : Nat)) (Tree.ask ((ownOf p s l tabs holes).l.n = (ownOf p s l tabs holes).l.n) (Tree.ask (Cap.of (0 : Nat) = Cap.of (0 : Nat)) (Tree.ask ((0
    : Nat) = (0 : Nat)) (Tree.ask ((ownOf p s l tabs holes).tabs.n = (ownOf p s l tabs holes).tabs.n) (Tree.ask (Cap.of (0 : Nat) = Cap.of (0 : Nat)) (Tree.ask ((0 : Nat) = (0 : Nat))
    (Tree.ask ((ownOf p s l tabs holes).holes.n = (ownOf p s l tabs holes).holes.n) (Tree.ask (Cap.of (0 : Nat) = Cap.of (0 : Nat)) (Tree.ask ((0 : Nat) = (0 : Nat)) (Tree.ask ((ownOf p
    s l tabs holes).l.n = (ownOf p s l tabs holes).l.n) (Tree.ask (Cap.of (0 : Nat) = Cap.of (0 : Nat)) (Tree.ask ((0 : Nat) = (0 : Nat)) (Tree.ask ((ownOf p s l tabs holes).tabs.n =
    (ownOf p s l tabs holes).tabs.n) (Tree.ask (Cap.of (0 : Nat) = Cap.of (0 : Nat)) (Tree.ask ((0 : Nat) = (0 : Nat)) (Tree.ask ((ownOf p s l tabs holes).holes.n = (ownOf p s l tabs
    holes).holes.n) (Tree.ask (Cap.of (0 : Nat) = Cap.of (0 : Nat)) (Tree.ask ((ownOf p s l tabs holes).e = (ownOf p s l tabs holes).e) (Tree.ask ((ownOf p s l tabs holes).f = (ownOf p
    s l tabs holes).f) (Tree.ask ((0 : Nat) = (0 : Nat)) (Tree.ask ((0 : Nat) = (0 : Nat)) (Tree.ask ((0 : Nat) = (0 : Nat)) (Tree.ask ((ownOf p s l tabs holes).x.n = (ownOf p s l tabs
    holes).x.n) (Tree.ask (Cap.of (0 : Nat) = Cap.of (0 : Nat)) (Tree.ask ((0 : Nat) = (0 : Nat)) (Tree.ask ((ownOf p s l tabs holes).y.n = (ownOf p s l tabs holes).y.n) (Tree.ask
    (Cap.of (0 : Nat) = Cap.of (0 : Nat)) (Tree.ask ((ownOf p s l tabs holes).e = (ownOf p s l tabs holes).e) (Tree.ask ((0 : Nat) = (0 : Nat)) (Tree.ask ((ownOf p s l tabs holes).u.n =
    (ownOf p s l tabs holes).u.n) (Tree.ask (Cap.of (0 : Nat) = Cap.of (0 : Nat)) (Tree.ask ((0 : Nat) = (0 : Nat)) (Tree.ask ((ownOf p s l tabs holes).v.n = (ownOf p s l tabs
    holes).v.n) (Tree.ask (Cap.of (0 : Nat) = Cap.of (0 : Nat)) (Tree.ask ((ownOf p s l tabs holes).f = (ownOf p s l tabs holes).f) (Tree.ask ((↑(ownOf p s l tabs holes).holes.n : Int)
    = (↑(ownOf p s l tabs holes).holes.n : Int)) (Tree.ask ((0 : Int) = (0 : Int)) (Tree.ask ((0 : Nat) = (0 : Nat)) (Tree.ask ((ownOf p s l tabs holes).x.n = (ownOf p s l tabs
    holes).x.n) (Tree.ask (Cap.of (0 : Nat) = Cap.of (0 : Nat)) (Tree.ask ((0 : Nat) = (0 : Nat)) (Tree.ask ((ownOf p s l tabs holes).y.n = (ownOf p s l tabs holes).y.n) (Tree.ask
    (Cap.of (0 : Nat) = Cap.of (0 : Nat)) (Tree.ask ((0 : Nat) = (0 : Nat)) (Tree.ask ((ownOf p s l tabs holes).u.n = (ownOf p s l tabs holes).u.n) (Tree.ask (Cap.of (0 : Nat) = Cap.of
    (0 : Nat)) (Tree.ask ((0 : Nat) = (0 : Nat)) (Tree.ask ((ownOf p s l tabs holes).v.n = (ownOf p s l tabs holes).v.n) (Tree.ask (Cap.of (0 : Nat) = Cap.of (0 : Nat)) (Tree.ask
    ((ownOf p s l tabs holes).l.n ≤ (ownOf p s l tabs holes).l.n) (Tree.ask (RowsEq (7 : Nat) (ownOf p s l tabs holes).l.n (fun i => RowT.enc ((ownOf p s l tabs holes).l.get i)) fun i
    => RowT.enc ((ownOf p s l tabs holes).l.get i)) (Tree.ask ((ownOf p s l tabs holes).tabs.n ≤ (ownOf p s l tabs holes).tabs.n) (Tree.ask (RowsEq (7 : Nat) (ownOf p s l tabs
    holes).tabs.n (fun i => RowT.enc ((ownOf p s l tabs holes).tabs.get i)) fun i => RowT.enc ((ownOf p s l tabs holes).tabs.get i)) (Tree.ask ((ownOf p s l tabs holes).holes.n ≤ (ownOf
    p s l tabs holes).holes.n) (Tree.ask (RowsEq (7 : Nat) (ownOf p s l tabs holes).holes.n (fun i => RowT.enc ((ownOf p s l tabs holes).holes.get i)) fun i => RowT.enc ((ownOf p s l
    tabs holes).holes.get i)) (Tree.ask ((ownOf p s l tabs holes).x.n ≤ (ownOf p s l tabs holes).x.n) (Tree.ask (RowsEq (1 : Nat) (ownOf p s l tabs holes).x.n (fun i => RowT.enc ((ownOf
    p s l tabs holes).x.get i)) fun i => RowT.enc ((ownOf p s l tabs holes).x.get i)) (Tree.ask ((ownOf p s l tabs holes).y.n ≤ (ownOf p s l tabs holes).y.n) (Tree.ask (RowsEq (1 : Nat)
    (ownOf p s l tabs holes).y.n (fun i => RowT.enc ((ownOf p s l tabs holes).y.get i)) fun i => RowT.enc ((ownOf p s l tabs holes).y.get i)) (Tree.ask ((ownOf p s l tabs holes).u.n ≤
    (ownOf p s l tabs holes).u.n) (Tree.ask (RowsEq (1 : Nat) (ownOf p s l tabs holes).u.n (fun i => RowT.enc ((ownOf p s l tabs holes).u.get i)) fun i => RowT.enc ((ownOf p s l tabs
    holes).u.get i)) (Tree.ask ((ownOf p s l tabs holes).v.n ≤ (ownOf p s l tabs holes).v.n) (Tree.ask (RowsEq (1 : Nat) (ownOf p s l tabs holes).v.n (fun i => RowT.enc ((ownOf p s l
    tabs holes).v.get i)) fun i => RowT.enc ((ownOf p s l tabs holes).v.get i)) (Tree.ask ((ownOf p s l tabs holes).x.n ≤ (ownOf p s l tabs holes).x.n) (Tree.ask (RowsEq (1 : Nat)
    (ownOf p s l tabs holes).x.n (fun i => RowT.enc ((ownOf p s l tabs holes).x.get i)) fun i => RowT.enc ((ownOf p s l tabs holes).x.get i)) (Tree.ask ((ownOf p s l tabs holes).y.n ≤
    (ownOf p s l tabs holes).y.n) (Tree.ask (RowsEq (1 : Nat) (ownOf p s l tabs holes).y.n (fun i => RowT.enc ((ownOf p s l tabs holes).y.get i)) fun i => RowT.enc ((ownOf p s l tabs
    holes).y.get i)) (Tree.ask ((ownOf p s l tabs holes).u.n ≤ (ownOf p s l tabs holes).u.n) (Tree.ask (RowsEq (1 : Nat) (ownOf p s l tabs holes).u.n (fun i => RowT.enc ((ownOf p s l
    tabs holes).u.get i)) fun i => RowT.enc ((ownOf p s l tabs holes).u.get i)) (Tree.ask ((ownOf p s l tabs holes).v.n ≤ (ownOf p s l tabs holes).v.n) (Tree.ask (RowsEq (1 : Nat)
    (ownOf p s l tabs holes).v.n (fun i => RowT.enc ((ownOf p s l tabs holes).v.get i)) fun i => RowT.enc ((ownOf p s l tabs holes).v.get i)) (Tree.ask ((ownOf p s l tabs holes).l.n ≤
    (ownOf p s l tabs holes).l.n) (Tree.ask (RowsEq (7 : Nat) (ownOf p s l tabs holes).l.n (fun i => RowT.enc ((ownOf p s l tabs holes).l.get i)) fun i => RowT.enc ((ownOf p s l tabs
    holes).l.get i)) (Tree.ask ((ownOf p s l tabs holes).tabs.n ≤ (ownOf p s l tabs holes).tabs.n) (Tree.ask (RowsEq (7 : Nat) (ownOf p s l tabs holes).tabs.n (fun i => RowT.enc ((ownOf
    p s l tabs holes).tabs.get i)) fun i => RowT.enc ((ownOf p s l tabs holes).tabs.get i)) (Tree.ask ((ownOf p s l tabs holes).holes.n ≤ (ownOf p s l tabs holes).holes.n) (Tree.ask
    (RowsEq (7 : Nat) (ownOf p s l tabs holes).holes.n (fun i => RowT.enc ((ownOf p s l tabs holes).holes.get i)) fun i => RowT.enc ((ownOf p s l tabs holes).holes.get i)) (Tree.asm
    (True) (Tree.all (fun (g6 : Nat → Value) => Tree.br ((ownOf p s l tabs holes).e == (ownOf p s l tabs holes).e) (Tree.br ((ownOf p s l tabs holes).f == (ownOf p s l tabs holes).f)
    (Tree.need (decide ((ownOf p s l tabs holes).x.n ≤ (ownOf p s l tabs holes).x.n) && (decide ((ownOf p s l tabs holes).x.n ≤ (ownOf p s l tabs holes).x.n) && true) && decide ((ownOf
    p s l tabs holes).x.n ≤ (1000 : Nat) ∧ (ownOf p s l tabs holes).x.n ≤ (1000 : Nat))) (Tree.br (sameI (ownOf p s l tabs holes).x (ownOf p s l tabs holes).x) (Tree.need (decide
    ((ownOf p s l tabs holes).y.n ≤ (ownOf p s l tabs holes).y.n) && (decide ((ownOf p s l tabs holes).y.n ≤ (ownOf p s l tabs holes).y.n) && true) && decide ((ownOf p s l tabs
    holes).y.n ≤ (1000 : Nat) ∧ (ownOf p s l tabs holes).y.n ≤ (1000 : Nat))) (Tree.br (sameI (ownOf p s l tabs holes).y (ownOf p s l tabs holes).y) (Tree.need (decide ((ownOf p s l
    tabs holes).u.n ≤ (ownOf p s l tabs holes).u.n) && (decide ((ownOf p s l tabs holes).u.n ≤ (ownOf p s l tabs holes).u.n) && true) && decide ((ownOf p s l tabs holes).u.n ≤ (1000 :
    Nat) ∧ (ownOf p s l tabs holes).u.n ≤ (1000 : Nat))) (Tree.br (sameI (ownOf p s l tabs holes).u (ownOf p s l tabs holes).u) (Tree.need (decide ((ownOf p s l tabs holes).v.n ≤ (ownOf
    p s l tabs holes).v.n) && (decide ((ownOf p s l tabs holes).v.n ≤ (ownOf p s l tabs holes).v.n) && true) && decide ((ownOf p s l tabs holes).v.n ≤ (1000 : Nat) ∧ (ownOf p s l tabs
    holes).v.n ≤ (1000 : Nat))) (Tree.br (sameI (ownOf p s l tabs holes).v (ownOf p s l tabs holes).v) (Tree.leaf (AV.bool true true) ([])) (Tree.leaf (AV.bool true false) ([]))))
    (Tree.leaf (AV.bool true false) ([])))) (Tree.leaf (AV.bool true false) ([])))) (Tree.leaf (AV.bool true false) ([])))) (Tree.leaf (AV.bool true false) ([]))) (Tree.leaf (AV.bool
    true false)
    ([]))))))))))))))))))))))))))))))))))))))))))))))))))))))))))))))))))))))))))))))))))))))))))))))))))))))))))))))))))))))))))))))))))))))))))))))))))))))))))))))))))))))))))))))))))))))))))))))))))))))))))))))))))))))))))))))))))))))))))))))))))))))))))))))))))))))))))))))))))))))))))))))))))))))))))))))))))))))))))))))))))))))))))))))))))))))))))))))))))))))))))))))))))))))))))))))))))))))))))))))))))))))))))))))))))))))))))))))))))))))))))))))))))))))))))))))))))))))))))))))))))))))))))))))))))))))))))))))))))))))))))))))))))))))))))))))))))))))))))))))))))))))))))))))))))))))))))))))))))))))))))))))))))))))))))))))))))))))))))))))))) := by kernel_rfl
theorem fow_hs : WHnd (mkE Try.prog tab_own) (bodyOf Try.f14) 8 fowF (fun x_ => (owH Try.prog (ownOf x_.1 x_.2.1 x_.2.2.1 x_.2.2.2.1 x_.2.2.2.2.1) (bodyK Try.f14 0))) := by
  refine ⟨?_⟩
  rintro ⟨p, ⟨s, ⟨l, ⟨tabs, ⟨holes, ⟨⟩⟩⟩⟩⟩⟩ hp G h1 h2
  exact ow_hnd (ownOf p s l tabs holes) G h1 h2
theorem fow_run : WRun (mkE Try.prog tab_own) Try.f14 8 fowF (fun x_ => (owH Try.prog (ownOf x_.1 x_.2.1 x_.2.2.1 x_.2.2.2.1 x_.2.2.2.2.1) (bodyK Try.f14 0))) := by
  refine ⟨?_⟩
  rintro ⟨p, ⟨s, ⟨l, ⟨tabs, ⟨holes, ⟨⟩⟩⟩⟩⟩⟩ hp
  refine ⟨⟨rfl, by simp [fowF], rfl⟩, ⟨?_⟩⟩
  rw [fow_t p s l tabs holes]
  simp only [fowF] at hp
  have yes : (Tree.leaf (AV.bool true true) []).den (EndOk 8 (fowF (p, s, l, tabs, holes, ())).2.1 (fowF (p, s, l, tabs, holes, ())).2.2) := endOk_same rfl rfl
  refine den_br (fun _ => yes) (fun a1 => den_br (fun _ => yes) (fun a2 => den_br (fun _ => yes) (fun a3 => ?_)))
  have hl : (ownOf p s l tabs holes).l.n ≤ 50 := by have := of_decide_eq_false a1; show l.n ≤ 50; omega
  have ht : (ownOf p s l tabs holes).tabs.n ≤ 6 := by have := of_decide_eq_false a2; show tabs.n ≤ 6; omega
  have hh : (ownOf p s l tabs holes).holes.n ≤ 6 := by have := of_decide_eq_false a3; show holes.n ≤ 6; omega
  have hl0 : l.n ≤ 50 := hl
  have ht0 : tabs.n ≤ 6 := ht
  have hh0 : holes.n ≤ 6 := hh
  have hx : (ownOf p s l tabs holes).x.n ≤ 50 := Nat.le_trans (matL_le p s 2 l) hl
  have hy : (ownOf p s l tabs holes).y.n ≤ 50 := Nat.le_trans (matL_le p s 1 l) hl
  have hx0 : (matL p s 2 l).length ≤ 50 := hx
  have hu : (ownOf p s l tabs holes).u.n ≤ 8 := (pairsV_le p tabs holes).1
  have hv : (ownOf p s l tabs holes).v.n ≤ 8 := (pairsV_le p tabs holes).2
  have rx : (ownR (ownOf p s l tabs holes) 0).n ≤ 1000 := Nat.le_trans hx (by decide)
  have ry : (ownR (ownOf p s l tabs holes) 1).n ≤ 1000 := Nat.le_trans hy (by decide)
  have ru : (ownR (ownOf p s l tabs holes) 2).n ≤ 1000 := Nat.le_trans hu (by decide)
  have rv : (ownR (ownOf p s l tabs holes) 3).n ≤ 1000 := Nat.le_trans hv (by decide)
  have sm : ∀ R : Rw Int, sameI R R = true := fun R => sameI_of rfl (fun _ _ => rfl)
  repeat' first
    | refine den_ask (show _ = _ from Nat.zero_add _) ?_
    | refine den_ask (show _ = _ by rfl) ?_
    | refine den_ask rx ?_
    | refine den_ask ry ?_
    | refine den_ask ru ?_
    | refine den_ask rv ?_
    | refine den_ask (show _ ≤ 1000 by omega) ?_
    | refine den_ask (show _ ≤ _ from Nat.le_refl _) ?_
    | refine den_ask (show _ ≤ _ from Nat.le_of_eq (Nat.zero_add _).symm) ?_
    | refine den_ask (show RowsEq _ _ _ _ from RowsEq.refl _ _ _) ?_
    | refine den_ask (show RowsEq _ _ _ _ from join0 _ _ _ _) ?_
    | refine den_ask (show RowsEq _ _ _ _ from fill_0 _ _) ?_
    | refine den_asm fun _ => den_all fun g => ?_
    | refine den_need (by simp only [Bool.true_and, Bool.and_true, Bool.and_eq_true, decide_eq_true_eq]; repeat' first | exact Nat.le_refl _ | omega | refine And.intro ?_ ?_) ?_
    | refine den_br (fun _ => ?_) (fun h => by first | (rw [sm] at h; cases h) | (simp at h))
    | exact yes
theorem fow_s : FSound Try.prog 14 fowC :=
  fn_W (mkE_ok tab_own_ok) Try.func14 (by kernel_rfl) (by kernel_rfl) (by decide) fow_hs fow_run
def tab_fow : Tab := addF tab_own 14 fowC
theorem tab_fow_ok : TabOk tab_fow := tab_own_ok.add fow_s
end Go.Proofs.Ytdaanchagjamfaa
