/- The recursion of fit.pairings: what it computes, and its rounds. -/
import Derived.Test.YtdaanchagjamfaaNpz
namespace Go.Proofs.Ytdaanchagjamfaa
open Go.SX
inductive PRes where
  | go (many : Int) (f : Rw Int)
  | stop (f g : Rw Int)
def loopP (skip : Nat → Bool) (rec : Nat → Int → Rw Int → PRes) : Nat → Nat → Int → Rw Int → PRes
  | 0, _, m, f => .go m f
  | c + 1, k, m, f => match skip k with
    | true => loopP skip rec c (k + 1) m f
    | false => match rec k m f with
      | .stop f g => .stop f g
      | .go m f => loopP skip rec c (k + 1) m f
def yieldP (w : Rw Int) (m : Int) (f : Rw Int) : PRes := match decide (m = 1) with
  | true => .stop f w
  | false => .go (m + 1) w
def skipP (p : Play) (tabs holes : Rw Edge) (i : Nat) (has : Int → Bool) (k : Nat) : Bool := has k || (fitsF p (tabs.get i) (holes.get k) == 0)
def onP (p : Play) (tabs holes : Rw Edge) : Nat → Rw Int → (Int → Bool) → Int → Rw Int → PRes
  | 0, w, _, m, f => yieldP w m f
  | d + 1, w, has, m, f => loopP (skipP p tabs holes w.n has) (fun k m f => onP p tabs holes d (snocW w k) (hasF k true has) m f) holes.n 0 m f
def resP (p : Play) (tabs holes : Rw Edge) (ac body : Code) (w : Rw Int) (has : Int → Bool) (m : Int) (f : Rw Int) : PRes → UC
  | .go m' f' => onU p tabs holes ac body w has m f m' f'
  | .stop f' g => onS p tabs holes ac body w has m f f' g
def PRes.ok : PRes → Prop
  | .go m _ => m = 0 ∨ m = 1
  | .stop _ _ => True
theorem loopP_ok {skip : Nat → Bool} {rec : Nat → Int → Rw Int → PRes} (h : ∀ k m f, m = 0 ∨ m = 1 → (rec k m f).ok) : ∀ (c k : Nat) (m : Int) (f : Rw Int), m = 0 ∨ m = 1 → (loopP skip rec c k m f).ok
  | 0, _, _, _, hm => hm
  | c + 1, k, m, f, hm => by
    simp only [loopP]
    have := h k m f hm
    cases skip k with
    | true => exact loopP_ok h c (k + 1) m f hm
    | false =>
      generalize rec k m f = r at this ⊢
      cases r with
      | stop f g => trivial
      | go m f => exact loopP_ok h c (k + 1) m f this
theorem onP_ok (p : Play) (tabs holes : Rw Edge) : ∀ (d : Nat) (w : Rw Int) (has : Int → Bool) (m : Int) (f : Rw Int), m = 0 ∨ m = 1 → (onP p tabs holes d w has m f).ok
  | 0, w, _, m, f, hm => by
    simp only [onP, yieldP]
    rcases hm with rfl | rfl
    · exact .inr rfl
    · trivial
  | d + 1, w, has, m, f, hm => loopP_ok (fun k m f hm => onP_ok p tabs holes d (snocW w k) (hasF k true has) m f hm) _ _ m f hm

structure PreP (p : Play) (tabs holes : Rw Edge) : Prop where
  play : p.ok = true
  okT : allN (fun i => (tabs.get i).ok) tabs.n = true
  okH : allN (fun i => (holes.get i).ok) holes.n = true
  pos : 0 < tabs.n
  t8 : tabs.n ≤ 8
  h8 : holes.n ≤ 8
theorem mapEq_refl (h : Int → Bool) : MapEq (.bool true false) (.bool true false) h h (fun i => .bool false (h i)) (fun i => .bool false (h i)) := ⟨fun _ => rfl, rfl, fun _ => rfl, fun _ => ⟨fun _ => rfl, rfl⟩⟩
theorem mapEq_in (k : Int) (h : Int → Bool) : MapEq (.bool true false) (.bool true false) (hasF k true h) (hasF k true h) (putF k (.bool true true) fun i => .bool false (h i)) (fun i => .bool false (hasF k true h i)) := by
  refine ⟨fun _ => rfl, rfl, fun _ => rfl, fun n => ⟨fun r => ?_, rfl⟩⟩
  simp only [putF, hasF]
  cases decide (n = k) <;> rfl
theorem mapEq_out {k : Int} {h : Int → Bool} (hk : h k = false) : MapEq (.bool true false) (.bool true false) (hasF k false (hasF k true h)) h (putF k (.bool true false) fun i => .bool false (hasF k true h i)) (fun i => .bool false (h i)) := by
  refine ⟨fun _ => rfl, rfl, fun n => ?_, fun n => ⟨fun r => ?_, rfl⟩⟩
  · simp only [hasF]
    by_cases e : n = k
    · subst e; simp [hk]
    · simp [e]
  · simp only [putF, hasF]
    by_cases e : n = k
    · subst e; simp [hk, AV.den]
    · simp [e]
theorem snoc_rows (w : Rw Int) (k : Int) : RowsEq 1 (snocW w k).n (joinG w.n (fun i => RowT.enc (w.get i)) (rowI [[.int false .i64 k]] 0)) (fun i => RowT.enc ((snocW w k).get i)) := by
  intro i hi
  have hi : i < w.n + 1 := hi
  refine ⟨?_, trivial⟩
  rw [joinG_get]
  by_cases h : i < w.n
  · rw [if_pos h]
    have : Nat.blt i w.n = true := by rw [Nat.blt_eq]; exact h
    simp only [snocW, this]
  · rw [if_neg h]
    have : Nat.blt i w.n = false := by
      rcases hb : Nat.blt i w.n with _ | _
      · rfl
      · rw [Nat.blt_eq] at hb; exact absurd hb h
    simp only [snocW, this]; rfl
theorem pop_rows (w : Rw Int) (k : Int) : RowsEq 1 w.n (fun i => RowT.enc ((snocW w k).get i)) (fun i => RowT.enc (w.get i)) := by
  intro i hi
  refine ⟨?_, trivial⟩
  have : Nat.blt i w.n = true := by rw [Nat.blt_eq]; exact hi
  simp only [snocW, this]
theorem pop_len {w : Rw Int} (h : w.n ≤ 8) (k : Int) : (IntKind.i64.wrap ((((snocW w k).n : Nat) : Int) - 1)).toNat = w.n := by
  have : (((snocW w k).n : Nat) : Int) = w.n + 1 := by simp [snocW]
  rw [this, w64 (by omega) (by omega)]; omega
end Go.Proofs.Ytdaanchagjamfaa
/- The recursion of fit.pairings: each round, and the loop. -/
namespace Go.Proofs.Ytdaanchagjamfaa
open Go.SX
abbrev OnSt (holes : Rw Edge) := { s : Nat × Int × Rw Int // s.1 ≤ holes.n ∧ (s.2.1 = 0 ∨ s.2.1 = 1) }
def recP (p : Play) (tabs holes : Rw Edge) (d : Nat) (w : Rw Int) (has : Int → Bool) (k : Nat) (m : Int) (f : Rw Int) : PRes := onP p tabs holes d (snocW w k) (hasF k true has) m f
def loopV (p : Play) (tabs holes : Rw Edge) (d : Nat) (w : Rw Int) (has : Int → Bool) (k : Nat) (m : Int) (f : Rw Int) : PRes := loopP (skipP p tabs holes w.n has) (recP p tabs holes d w has) (holes.n - k) k m f
def onRel (p : Play) (tabs holes : Rw Edge) (ac body : Code) (d : Nat) (w : Rw Int) (has : Int → Bool) (s : OnSt holes) (e : Ex) (J : JSt) : Prop := match loopV p tabs holes d w has s.1.1 s.1.2.1 s.1.2.2 with
  | .go m f => e = .exit 0 ∧ J = onE p tabs holes ac body w has m f
  | .stop f g => e = .ret ∧ J = onT p tabs holes ac body w has f g
noncomputable def onTab (p : Play) (tabs holes : Rw Edge) (ac body : Code) (d : Nat) (w : Rw Int) (has : Int → Bool) (k : Nat) (m : Int) (f : Rw Int) : Tab := tab_on propB (resP p tabs holes ac body (snocW w k) (hasF k true has) m f (recP p tabs holes d w has k m f))
noncomputable def onEnv (P : Program) (p : Play) (tabs holes : Rw Edge) (ac body : Code) (d : Nat) (w : Rw Int) (has : Int → Bool) (s : OnSt holes) : Env := mkE P (onTab p tabs holes ac body d w has s.1.1 s.1.2.1 s.1.2.2)
theorem loopV_skip {p : Play} {tabs holes : Rw Edge} {d : Nat} {w : Rw Int} {has : Int → Bool} {k : Nat} {m : Int} {f : Rw Int} (hk : k < holes.n) (hs : skipP p tabs holes w.n has k = true) : loopV p tabs holes d w has k m f = loopV p tabs holes d w has (k + 1) m f := by
  unfold loopV
  rw [show holes.n - k = (holes.n - (k + 1)) + 1 by omega, loopP, hs]
theorem loopV_go {p : Play} {tabs holes : Rw Edge} {d : Nat} {w : Rw Int} {has : Int → Bool} {k : Nat} {m : Int} {f : Rw Int} {m' : Int} {f' : Rw Int} (hk : k < holes.n) (hs : skipP p tabs holes w.n has k = false) (hr : recP p tabs holes d w has k m f = .go m' f') : loopV p tabs holes d w has k m f = loopV p tabs holes d w has (k + 1) m' f' := by
  unfold loopV
  rw [show holes.n - k = (holes.n - (k + 1)) + 1 by omega, loopP, hs, hr]
theorem loopV_stop {p : Play} {tabs holes : Rw Edge} {d : Nat} {w : Rw Int} {has : Int → Bool} {k : Nat} {m : Int} {f : Rw Int} {f' g : Rw Int} (hk : k < holes.n) (hs : skipP p tabs holes w.n has k = false) (hr : recP p tabs holes d w has k m f = .stop f' g) : loopV p tabs holes d w has k m f = .stop f' g := by
  unfold loopV
  rw [show holes.n - k = (holes.n - (k + 1)) + 1 by omega, loopP, hs, hr]
theorem loopV_end {p : Play} {tabs holes : Rw Edge} {d : Nat} {w : Rw Int} {has : Int → Bool} {k : Nat} {m : Int} {f : Rw Int} (hk : holes.n ≤ k) : loopV p tabs holes d w has k m f = .go m f := by
  unfold loopV
  rw [show holes.n - k = 0 by omega, loopP]
theorem snoc_n (w : Rw Int) (k : Int) : w.n + 1 = (snocW w k).n := rfl
theorem snoc_le (w : Rw Int) (k : Int) : (snocW w k).n ≤ w.n + 1 := Nat.le_refl _
theorem onRel_go {p : Play} {tabs holes : Rw Edge} {ac body : Code} {d : Nat} {w : Rw Int} {has : Int → Bool} {s : OnSt holes} {m : Int} {f : Rw Int} (h : loopV p tabs holes d w has s.1.1 s.1.2.1 s.1.2.2 = .go m f) : onRel p tabs holes ac body d w has s (.exit 0) (onE p tabs holes ac body w has m f) := by
  unfold onRel
  rw [h]
  exact ⟨rfl, rfl⟩
theorem onRel_stop {p : Play} {tabs holes : Rw Edge} {ac body : Code} {d : Nat} {w : Rw Int} {has : Int → Bool} {s : OnSt holes} {f g : Rw Int} (h : loopV p tabs holes d w has s.1.1 s.1.2.1 s.1.2.2 = .stop f g) : onRel p tabs holes ac body d w has s .ret (onT p tabs holes ac body w has f g) := by
  unfold onRel
  rw [h]
  exact ⟨rfl, rfl⟩
theorem on_round (p : Play) (tabs holes : Rw Edge) (ac body : Code) (d : Nat) (w : Rw Int) (has : Int → Bool) (hP : PreP p tabs holes) (hd : w.n < tabs.n) : RoundE (fun s : OnSt holes => onJ p tabs holes ac body w has s.1.2.1 s.1.2.2 s.1.1) (fun _ => True) (fun s => holes.n - s.1.1) (onRel p tabs holes ac body d w has) 1032 onLs [544, 16, 24, 32, 416, 505, 520] (onEnv Try.prog p tabs holes ac body d w has) (fun s => hnd (onEnv Try.prog p tabs holes ac body d w has s) 0) (bodyK Try.f85 0) := by
  refine ⟨fun s g _ => ?_⟩
  obtain ⟨⟨k, m, f⟩, hk, hm⟩ := s
  simp only at hk hm
  have h8 := hP.h8
  have t8 := hP.t8
  have hw : (IntKind.i64.wrap ((k : Int) + 1)) = ((k + 1 : Nat) : Int) := by rw [w64 (by omega) (by omega)]; omega
  have okk : k < holes.n → okP p (tabs.get w.n) (holes.get k) = true := fun h => by
    simp only [okP, Bool.and_eq_true]
    exact ⟨hP.play, allN_get hP.okT hd, allN_get hP.okH h⟩
  have rel : ∀ {k' : Nat} {m' : Int} {f' : Rw Int} (h1 : k' ≤ holes.n) (h2 : m' = 0 ∨ m' = 1), loopV p tabs holes d w has k m f = loopV p tabs holes d w has k' m' f' → ∀ e J, onRel p tabs holes ac body d w has ⟨(k', m', f'), h1, h2⟩ e J → onRel p tabs holes ac body d w has ⟨(k, m, f), hk, hm⟩ e J := by
    intro k' m' f' h1 h2 he e J h
    unfold onRel at h ⊢
    simp only at h ⊢
    rw [he]; exact h
  unfold onEnv onTab
  simp only
  cases hr : recP p tabs holes d w has k m f with
  | go m' f' =>
    have hm' : m' = 0 ∨ m' = 1 := by
      have := onP_ok p tabs holes d (snocW w k) (hasF k true has) m f hm
      unfold recP at hr
      rw [hr] at this; exact this
    refine ⟨den_of (on_rg propB p tabs holes ac body w has m f k m' f' g) ?_⟩
    refine den_br (fun h => ?_) (fun h => ?_)
    · have h : k < holes.n := by have := of_decide_eq_true h; omega
      refine den_need (by simp; omega) (den_need (by simp; omega) (den_br (fun hh => ?_) (fun hh => den_need (by simp; omega) (den_need (by simp; omega) (den_need (okk h) (den_br (fun hf => ?_) (fun hf => ?_)))))))
      · refine ⟨⟨(k + 1, m, f), h, hm⟩, trivial, by show holes.n - (k + 1) < holes.n - k; omega, rel h hm (loopV_skip h (by simp only [skipP, hh]; rfl)), rfl, rfl, _, on_g0 p tabs holes ac body w has m f k (k + 1), ?_⟩
        repeat' first | exact trivial | with_reducible rfl | exact Nat.le_refl _ | exact RowsEq.refl _ _ _ | exact mapEq_refl _ | exact hw | refine And.intro ?_ ?_
      · refine ⟨⟨(k + 1, m, f), h, hm⟩, trivial, by show holes.n - (k + 1) < holes.n - k; omega, rel h hm (loopV_skip h (by simp only [skipP, hf, Bool.or_true])), rfl, rfl, _, on_g0 p tabs holes ac body w has m f k (k + 1), ?_⟩
        repeat' first | exact trivial | with_reducible rfl | exact Nat.le_refl _ | exact RowsEq.refl _ _ _ | exact mapEq_refl _ | exact hw | refine And.intro ?_ ?_
      · have hpop := pop_len (w := w) (by omega) k
        refine den_need (by simp; omega) (den_need (propB_ok.2 ?_) (den_need ?_ (den_br (fun hc => by cases hc) (fun _ => ?_))))
        · repeat' first | exact trivial | with_reducible rfl | exact Nat.le_refl _ | exact RowsEq.refl _ _ _ | exact mapEq_in _ _ | exact snoc_rows _ _ | exact snoc_n _ _ | exact snoc_le _ _ | refine And.intro ?_ ?_
        · rw [hpop]
          have : (((snocW w k).n : Nat) : Int) = w.n + 1 := by simp [snocW]
          rw [this, w64 (by omega) (by omega)]
          have : (snocW w k).n = w.n + 1 := rfl
          simp; omega
        · refine ⟨⟨(k + 1, m', f'), h, hm'⟩, trivial, by show holes.n - (k + 1) < holes.n - k; omega, rel h hm' (loopV_go h (by simp only [skipP, hh, hf]; rfl) hr), rfl, rfl, _, on_g3 p tabs holes ac body w has m' f' k (k + 1), ?_⟩
          repeat' first | exact trivial | with_reducible rfl | exact Nat.le_refl _ | exact RowsEq.refl _ _ _ | exact mapEq_out hh | exact hw | exact hpop | exact pop_rows _ _ | exact Nat.le_succ _ | refine And.intro ?_ ?_
    · have h : holes.n ≤ k := by have := of_decide_eq_false h; omega
      refine ⟨_, onRel_go (loopV_end h), rfl, rfl, _, on_g4 p tabs holes ac body w has m f, ?_⟩
      · repeat' first | exact trivial | with_reducible rfl | exact Nat.le_refl _ | exact RowsEq.refl _ _ _ | exact mapEq_refl _ | refine And.intro ?_ ?_
  | stop f' s' =>
    refine ⟨den_of (on_rs propB p tabs holes ac body w has m f k f' s' g) ?_⟩
    refine den_br (fun h => ?_) (fun h => ?_)
    · have h : k < holes.n := by have := of_decide_eq_true h; omega
      refine den_need (by simp; omega) (den_need (by simp; omega) (den_br (fun hh => ?_) (fun hh => den_need (by simp; omega) (den_need (by simp; omega) (den_need (okk h) (den_br (fun hf => ?_) (fun hf => ?_)))))))
      · refine ⟨⟨(k + 1, m, f), h, hm⟩, trivial, by show holes.n - (k + 1) < holes.n - k; omega, rel h hm (loopV_skip h (by simp only [skipP, hh]; rfl)), rfl, rfl, _, on_g0 p tabs holes ac body w has m f k (k + 1), ?_⟩
        repeat' first | exact trivial | with_reducible rfl | exact Nat.le_refl _ | exact RowsEq.refl _ _ _ | exact mapEq_refl _ | exact hw | refine And.intro ?_ ?_
      · refine ⟨⟨(k + 1, m, f), h, hm⟩, trivial, by show holes.n - (k + 1) < holes.n - k; omega, rel h hm (loopV_skip h (by simp only [skipP, hf, Bool.or_true])), rfl, rfl, _, on_g0 p tabs holes ac body w has m f k (k + 1), ?_⟩
        repeat' first | exact trivial | with_reducible rfl | exact Nat.le_refl _ | exact RowsEq.refl _ _ _ | exact mapEq_refl _ | exact hw | refine And.intro ?_ ?_
      · have hpop := pop_len (w := w) (by omega) k
        refine den_need (by simp; omega) (den_need (propB_ok.2 ?_) (den_need ?_ (den_br (fun _ => ?_) (fun hc => by cases hc))))
        · repeat' first | exact trivial | with_reducible rfl | exact Nat.le_refl _ | exact RowsEq.refl _ _ _ | exact mapEq_in _ _ | exact snoc_rows _ _ | exact snoc_n _ _ | exact snoc_le _ _ | refine And.intro ?_ ?_
        · rw [hpop]
          have : (((snocW w k).n : Nat) : Int) = w.n + 1 := by simp [snocW]
          rw [this, w64 (by omega) (by omega)]
          have : (snocW w k).n = w.n + 1 := rfl
          simp; omega
        · refine ⟨_, onRel_stop (loopV_stop h (by simp only [skipP, hh, hf]; rfl) hr), rfl, rfl, _, on_s2 p tabs holes ac body w has f' s' k, ?_⟩
          · repeat' first | exact trivial | with_reducible rfl | exact Nat.le_refl _ | exact RowsEq.refl _ _ _ | exact mapEq_out hh | exact hpop | exact pop_rows _ _ | exact Nat.le_succ _ | refine And.intro ?_ ?_
    · have h : holes.n ≤ k := by have := of_decide_eq_false h; omega
      refine ⟨_, onRel_go (loopV_end h), rfl, rfl, _, on_g4 p tabs holes ac body w has m f, ?_⟩
      · repeat' first | exact trivial | with_reducible rfl | exact Nat.le_refl _ | exact RowsEq.refl _ _ _ | exact mapEq_refl _ | refine And.intro ?_ ?_
end Go.Proofs.Ytdaanchagjamfaa
