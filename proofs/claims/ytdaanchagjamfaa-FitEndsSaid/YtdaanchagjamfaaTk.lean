/- sort.Search, as Last calls it: the contract. -/
import Derived.Test.YtdaanchagjamfaaTj
namespace Go.Proofs.Ytdaanchagjamfaa
open Go.SX

theorem dec_couple {l : List AV} {x : Couple} (q : Nat → Nat) (h : Enc.dec (AV.agg l) = some x) : AV.sameRL q l (Enc.enc x).cells := by
  simp only [Enc.dec] at h
  split at h <;> (try (cases h; done))
  rename_i he
  simp only [Option.some.injEq] at h; subst h
  simp only [AV.agg.injEq] at he; subst he
  simp [Enc.enc, AV.cells, AV.sameRL, AV.sameR]
theorem dec_sp {l : List AV} {x : Sp} (q : Nat → Nat) (h : Enc.dec (AV.agg l) = some x) : AV.sameRL q l (Enc.enc x).cells := by
  simp only [Enc.dec] at h
  split at h <;> (try (cases h; done))
  rename_i he
  simp only [Option.some.injEq] at h; subst h
  simp only [AV.agg.injEq] at he; subst he
  simp [Enc.enc, AV.cells, AV.sameRL, AV.sameR]
theorem dec_play {l : List AV} {x : Play} (q : Nat → Nat) (h : Enc.dec (AV.agg l) = some x) : AV.sameRL q l (Enc.enc x).cells := by
  simp only [Enc.dec] at h
  split at h <;> (try (cases h; done))
  rename_i he
  simp only [Option.some.injEq] at h; subst h
  simp only [AV.agg.injEq] at he; subst he
  simp [Enc.enc, AV.cells, AV.sameRL, AV.sameR]

theorem vw {q : Nat → Nat} {h : List (Nat × Blk)} {i k z t : Nat} {l l' : List AV} (e : q i = k) (hl : Go.SX.look h k = some (.cellsR z t l)) (hs : AV.sameRL q l l') : ∃ b', Go.SX.look h (q i) = some b' ∧ b'.viewR q (.cellsR z t l') := ⟨.cellsR z t l, by rw [e]; exact hl, rfl, rfl, hs⟩
theorem vh {q : Nat → Nat} {h : List (Nat × Blk)} {i k z t : Nat} {l l' : List AV} (e : q i = k) (hl : Go.SX.look h k = some (.cellsR z t l)) (hs : AV.sameRL q l l') : ∃ b', Go.SX.look h (q i) = some b' ∧ b'.sameR q (.cellsR z t l') := ⟨.cellsR z t l, by rw [e]; exact hl, rfl, rfl, hs⟩

def seaCap (g : Nat) (cap : List AV) : Option (Bool × Nat × Option Nat) := match g == 61, g == 63, cap with
  | true, _, [.ptr ia 0 0] => some (false, ia, none)
  | false, true, [.ptr ia 0 0, .ptr ip 0 0] => some (true, ia, some ip)
  | _, _, _ => none
def seaDec3 (h : List (Nat × Blk)) (ix iw ip : Nat) : Option (Couple × Sp × Play) := match Go.SX.look h ix, Go.SX.look h iw, Go.SX.look h ip with
  | some (.cellsR 0 tx lx), some (.cellsR 0 tw lw), some (.cellsR 0 tp lp) => match tx == 86 && (tw == 23 && tp == 25), Enc.dec (AV.agg lx), Enc.dec (AV.agg lw), Enc.dec (AV.agg lp) with
    | true, some x, some w, some p => some (x, w, p)
    | _, _, _, _ => none
  | _, _, _ => none
def seaDec2 (h : List (Nat × Blk)) (ia : Nat) : Option (Nat × Nat × Nat) := match Go.SX.look h ia with
  | some (.cellsR 0 t [.fn (.func g) [.ptr ix 0 0, .ptr iw 0 0, .ptr ip 0 0]]) => match t == 100 && g == 59 with
    | true => some (ix, iw, ip)
    | false => none
  | _ => none
def seaDec1 (h : List (Nat × Blk)) (ih i0 : Nat) : Option (Bool × Nat × Option Nat) := match Go.SX.look h i0, Go.SX.look h ih with
  | some (.cellsR 0 t0 [.int _ .i64 z]), some (.cellsR 0 t1 [.fn (.func g) cap]) => match decide (z = 0) && (t0 == 3 && t1 == 73) with
    | true => seaCap g cap
    | false => none
  | _, _ => none
def seaDec (h : List (Nat × Blk)) (ih i0 : Nat) : Option (Bool × Nat × (Nat × Nat × Nat) × Couple × Sp × Play) := match seaDec1 h ih i0 with
  | some (w2, ia, ip2) => match seaDec2 h ia with
    | some (ix, iw, ip) => match ip2 == none || ip2 == some ip, seaDec3 h ix iw ip with
      | true, some (x, w, p) => some (w2, ia, (ix, iw, ip), x, w, p)
      | _, _ => none
    | none => none
  | none => none
theorem seaDec_spec {h : List (Nat × Blk)} {ih i0 ia ix iw ip : Nat} {w2 : Bool} {x : Couple} {w : Sp} {p : Play} (e : seaDec h ih i0 = some (w2, ia, (ix, iw, ip), x, w, p)) {q : Nat → Nat} (q0 : q 0 = i0) (q1 : q 1 = ih) (q2 : q 2 = ia) (q3 : q 3 = ix) (q4 : q 4 = iw) (q5 : q 5 = ip) :
    subW q h (seaB w2 x w p) ∧ subH q h (seaB w2 x w p) := by
  unfold seaDec at e
  split at e <;> (try (cases e; done))
  rename_i w2' ia' ip2 e1
  split at e <;> (try (cases e; done))
  rename_i ix' iw' ip' e2
  split at e <;> (try (cases e; done))
  rename_i x' w' p' hip e3
  simp only [Option.some.injEq, Prod.mk.injEq] at e
  obtain ⟨rfl, rfl, ⟨rfl, rfl, rfl⟩, rfl, rfl, rfl⟩ := e
  unfold seaDec1 at e1
  split at e1 <;> (try (cases e1; done))
  rename_i t0 k0 z t1 g cap l0 l1
  split at e1 <;> (try (cases e1; done))
  rename_i c1
  simp only [Bool.and_eq_true, decide_eq_true_eq, beq_iff_eq] at c1
  obtain ⟨rfl, rfl, rfl⟩ := c1
  unfold seaDec2 at e2
  split at e2 <;> (try (cases e2; done))
  rename_i t2 g2 ix'' iw'' ip'' l2
  split at e2 <;> (try (cases e2; done))
  rename_i c2
  simp only [Bool.and_eq_true, beq_iff_eq] at c2
  obtain ⟨rfl, rfl⟩ := c2
  simp only [Option.some.injEq, Prod.mk.injEq] at e2
  obtain ⟨rfl, rfl, rfl⟩ := e2
  unfold seaDec3 at e3
  split at e3 <;> (try (cases e3; done))
  rename_i tx lx tw lw tp lp l3 l4 l5
  split at e3 <;> (try (cases e3; done))
  rename_i x'' w'' p'' c3 d1 d2 d3
  simp only [Bool.and_eq_true, beq_iff_eq] at c3
  obtain ⟨rfl, rfl, rfl⟩ := c3
  simp only [Option.some.injEq, Prod.mk.injEq] at e3
  obtain ⟨rfl, rfl, rfl⟩ := e3
  have hcap : AV.sameRL q [.fn (.func g) cap] [match (generalizing := false) w2' with | false => AV.fn (.func 61) [.ptr 2 0 0] | true => .fn (.func 63) [.ptr 2 0 0, .ptr 5 0 0]] := by
    unfold seaCap at e1
    split at e1 <;> (try (cases e1; done))
    · have : g = 61 := by simpa using ‹(g == 61) = true›
      simp only [Option.some.injEq, Prod.mk.injEq] at e1
      obtain ⟨rfl, rfl, rfl⟩ := e1
      subst this
      exact ⟨⟨rfl, ⟨q2.symm, rfl, rfl⟩, trivial⟩, trivial⟩
    · have : g = 63 := by simpa using ‹(g == 63) = true›
      simp only [Option.some.injEq, Prod.mk.injEq] at e1
      obtain ⟨rfl, rfl, rfl⟩ := e1
      subst this
      simp only [Option.some_beq_none, Bool.false_or, beq_iff_eq, Option.some.injEq] at hip
      exact ⟨⟨rfl, ⟨q2.symm, rfl, rfl⟩, ⟨by rw [q5]; exact hip, rfl, rfl⟩, trivial⟩, trivial⟩
  have h2 : AV.sameRL q [.fn (.func 59) [.ptr ix'' 0 0, .ptr iw'' 0 0, .ptr ip'' 0 0]] [.fn (.func 59) [.ptr 3 0 0, .ptr 4 0 0, .ptr 5 0 0]] := ⟨⟨rfl, ⟨q3.symm, rfl, rfl⟩, ⟨q4.symm, rfl, rfl⟩, ⟨q5.symm, rfl, rfl⟩, trivial⟩, trivial⟩
  exact ⟨⟨vw q0 l0 ⟨⟨rfl, rfl⟩, trivial⟩, vw q1 l1 hcap, vw q2 l2 h2, vw q3 l3 (dec_couple q d1), vw q4 l4 (dec_sp q d2), vw q5 l5 (dec_play q d3), trivial⟩,
    vh q0 l0 ⟨⟨rfl, rfl⟩, trivial⟩, vh q1 l1 hcap, vh q2 l2 h2, vh q3 l3 (dec_couple q d1), vh q4 l4 (dec_sp q d2), vh q5 l5 (dec_play q d3), trivial⟩

def seaVal (w2 : Bool) (x : Couple) (w : Sp) (p : Play) : Int := firstN (SeaS.q ⟨w2, x, w, p, 0, 0⟩) 20001 0
def seaH : Code → St → (Ex → St → Tree) → Tree := fun _ st K => match st.tm.length == 26 && noDfr st.hp, getT st.tm 1, getT st.tm 5, getT st.tm 6, seaDec st.hp 1 0 with
  | true, .fn (.func g) [.ptr 1 0 0, .ptr 0 0 0], .int _ .i64 i, .int _ .i64 j, some (w2, 2, (3, 4, 5), x, w, p) => match g == 82 with
    | true => .need (decide ((i = 0 ∧ j = 20001) ∧ SeaB x w p)) (.all fun g => K (.exit 0) (JSt.inst ⟨26, [(5, .int false .i64 (seaVal w2 x w p))], [], 6⟩ g))
    | false => .fail "search"
  | _, _, _, _, _ => .fail "search"
theorem seaH_ok (body : Code) (st : St) (K : Ex → St → Tree) (T : AV → List (Nat × Blk) → Prop) (h : (seaH body st K).den T) : ∃ s q ls', SeaS.pre s ∧ SubV 6 q ls' st.tm.length (ls'.map (getT st.tm)) st.hp (SeaS.I s) ∧ ∀ e J g, seaR s e J → (K e (J.inst g)).den T := by
  unfold seaH at h
  split at h <;> (try (exact h.elim))
  rename_i g k5 i k6 j w2 x w p c1 e1 e5 e6 ed
  split at h <;> (try (exact h.elim))
  rename_i hg
  simp only [Tree.den, decide_eq_true_eq] at h
  obtain ⟨⟨⟨rfl, rfl⟩, hB⟩, hK⟩ := h
  rw [Bool.and_eq_true] at c1
  have hg : g = 82 := by simpa using hg
  subst hg
  refine ⟨⟨w2, x, w, p, 0, 20001⟩, fun i => i, [1, 5, 6], ⟨hB, Int.le_refl _, (by show (0 : Int) ≤ 20001; decide), Int.le_refl _, fun k h1 h2 => absurd h2 (by show ¬ k < 0; omega), fun h => absurd h (by show ¬ (20001 : Int) < 20001; decide)⟩, SubV.same rfl (beq_iff_eq.1 c1.1) ?_ (seaDec_spec ed rfl rfl rfl rfl rfl rfl).2 (seaI_ok _) (seaB_ok _ _ _ _).2 c1.2 (Nat.le_refl _), ?_⟩
  · simp only [List.map_cons, List.map_nil, e1, e5, e6]
    exact ⟨⟨rfl, ⟨rfl, rfl, rfl⟩, ⟨rfl, rfl, rfl⟩, trivial⟩, ⟨rfl, rfl⟩, ⟨rfl, rfl⟩, trivial⟩
  · rintro e J g ⟨rfl, rfl⟩
    exact hK g
set_option maxRecDepth 100000 in
theorem sea_hnd (G : Ctx) (hrd : G.rd = none) (hG : G.n = 6) : HndOk (mkE Try.prog tab_wideBy2) G { hnd (mkE Try.prog tab_wideBy2) 6 with loop := seaH } (bodyOf Try.f81) :=
  ⟨fun b hb => by
    have e : loops (bodyOf Try.f81) = [.loop (bodyK Try.f81 0)] := by kernel_rfl
    rw [e, List.mem_singleton] at hb; subst hb
    exact loop_soundI (n0 := 6) (mkE_ok tab_wideBy2_ok) (by omega) (hnd_hndOk (mkE_ok tab_wideBy2_ok) 6 G _ hrd) (fun _ => Nat.le_refl _) sea_round (fun st K T h => seaH_ok (bodyK Try.f81 0) st K T h),
   (hnd_hndOk (mkE_ok tab_wideBy2_ok) 6 G (bodyOf Try.f81) hrd).call, (hnd_hndOk (mkE_ok tab_wideBy2_ok) 6 G (bodyOf Try.f81) hrd).yield⟩
def seaV : VF := fun args hp => match args with
  | [.int _ .i64 n, .fn (.func g) [.ptr ih 0 0, .ptr i0 0 0]] => match g == 82, seaDec hp ih i0 with
    | true, some (w2, _, _, x, w, p) => some (decide (n = 20001 ∧ SeaB x w p), .int false .i64 (seaVal w2 x w p))
    | _, _ => none
  | _ => none
set_option maxRecDepth 100000 in
theorem sea_f0 (x : Couple) (w : Sp) (p : Play) : execFn (mkE Try.prog tab_wideBy2) { hnd (mkE Try.prog tab_wideBy2) 6 with loop := seaH } false Try.f81 [.int false .i64 20001, seaF] (seaB false x w p) 6 =
    .need (decide (((0 : Int) = 0 ∧ (20001 : Int) = 20001) ∧ SeaB x w p)) (.all fun _ => .leaf (.int false .i64 (seaVal false x w p)) []) := by kernel_rfl
set_option maxRecDepth 100000 in
theorem sea_f1 (x : Couple) (w : Sp) (p : Play) : execFn (mkE Try.prog tab_wideBy2) { hnd (mkE Try.prog tab_wideBy2) 6 with loop := seaH } false Try.f81 [.int false .i64 20001, seaF] (seaB true x w p) 6 =
    .need (decide (((0 : Int) = 0 ∧ (20001 : Int) = 20001) ∧ SeaB x w p)) (.all fun _ => .leaf (.int false .i64 (seaVal true x w p)) []) := by kernel_rfl
theorem seaV_s : FSound Try.prog 81 (viewFC seaV) := by
  refine fn_view (c := bodyOf Try.f81) (n := 6) (mkE_ok tab_wideBy2_ok) (f := 81) Try.func81 (by kernel_rfl) (by kernel_rfl) (fun G h1 h2 => sea_hnd G h1 h2) ?_
  intro args hp v hv
  unfold seaV at hv
  split at hv <;> (try (cases hv; done))
  rename_i k n g ih i0
  split at hv <;> (try (cases hv; done))
  rename_i w2 ia ids x w p hg ed
  obtain ⟨ix, iw, ip⟩ := ids
  have hg : g = 82 := by simpa using hg
  subst hg
  simp only [Option.some.injEq, Prod.mk.injEq, decide_eq_true_eq] at hv
  obtain ⟨⟨rfl, hB⟩, rfl⟩ := hv
  refine ⟨fun i => match i with | 0 => i0 | 1 => ih | 2 => ia | 3 => ix | 4 => iw | _ => ip, [.int false .i64 20001, seaF], seaB w2 x w p, ⟨⟨rfl, rfl⟩, ⟨rfl, ⟨rfl, rfl, rfl⟩, ⟨rfl, rfl, rfl⟩, trivial⟩, trivial⟩, (seaDec_spec ed rfl rfl rfl rfl rfl rfl).1, ?_, ?_⟩
  · cases w2 <;> rfl
  · cases w2 with
    | false => rw [sea_f0]; exact ⟨decide_eq_true ⟨⟨rfl, rfl⟩, hB⟩, fun _ r r' => rfl⟩
    | true => rw [sea_f1]; exact ⟨decide_eq_true ⟨⟨rfl, rfl⟩, hB⟩, fun _ r r' => rfl⟩
def tab_sea : Tab := addF tab_wideBy2 81 (viewFC seaV)
theorem tab_sea_ok : TabOk tab_sea := tab_wideBy2_ok.add seaV_s
end Go.Proofs.Ytdaanchagjamfaa
