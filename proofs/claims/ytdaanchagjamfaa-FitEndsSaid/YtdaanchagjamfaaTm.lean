/- The reference's Last. -/
import Derived.Test.YtdaanchagjamfaaPc
namespace Go.Proofs.Ytdaanchagjamfaa
open Go.SX

theorem worn_okP {p : Play} {a b : Edge} {w : Sp} {n : Int} (hp : p.ok = true) (ha : (WornF a w n).2 = 0) (hb : (WornF b w n).2 = 0) : okP p (WornF a w n).1 (WornF b w n).1 = true := by
  obtain ⟨a1, a2, a3, a4, a5, a6⟩ := worn_ok ha
  obtain ⟨b1, b2, b3, b4, b5, b6⟩ := worn_ok hb
  unfold okP
  rw [a6, b6, hp, worn_side a1 a3 a5, worn_side b1 b3 b5]; rfl
def rlastsF : Play × Edge × Edge × Sp × Int × Unit → Bool × AV := fun | (p, (a, (b, (w, (n, _))))) => (p.ok, .bool false (lastsB p a b w n))
def rlastsC : FC := pureFC (pfOf rlastsF)
set_option maxRecDepth 100000 in
theorem rlasts_t (p : Play) (a : Edge) (b : Edge) (w : Sp) (n : Int) : execFn (mkE Try.prog tab_LastP) (hnd (mkE Try.prog tab_LastP) 0) false Try.f65 (EncL.enc ((p, a, b, w, n, ()) : Play × Edge × Edge × Sp × Int × Unit)) [] 0 =
    Tree.need true (Tree.need true (Tree.br ((WornF a w n).2 == (0 : Int)) (Tree.br ((WornF b w n).2 == (0 : Int)) (Tree.need (okP p (WornF a w n).1 (WornF b w n).1) (Tree.leaf (AV.bool
    false (fitsF p (WornF a w n).1 (WornF b w n).1 == (2 : Int))) [])) (Tree.leaf (AV.bool true false) [])) (Tree.leaf (AV.bool true false) []))) := by kernel_rfl
theorem rlasts_s : FSound Try.prog 65 rlastsC := by
  refine plain_fn tab_LastP_ok 0 Try.func65 (by kernel_rfl) (by kernel_rfl) ?_
  rintro ⟨p, a, b, w, n, ⟨⟩⟩ hp
  rw [rlasts_t p a b w n]
  simp only [rlastsF, Tree.den, AV.same, AV.sameL, and_true, true_and] at hp ⊢
  simp only [beq_iff_eq, beq_eq_false_iff_ne, lastsB]
  refine ⟨fun ha => ⟨fun hb => ⟨worn_okP hp ha hb, ?_⟩, fun hb => ?_⟩, fun ha => ?_⟩
  · simp [ha, hb]
  · simp [hb]
  · simp [ha]
def tab_rlasts : Tab := addF tab_LastP 65 rlastsC
theorem tab_rlasts_ok : TabOk tab_rlasts := tab_LastP_ok.add rlasts_s
def lasB (p : Play) (a b : Edge) (w : Sp) : List (Nat × Blk) := [(0, .cells 0 25 (Enc.enc p).cells), (8, .cells 0 27 (Enc.enc a).cells), (16, .cells 0 27 (Enc.enc b).cells), (24, .cells 0 23 (Enc.enc w).cells)]
structure LasS where
  p : Play
  a : Edge
  b : Edge
  w : Sp
  k : Nat
def LasS.q (s : LasS) : Int → Bool := lastsB s.p s.a s.b s.w
def lasJ (p : Play) (a b : Edge) (w : Sp) (x y n : Int) : JSt := ⟨60, [(4, .ptr 0 0 0), (5, .ptr 8 0 0), (6, .ptr 16 0 0), (7, .ptr 24 0 0), (14, .int false .i64 x), (15, .int false .i64 y), (16, .int false .i64 n)], lasB p a b w, 32⟩
def LasS.I (s : LasS) : JSt := lasJ s.p s.a s.b s.w (scan s.q s.k).1 (scan s.q s.k).2 s.k
def lasLs : Ex → List Nat
  | .normal => [4, 5, 6, 7, 14, 15, 16]
  | .exit _ => [14, 15]
  | .ret => []
def lasGo (p : Play) (a b : Edge) (w : Sp) (x y n : Int) : Tree := .leaf (.tup [.nilp, .ptr 60 0 0, .ptr 0 0 0, .ptr 8 0 0, .ptr 16 0 0, .ptr 24 0 0, .int false .i64 x, .int false .i64 y, .int false .i64 (IntKind.i64.wrap (n + 1))]) (lasB p a b w)
set_option maxRecDepth 100000 in
theorem las_t (p : Play) (a b : Edge) (w : Sp) (x y n : Int) (g : Nat → Value) : exec (mkE Try.prog tab_rlasts) (hnd (mkE Try.prog tab_rlasts) 0) (bodyK Try.f23 0) (JSt.inst (lasJ p a b w x y n) g) (leafI [0, 8, 16, 24] lasLs) =
    .br (decide (n ≤ 20000)) (.need p.ok (.br (lastsB p a b w n) (.br (decide (x < 0)) (lasGo p a b w n n n) (lasGo p a b w x n n)) (lasGo p a b w x y n)))
      (.leaf (.tup [.ptr 0 0 0, .ptr 60 0 0, .int false .i64 x, .int false .i64 y]) (lasB p a b w)) := by kernel_rfl
def LasS.pre (s : LasS) : Prop := s.p.ok = true ∧ s.k ≤ 20001
def LasS.mu (s : LasS) : Nat := 20001 - s.k
def lasR (s : LasS) (e : Ex) (J : JSt) : Prop := e = .exit 0 ∧ J = ⟨60, [(14, .int false .i64 (scan s.q 20001).1), (15, .int false .i64 (scan s.q 20001).2)], [], 32⟩
theorem lasB_sub (p : Play) (a b : Edge) (w : Sp) : subH (fun i => i) (lasB p a b w) (lasB p a b w) := by
  refine ⟨⟨_, rfl, rfl, rfl, ?_⟩, ⟨_, rfl, rfl, rfl, ?_⟩, ⟨_, rfl, rfl, rfl, ?_⟩, ⟨_, rfl, rfl, rfl, ?_⟩, trivial⟩ <;> simp [Enc.enc, AV.cells, AV.sameRL, AV.sameR]
theorem lasJ_sub (p : Play) (a b : Edge) (w : Sp) (x y n : Int) : SubV 0 (fun i => i) [4, 5, 6, 7, 14, 15, 16] 60 [.ptr 0 0 0, .ptr 8 0 0, .ptr 16 0 0, .ptr 24 0 0, .int false .i64 x, .int false .i64 y, .int false .i64 n] (lasB p a b w) (lasJ p a b w x y n) :=
  SubV.same rfl rfl ⟨⟨rfl, rfl, rfl⟩, ⟨rfl, rfl, rfl⟩, ⟨rfl, rfl, rfl⟩, ⟨rfl, rfl, rfl⟩, ⟨rfl, rfl⟩, ⟨rfl, rfl⟩, ⟨rfl, rfl⟩, trivial⟩ (lasB_sub _ _ _ _) rfl rfl
theorem las_go {s : LasS} (hp : s.pre) (hk : s.k ≤ 20000) {x y : Int} (hx : scan s.q (s.k + 1) = (x, y)) : (lasGo s.p s.a s.b s.w x y s.k).den (LoopLeaf (Goes LasS.I LasS.pre LasS.mu lasR 0 lasLs s) (Go.SX.Leaves lasR 0 lasLs s)) := by
  have e : IntKind.i64.wrap ((s.k : Int) + 1) = ((s.k + 1 : Nat) : Int) := (w64 (by omega) (by omega)).trans (by omega)
  have hs := lasJ_sub s.p s.a s.b s.w x y ((s.k + 1 : Nat) : Int)
  refine ⟨{ s with k := s.k + 1 }, fun i => i, ⟨hp.1, by show s.k + 1 ≤ 20001; omega⟩, by show 20001 - (s.k + 1) < 20001 - s.k; omega, fun e J h => h, ?_⟩
  show SubV 0 _ _ _ _ _ (lasJ s.p s.a s.b s.w (scan s.q (s.k + 1)).1 (scan s.q (s.k + 1)).2 ((s.k + 1 : Nat) : Int))
  rw [hx, e]
  exact hs
theorem las_round : RoundOkI LasS.I LasS.pre LasS.mu lasR 0 lasLs [0, 8, 16, 24] (mkE Try.prog tab_rlasts) (hnd (mkE Try.prog tab_rlasts) 0) (bodyK Try.f23 0) := by
  rintro ⟨p, a, b, w, k⟩ g hp
  have hgo := fun hk x y hx => las_go (s := ⟨p, a, b, w, k⟩) hp hk (x := x) (y := y) hx
  have hp1 : p.ok = true := hp.1
  show (exec _ _ _ (JSt.inst (lasJ p a b w (scan (lastsB p a b w) k).1 (scan (lastsB p a b w) k).2 k) g) _).den _
  rw [las_t]
  simp only [Tree.den, decide_eq_true_eq, decide_eq_false_iff_not, hp1, true_and]
  simp only at hgo
  refine ⟨fun hk => ⟨fun hq => ⟨fun hx => hgo (by omega) _ _ ?_, fun hx => hgo (by omega) _ _ ?_⟩, fun hq => hgo (by omega) _ _ ?_⟩, fun hk => ?_⟩
  · show scan (lastsB p a b w) (k + 1) = _
    simp only [scan, hq, decide_eq_true hx]
  · show scan (lastsB p a b w) (k + 1) = _
    simp only [scan, hq, decide_eq_false hx]
  · show scan (lastsB p a b w) (k + 1) = _
    simp only [scan, hq]
  · have : k = 20001 := by have := hp.2; simp only at this; omega
    subst this
    exact ⟨⟨60, [(14, .int false .i64 (scan (lastsB p a b w) 20001).1), (15, .int false .i64 (scan (lastsB p a b w) 20001).2)], [], 32⟩, fun i => i, ⟨rfl, rfl⟩, SubV.same rfl rfl ⟨⟨rfl, rfl⟩, ⟨rfl, rfl⟩, trivial⟩ trivial rfl rfl⟩
def lasDec (h : List (Nat × Blk)) : Option (Play × Edge × Edge × Sp) := match Go.SX.look h 0, Go.SX.look h 8, Go.SX.look h 16, Go.SX.look h 24 with
  | some (.cells 0 tp lp), some (.cells 0 ta la), some (.cells 0 tb lb), some (.cells 0 tw lw) => match tp == 25 && (ta == 27 && (tb == 27 && tw == 23)), Enc.dec (AV.agg lp), Enc.dec (AV.agg la), Enc.dec (AV.agg lb), Enc.dec (AV.agg lw) with
    | true, some p, some a, some b, some w => some (p, a, b, w)
    | _, _, _, _, _ => none
  | _, _, _, _ => none
theorem dec_edge {l : List AV} {x : Edge} (q : Nat → Nat) (h : Enc.dec (AV.agg l) = some x) : AV.sameRL q l (Enc.enc x).cells := by
  simp only [Enc.dec] at h
  split at h <;> (try (cases h; done))
  rename_i he
  simp only [Option.some.injEq] at h; subst h
  simp only [AV.agg.injEq] at he; subst he
  simp [Enc.enc, AV.cells, AV.sameRL, AV.sameR]
theorem vc {q : Nat → Nat} {h : List (Nat × Blk)} {i z t : Nat} {l l' : List AV} (hl : Go.SX.look h (q i) = some (.cells z t l)) (hs : AV.sameRL q l l') : ∃ b', Go.SX.look h (q i) = some b' ∧ b'.sameR q (.cells z t l') := ⟨.cells z t l, hl, rfl, rfl, hs⟩
theorem lasDec_spec {h : List (Nat × Blk)} {p : Play} {a b : Edge} {w : Sp} (e : lasDec h = some (p, a, b, w)) : subH (fun i => i) h (lasB p a b w) := by
  unfold lasDec at e
  split at e <;> (try (cases e; done))
  rename_i l0 l1 l2 l3
  split at e <;> (try (cases e; done))
  rename_i c d0 d1 d2 d3
  simp only [Bool.and_eq_true, beq_iff_eq] at c
  obtain ⟨rfl, rfl, rfl, rfl⟩ := c
  simp only [Option.some.injEq, Prod.mk.injEq] at e
  obtain ⟨rfl, rfl, rfl, rfl⟩ := e
  exact ⟨vc (q := fun i => i) (i := 0) l0 (dec_play _ d0), vc (q := fun i => i) (i := 8) l1 (dec_edge _ d1), vc (q := fun i => i) (i := 16) l2 (dec_edge _ d2), vc (q := fun i => i) (i := 24) l3 (dec_sp _ d3), trivial⟩
def lasH : Code → St → (Ex → St → Tree) → Tree := fun _ st K => match st.tm.length == 60 && noDfr st.hp, getT st.tm 4, getT st.tm 5, getT st.tm 6, getT st.tm 7, getT st.tm 14, getT st.tm 15, getT st.tm 16, lasDec st.hp with
  | true, .ptr 0 0 0, .ptr 8 0 0, .ptr 16 0 0, .ptr 24 0 0, .int _ .i64 x, .int _ .i64 y, .int _ .i64 n, some (p, a, b, w) =>
    .need (decide ((x = -1 ∧ y = -1 ∧ n = 0) ∧ p.ok = true)) (.all fun g => K (.exit 0) (JSt.inst ⟨60, [(14, .int false .i64 (scan (lastsB p a b w) 20001).1), (15, .int false .i64 (scan (lastsB p a b w) 20001).2)], [], 32⟩ g))
  | _, _, _, _, _, _, _, _, _ => .fail "last"
theorem lasH_ok (body : Code) (st : St) (K : Ex → St → Tree) (T : AV → List (Nat × Blk) → Prop) (h : (lasH body st K).den T) : ∃ s q ls', LasS.pre s ∧ SubV 0 q ls' st.tm.length (ls'.map (getT st.tm)) st.hp (LasS.I s) ∧ ∀ e J g, lasR s e J → (K e (J.inst g)).den T := by
  unfold lasH at h
  split at h <;> (try (exact h.elim))
  rename_i k1 x k2 y k3 n p a b w c e4 e5 e6 e7 e14 e15 e16 ed
  simp only [Tree.den, decide_eq_true_eq] at h
  obtain ⟨⟨⟨rfl, rfl, rfl⟩, hp⟩, hK⟩ := h
  rw [Bool.and_eq_true] at c
  refine ⟨⟨p, a, b, w, 0⟩, fun i => i, [4, 5, 6, 7, 14, 15, 16], ⟨hp, by show 0 ≤ 20001; omega⟩, SubV.same rfl (beq_iff_eq.1 c.1) ?_ (lasDec_spec ed) rfl rfl c.2, ?_⟩
  · simp only [List.map_cons, List.map_nil, e4, e5, e6, e7, e14, e15, e16]
    exact ⟨⟨rfl, rfl, rfl⟩, ⟨rfl, rfl, rfl⟩, ⟨rfl, rfl, rfl⟩, ⟨rfl, rfl, rfl⟩, ⟨rfl, rfl⟩, ⟨rfl, rfl⟩, ⟨rfl, rfl⟩, trivial⟩
  · rintro e J g ⟨rfl, rfl⟩
    exact hK g
set_option maxRecDepth 100000 in
theorem las_hnd (G : Ctx) (hG : G.n = 0) (hrd : G.rd = none) : HndOk (mkE Try.prog tab_rlasts) G { hnd (mkE Try.prog tab_rlasts) 4 with loop := lasH } (bodyOf Try.f23) :=
  ⟨fun b hb => by
    have e : loops (bodyOf Try.f23) = [.loop (bodyK Try.f23 0)] := by kernel_rfl
    rw [e, List.mem_singleton] at hb; subst hb
    exact loop_soundI (n0 := 0) (mkE_ok tab_rlasts_ok) (by omega) (hnd_hndOk (mkE_ok tab_rlasts_ok) 0 G _ hrd) (fun _ => Nat.zero_le _) las_round (fun st K T h => lasH_ok (bodyK Try.f23 0) st K T h),
   (hnd_hndOk (mkE_ok tab_rlasts_ok) 4 G (bodyOf Try.f23) hrd).call, (hnd_hndOk (mkE_ok tab_rlasts_ok) 4 G (bodyOf Try.f23) hrd).yield⟩
def rLastF : Play × Edge × Edge × Sp × Unit → Bool × AV := fun | (p, (a, (b, (w, _)))) => (true, .tup [.int false .i64 (LastF p a b w).1, .int false .i64 (LastF p a b w).2.1, .int false .i64 (LastF p a b w).2.2])
def rLastC : FC := pureFC (pfOf rLastF)
set_option maxRecDepth 100000 in
theorem rLast_t (p : Play) (a : Edge) (b : Edge) (w : Sp) : execFn (mkE Try.prog tab_rlasts) { hnd (mkE Try.prog tab_rlasts) 4 with loop := lasH } false Try.f23 (EncL.enc ((p, a, b, w, ()) : Play × Edge × Edge × Sp × Unit)) [] 0 =
    Tree.need true (Tree.br (!p.ok) (Tree.leaf (AV.tup [AV.int true IntKind.i64 (0 : Int), AV.int true IntKind.i64 (0 : Int), AV.int true IntKind.i64 (1 : Int)]) []) (Tree.need true
    (Tree.br (!a.ok) (Tree.leaf (AV.tup [AV.int true IntKind.i64 (0 : Int), AV.int true IntKind.i64 (0 : Int), AV.int true IntKind.i64 (1 : Int)]) []) (Tree.need true (Tree.br (!b.ok)
    (Tree.leaf (AV.tup [AV.int true IntKind.i64 (0 : Int), AV.int true IntKind.i64 (0 : Int), AV.int true IntKind.i64 (1 : Int)]) []) (Tree.need true (Tree.br (!w.isIn (0 : Int) (100 :
    Int)) (Tree.leaf (AV.tup [AV.int true IntKind.i64 (0 : Int), AV.int true IntKind.i64 (0 : Int), AV.int true IntKind.i64 (2 : Int)]) []) (Tree.br (a.kind == (1 : Int)) (Tree.br
    (b.kind == (2 : Int)) (Tree.need (decide (((-1 : Int) = (-1 : Int) ∧ (-1 : Int) = (-1 : Int) ∧ (0 : Int) = (0 : Int)) ∧ p.ok = true)) (Tree.all fun g0 => Tree.br (decide ((scan
    (lastsB p a b w) (20001 : Nat)).1 < (0 : Int))) (Tree.leaf (AV.tup [AV.int true IntKind.i64 (0 : Int), AV.int true IntKind.i64 (0 : Int), AV.int true IntKind.i64 (4 : Int)]) [])
    (Tree.leaf (AV.tup [AV.int false IntKind.i64 (scan (lastsB p a b w) (20001 : Nat)).1, AV.int false IntKind.i64 (scan (lastsB p a b w) (20001 : Nat)).2, AV.int true IntKind.i64 (0 :
    Int)]) []))) (Tree.br (b.kind == (1 : Int)) (Tree.br (a.kind == (2 : Int)) (Tree.need (decide (((-1 : Int) = (-1 : Int) ∧ (-1 : Int) = (-1 : Int) ∧ (0 : Int) = (0 : Int)) ∧ p.ok =
    true)) (Tree.all fun g1 => Tree.br (decide ((scan (lastsB p a b w) (20001 : Nat)).1 < (0 : Int))) (Tree.leaf (AV.tup [AV.int true IntKind.i64 (0 : Int), AV.int true IntKind.i64 (0 :
    Int), AV.int true IntKind.i64 (4 : Int)]) []) (Tree.leaf (AV.tup [AV.int false IntKind.i64 (scan (lastsB p a b w) (20001 : Nat)).1, AV.int false IntKind.i64 (scan (lastsB p a b w)
    (20001 : Nat)).2, AV.int true IntKind.i64 (0 : Int)]) []))) (Tree.leaf (AV.tup [AV.int true IntKind.i64 (0 : Int), AV.int true IntKind.i64 (0 : Int), AV.int true IntKind.i64 (6 :
    Int)]) [])) (Tree.leaf (AV.tup [AV.int true IntKind.i64 (0 : Int), AV.int true IntKind.i64 (0 : Int), AV.int true IntKind.i64 (6 : Int)]) []))) (Tree.br (b.kind == (1 : Int))
    (Tree.br (a.kind == (2 : Int)) (Tree.need (decide (((-1 : Int) = (-1 : Int) ∧ (-1 : Int) = (-1 : Int) ∧ (0 : Int) = (0 : Int)) ∧ p.ok = true)) (Tree.all fun g2 => Tree.br (decide
    ((scan (lastsB p a b w) (20001 : Nat)).1 < (0 : Int))) (Tree.leaf (AV.tup [AV.int true IntKind.i64 (0 : Int), AV.int true IntKind.i64 (0 : Int), AV.int true IntKind.i64 (4 : Int)])
    []) (Tree.leaf (AV.tup [AV.int false IntKind.i64 (scan (lastsB p a b w) (20001 : Nat)).1, AV.int false IntKind.i64 (scan (lastsB p a b w) (20001 : Nat)).2, AV.int true IntKind.i64
    (0 : Int)]) []))) (Tree.leaf (AV.tup [AV.int true IntKind.i64 (0 : Int), AV.int true IntKind.i64 (0 : Int), AV.int true IntKind.i64 (6 : Int)]) [])) (Tree.leaf (AV.tup [AV.int true
    IntKind.i64 (0 : Int), AV.int true IntKind.i64 (0 : Int), AV.int true IntKind.i64 (6 : Int)]) [])))))))))) := by kernel_rfl
theorem rLast_s : FSound Try.prog 23 rLastC := by
  refine fn_plain (mkE_ok tab_rlasts_ok) Try.func23 (by kernel_rfl) (by kernel_rfl) las_hnd ?_
  rintro ⟨p, a, b, w, ⟨⟩⟩ hp
  rw [rLast_t p a b w]
  simp only [rLastF, Tree.den, AV.same, AV.sameL, and_true, true_and] at hp ⊢
  rw [← last_same]
  cases hpo : p.ok <;> cases hao : a.ok <;> cases hbo : b.ok <;> cases hwo : w.isIn 0 100 <;> simp [lastR, hpo, hao, hbo, hwo]
  by_cases ka1 : a.kind = 1 <;> by_cases ka2 : a.kind = 2 <;> by_cases kb1 : b.kind = 1 <;> by_cases kb2 : b.kind = 2 <;> by_cases hs : (scan (lastsB p a b w) 20001).1 < 0 <;> simp [ka1, ka2, kb1, kb2, hs] <;> omega
def tab_rLast : Tab := addF tab_rlasts 23 rLastC
theorem tab_rLast_ok : TabOk tab_rLast := tab_rlasts_ok.add rLast_s
end Go.Proofs.Ytdaanchagjamfaa
