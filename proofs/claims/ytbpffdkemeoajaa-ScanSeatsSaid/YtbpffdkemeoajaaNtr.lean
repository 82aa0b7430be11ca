/- The law of such contracts. -/
import Derived.Test.YtbpffdkemeoajaaNtq
namespace Go.SX
open Go Go.RowKit Go.Proofs.Ytbpffdkemeoajaa

abbrev WF (α : Type) := α → Bool × AV × List (Nat × Blk)
/-- The condition, the value, the new blocks (numbers from 0 to 7). -/
def wFC {α : Type} [ArgsE α] (F : WF α) : FC := fun args nid all => (all, fun blks => match ArgsE.dec args (look (zipH Blk.ro all blks)) with
  | some (p, x) => some ⟨false, p && (F x).1, (F x).2.1.mapId (· + nid), (F x).2.2.map fun q => (q.1 + nid, q.2.mapId (· + nid))⟩
  | none => none)
def resJ (N : Nat) (v : AV) (u : List (Nat × Blk)) : JSt := ⟨1, [(0, v.mapId (· + N))], u.map (fun q => (q.1 + N, q.2.mapId (· + N))), N + 8⟩
def endW (v : AV) (h : List (Nat × Blk)) : Tree := match noDfr h with
  | true => .leaf v (nearH [] [v] h)
  | false => .fail "deferred"
def execW (E : Env) (H : Hnd) (fn : Func) (args : List AV) (hp : List (Nat × Blk)) (N : Nat) : Tree := inFn E H fn args hp N fun v h _ => endW v h
def EndOk (N : Nat) (v : AV) (u : List (Nat × Blk)) (w : AV) (h : List (Nat × Blk)) : Prop := SubOk N [0] 1 [w] h (resJ N v u)

theorem foot_map {r r' : Nat → Loc} {q : Nat → Nat} {id id' : Nat} (h : r' id' = r id) {b : Blk} {k : Nat} : Foot r' id' (b.mapId q) k ↔ Foot r id b k := by
  cases b <;> simp only [Blk.mapId, Foot, h]
theorem look_map {N : Nat} {f : Blk → Blk} (hf : ∀ b, (f b).live = b.live) : ∀ {u : List (Nat × Blk)} {i : Nat} {b : Blk}, look u i = some b → look (u.map fun q => (q.1 + N, f q.2)) (i + N) = some (f b)
  | [], _, _, h => by cases h
  | (j, c) :: u, i, b, h => by
    simp only [List.map_cons, look_cons] at h ⊢
    by_cases hj : j = i
    · subst hj
      simp only [beq_self_eq_true, if_true, hf] at h ⊢
      split at h
      · rename_i hl
        rw [if_pos hl]
        simp only [Option.some.injEq] at h ⊢; rw [h]
      · cases h
    · have e1 : (j == i) = false := by simpa using hj
      have e2 : (j + N == i + N) = false := by simp; exact hj
      rw [e1] at h
      rw [e2]
      simp only [Bool.false_eq_true, if_false] at h ⊢
      exact look_map hf h
def distU : List (Nat × Blk) → Bool
  | [] => true
  | (i, b) :: l => b.live && (l.all fun p => !(Nat.beq i p.1)) && distU l
theorem distU_look : ∀ {u : List (Nat × Blk)}, distU u = true → ∀ p ∈ u, look u p.1 = some p.2
  | [], _, p, hp => by cases hp
  | (i, b) :: l, h, p, hp => by
    simp only [distU, Bool.and_eq_true, List.all_eq_true] at h
    rcases List.mem_cons.1 hp with rfl | hp
    · simp [look_cons, h.1.1]
    · have hne : (i == p.1) = false := by
        have := h.1.2 p hp
        cases hb : Nat.beq i p.1 with
        | true => rw [hb] at this; cases this
        | false =>
          simp only [beq_eq_false_iff_ne, ne_eq]
          intro e; subst e; simp at hb
      simp only [look_cons, hne, Bool.false_eq_true, if_false]
      exact distU_look h.2 p hp
structure WOk (v : AV) (u : List (Nat × Blk)) : Prop where
  val : v.all (· < 8) = true
  new : ∀ q ∈ u, q.1 < 8 ∧ q.2.own = true ∧ q.2.all (· < 8) = true
  dist : distU u = true
/-- What is done at loops, for each argument. -/
structure WHnd {α : Type} (E : Env) (c : Code) (N : Nat) (F : WF α) (H : α → Hnd) : Prop where
  ok : ∀ x, (F x).1 = true → ∀ G : Ctx, G.rd = none → G.n = N → HndOk E G (H x) c
/-- What a run comes to, for each argument. -/
structure WRun {α : Type} [ArgsE α] (E : Env) (fn : Func) (N : Nat) (F : WF α) (H : α → Hnd) : Prop where
  run : ∀ x, (F x).1 = true → WOk (F x).2.1 (F x).2.2 ∧ DenOk (EndOk N (F x).2.1 (F x).2.2) (execW E (H x) fn (ArgsE.vals 0 x) (ArgsE.blks 0 x) N)
theorem fn_W {E : Env} (hE : E.Sound) {f : FuncId} {fn : Func} {c : Code} (hf : E.P.funcs[f]? = some fn) (hb : fn.body = some c) (hgo : goFn E.P f = true) {α : Type} [ArgsE α] {N : Nat} (hN : ArgsE.len α ≤ N) {H : α → Hnd} {F : WF α}
    (hl : WHnd E c N F H) (hF : WRun E fn N F H) : FSound E.P f (wFC F) := by
  refine ⟨hgo, fun args nid all r w lk blks eff hH _ hv he hp => ?_⟩
  simp only [wFC] at hv he
  split at he <;> (try (cases he; done))
  rename_i p x hd
  simp only [Option.some.injEq] at he; subst he
  simp only [Bool.and_eq_true] at hp
  obtain ⟨hp1, hp2⟩ := hp
  obtain ⟨hcl, harg⟩ := ArgsE.ok _ _ _ _ hd hp1
  obtain ⟨hW, hden⟩ := hF.run x hp2
  have hlk : ∀ id b, look (zipH Blk.ro all blks) id = some b → BRep r id w b := by
    intro id b hb
    obtain ⟨b0, k1, k2⟩ := zipH_mem hv _ (look_memb hb)
    have k2 : b = b0.ro := k2
    rw [k2]; exact (hH.rep _ b0 k1).ro
  obtain ⟨L, hL⟩ := harg r w hlk
  obtain ⟨ha, hbl⟩ := hL 0 L (fun i _ => by rw [Nat.zero_add])
  obtain ⟨hc1, hc2⟩ := hcl 0
  have hI : HInv ⟨w, fun _ => False, N, L, none⟩ N L (ArgsE.blks 0 x) w := by
    refine ⟨fun id b hb => hbl _ (look_memb hb), fun id id' b b' hb _ _ ho => ?_, fun _ _ => rfl, Fr.refl _ _, fun id b hb ho => ?_, fun id b hb => ?_, fun id b hb => ?_⟩
    · have := (hc2 _ (look_memb hb)).2.1
      simp only at this; rw [ho] at this; cases this
    · have := (hc2 _ (look_memb hb)).2.1
      simp only at this; rw [ho] at this; cases this
    · have := (hc2 _ (look_memb hb)).1
      simp only at this; omega
    · exact Blk.all_mono (fun _ hf => by cases hf) b (hc2 _ (look_memb hb)).2.2
  have hargs : AV.allL (· < N) (ArgsE.vals 0 x) = true := allL_mono (fun i hi => by simp only [decide_eq_true_eq] at hi ⊢; omega) _ hc1
  have hd0 := hden.den
  unfold execW at hd0
  have := fn_calls hE hf hb (hl.ok x hp2 ⟨w, fun _ => False, N, L, none⟩ rfl rfl) rfl hI hargs hd0
  rw [ha] at this
  refine this.mono ?_
  rintro e w' ⟨v, h', nid', r1, hT, rfl, hle, hI', hvn⟩
  unfold endW at hT
  split at hT
  rotate_left
  · exact hT.elim
  rename_i hnd
  have hT : SubOk N [0] 1 [v] (nearH [] [v] h') (resJ N (F x).2.1 (F x).2.2) := hT
  have hlkn : ∀ id b, look (nearH [] [v] h') id = some b → look h' id = some b := fun id b hb => nearH_look hb
  have hrep : Rep ⟨w, fun _ => False, N, L, none⟩ nid' ⟨[v], h', nid'⟩ { tmps := #[v.den r1], defers := [] } w' := by
    refine hI'.toRep (tm := [v]) (a := { tmps := #[v.den r1], defers := [] }) rfl (fun t => ?_) (fun t => ?_) (Dfr.none rfl)
    · cases t with
      | zero => rfl
      | succ t => rfl
    · cases t with
      | zero => exact hvn
      | succ t => rfl
  generalize hJ : resJ N (F x).2.1 (F x).2.2 = J at hT
  generalize nearH [] [v] h' = hn at hT hlkn
  have hnear : Rep ⟨w, fun _ => False, N, L, none⟩ nid' ⟨[v], hn, nid'⟩ { tmps := #[v.den r1], defers := [] } w' := Rep.near (h' := hn) hlkn hnd hrep
  have hso : SubOk N [0] (⟨[v], hn, nid'⟩ : St).tm.length ([0].map (getT (⟨[v], hn, nid'⟩ : St).tm)) (⟨[v], hn, nid'⟩ : St).hp J := hT
  obtain ⟨g, ⟨r2, hI2⟩, hS2⟩ := Rep.subW hnear hso (Nat.le_refl N)
  subst hJ
  have hval : v.den r1 = ((F x).2.1.mapId (· + N)).den r2 := hI2.tm 0
  let rr : Nat → Loc := fun j => if inR nid j = true then r2 (j - nid + N) else r j
  have hnew : ∀ i, i < 8 → rr (i + nid) = r2 (i + N) := by
    intro i hi
    show (if _ then _ else _) = _
    rw [if_pos (by simp [inR]; omega)]
    congr 1; omega
  have key : ∀ i, decide (i < 8) = true → rr (i + nid) = (fun j => r2 (j + N)) i := fun i hi => hnew i (by simpa using hi)
  have hlook : ∀ q ∈ (F x).2.2, look ((resJ N (F x).2.1 (F x).2.2).inst g).hp (q.1 + N) = some (q.2.mapId (· + N)) := by
    intro q hq
    exact look_map (f := fun b => b.mapId (· + N)) (fun b => Blk.mapId_live _ b) (distU_look hW.dist q hq)
  have hft : ∀ q ∈ (F x).2.2, ∀ k, Foot rr (q.1 + nid) (q.2.mapId (· + nid)) k ↔ Foot r2 (q.1 + N) (q.2.mapId (· + N)) k := by
    intro q hq k
    rw [foot_map (r := fun j => r2 (j + N)) (id := q.1) (key q.1 (by have := (hW.new q hq).1; simpa using this)), foot_map (r := fun j => r2 (j + N)) (id := q.1) rfl]
  refine ⟨rr, ?_, ?_⟩
  · rw [hval, den_mapId (p := (· < 8)) (r := fun j => r2 (j + N)) (r' := r2) (q := (· + N)) (fun _ _ => rfl) _ hW.val, den_mapId (p := (· < 8)) (r := fun j => r2 (j + N)) (r' := rr) (q := (· + nid)) key _ hW.val]
  · refine ⟨fun id hid => ?_, fun p hp => ?_, ⟨hI'.fr.os, hI'.fr.tape, hI'.fr.output, hI'.fr.size, fun k hk _ => hI'.fr.block k hk (by simp)⟩, fun p hp hin hlv k hk => ?_, fun p hp hin => ?_, fun p hp q hq hin hin' hne ho hlv k hk hk' => ?_⟩
    · show (if _ then _ else _) = _
      rw [if_neg (by rw [hid]; simp)]
    · obtain ⟨q, hq, rfl⟩ := List.mem_map.1 hp
      obtain ⟨h8, _, hall⟩ := hW.new q hq
      have hrep2 := hI2.rep _ _ (hlook q hq)
      -- back to the bare number, and on
      have e1 : BRep (fun j => r2 (j + N)) q.1 w' q.2 := by
        have := Blk.mapId_back (p := (· < 8)) (q := (· + N)) (r := fun j => r2 (j + N)) (r' := r2) (fun _ _ => rfl) (id := q.1) (w := w') rfl hall hrep2
        exact this
      exact Blk.mapId_rep (p := (· < 8)) key (id := q.1) (w := w') (key q.1 (by simpa using h8)) hall e1
    · obtain ⟨q, hq, rfl⟩ := List.mem_map.1 hp
      have hk2 := (hft q hq k).1 hk
      rcases hI2.own _ _ (hlook q hq) (by rw [Blk.mapId_own]; exact (hW.new q hq).2.1) k hk2 with h | h
      · exact h.elim
      · exact .inl h
    · obtain ⟨q, hq, rfl⟩ := List.mem_map.1 hp
      have := (hW.new q hq).1
      simp [inR] at hin; omega
    · obtain ⟨q1, hq1, rfl⟩ := List.mem_map.1 hp
      obtain ⟨q2, hq2, rfl⟩ := List.mem_map.1 hq
      exact hI2.sep _ _ _ _ (hlook q1 hq1) (hlook q2 hq2) (by simp only at hne; omega) (by rw [Blk.mapId_own]; exact (hW.new q1 hq1).2.1) k ((hft q1 hq1 k).1 hk) ((hft q2 hq2 k).1 hk')
mutual
theorem eqV_same (Q : List Pr) (f : Nat → Nat) : ∀ u v : AV, u.same v → ∃ ps, eqV Q u (v.mapId f) = some ps ∧ allE ps
  | .int .., v, h => by
    cases v <;> simp only [AV.same] at h
    obtain ⟨rfl, rfl⟩ := h
    rename_i c k n c'
    exact ⟨[n = n], by simp only [AV.mapId, eqV, kindB, beq_self_eq_true], rfl, trivial⟩
  | .bool .., v, h => by
    cases v <;> simp only [AV.same] at h
    subst h
    exact ⟨_, rfl, rfl, trivial⟩
  | .nilp, v, h => by cases v <;> simp only [AV.same] at h; exact ⟨_, rfl, trivial⟩
  | .nils, v, h => by cases v <;> simp only [AV.same] at h; exact ⟨_, rfl, trivial⟩
  | .nilm, v, h => by cases v <;> simp only [AV.same] at h; exact ⟨_, rfl, trivial⟩
  | .nilf, v, h => by cases v <;> simp only [AV.same] at h; exact ⟨_, rfl, trivial⟩
  | .nili, v, h => by cases v <;> simp only [AV.same] at h; exact ⟨_, rfl, trivial⟩
  | .str .., v, h => by
    cases v <;> simp only [AV.same] at h
    subst h
    exact ⟨_, rfl, rfl, trivial⟩
  | .ifc t u, v, h => by
    cases v <;> simp only [AV.same] at h
    obtain ⟨rfl, h⟩ := h
    obtain ⟨ps, h1, h2⟩ := eqV_same Q f u _ h
    exact ⟨(t = t) :: ps, by simp only [AV.mapId, eqV]; rw [h1], rfl, h2⟩
  | .agg l, v, h => by
    cases v <;> simp only [AV.same] at h
    exact eqL_same Q f l _ h
  | .tup l, v, h => by
    cases v <;> simp only [AV.same] at h
    exact eqL_same Q f l _ h
  | .ptr .., v, h => by cases v <;> simp only [AV.same] at h
  | .addr .., v, h => by cases v <;> simp only [AV.same] at h
  | .slice .., v, h => by cases v <;> simp only [AV.same] at h
  | .slz .., v, h => by cases v <;> simp only [AV.same] at h
  | .map .., v, h => by cases v <;> simp only [AV.same] at h
  | .yld .., v, h => by cases v <;> simp only [AV.same] at h
  | .fn .., v, h => by cases v <;> simp only [AV.same] at h
  | .raw .., v, h => by cases v <;> simp only [AV.same] at h
  | .opt .., v, h => by cases v <;> simp only [AV.same] at h
  | .mth .., v, h => by cases v <;> simp only [AV.same] at h
  | .alt .., v, h => by cases v <;> simp only [AV.same] at h
theorem eqL_same (Q : List Pr) (f : Nat → Nat) : ∀ u v : List AV, AV.sameL u v → ∃ ps, eqL Q u (AV.mapIdL f v) = some ps ∧ allE ps
  | [], v, h => by cases v <;> simp only [AV.sameL] at h; exact ⟨_, rfl, trivial⟩
  | x :: l, v, h => by
    cases v <;> simp only [AV.sameL] at h
    obtain ⟨p1, a1, a2⟩ := eqV_same Q f x _ h.1
    obtain ⟨p2, b1, b2⟩ := eqL_same Q f l _ h.2
    exact ⟨p1 ++ p2, by simp only [AV.mapIdL, eqL]; rw [a1, b1], allE_append.2 ⟨a2, b2⟩⟩
end
mutual
theorem prV_same (f : Nat → Nat) : ∀ u v : AV, u.same v → prV u (v.mapId f) = [] ∧ (v.mapId f).all (fun _ => false) = true
  | .int .., v, h => by cases v <;> simp only [AV.same] at h; exact ⟨rfl, rfl⟩
  | .bool .., v, h => by cases v <;> simp only [AV.same] at h; exact ⟨rfl, rfl⟩
  | .nilp, v, h => by cases v <;> simp only [AV.same] at h; exact ⟨rfl, rfl⟩
  | .nils, v, h => by cases v <;> simp only [AV.same] at h; exact ⟨rfl, rfl⟩
  | .nilm, v, h => by cases v <;> simp only [AV.same] at h; exact ⟨rfl, rfl⟩
  | .nilf, v, h => by cases v <;> simp only [AV.same] at h; exact ⟨rfl, rfl⟩
  | .nili, v, h => by cases v <;> simp only [AV.same] at h; exact ⟨rfl, rfl⟩
  | .str .., v, h => by cases v <;> simp only [AV.same] at h; exact ⟨rfl, rfl⟩
  | .ifc t u, v, h => by cases v <;> simp only [AV.same] at h; exact prV_same f u _ h.2
  | .agg l, v, h => by cases v <;> simp only [AV.same] at h; exact prL_same f l _ h
  | .tup l, v, h => by cases v <;> simp only [AV.same] at h; exact prL_same f l _ h
  | .ptr .., v, h => by cases v <;> simp only [AV.same] at h
  | .addr .., v, h => by cases v <;> simp only [AV.same] at h
  | .slice .., v, h => by cases v <;> simp only [AV.same] at h
  | .slz .., v, h => by cases v <;> simp only [AV.same] at h
  | .map .., v, h => by cases v <;> simp only [AV.same] at h
  | .yld .., v, h => by cases v <;> simp only [AV.same] at h
  | .fn .., v, h => by cases v <;> simp only [AV.same] at h
  | .raw .., v, h => by cases v <;> simp only [AV.same] at h
  | .opt .., v, h => by cases v <;> simp only [AV.same] at h
  | .mth .., v, h => by cases v <;> simp only [AV.same] at h
  | .alt .., v, h => by cases v <;> simp only [AV.same] at h
theorem prL_same (f : Nat → Nat) : ∀ u v : List AV, AV.sameL u v → prL u (AV.mapIdL f v) = [] ∧ AV.allL (fun _ => false) (AV.mapIdL f v) = true
  | [], v, h => by cases v <;> simp only [AV.sameL] at h; exact ⟨rfl, rfl⟩
  | x :: l, v, h => by
    cases v <;> simp only [AV.sameL] at h
    obtain ⟨a1, a2⟩ := prV_same f x _ h.1
    obtain ⟨b1, b2⟩ := prL_same f l _ h.2
    exact ⟨by simp only [AV.mapIdL, prL]; rw [a1, b1]; rfl, by simp only [AV.mapIdL, AV.allL, a2, b2]; rfl⟩
end
/-- Plain values keep to the contract. -/
theorem endOk_same {N : Nat} {u v : AV} {h : List (Nat × Blk)} (hs : u.same v) (hd : noDfr h = true) : EndOk N v [] u h := by
  refine { slots := rfl, len := rfl, eqs := ?_ }
  obtain ⟨p1, p2⟩ := prV_same (· + N) u v hs
  obtain ⟨ps, e1, e2⟩ := eqV_same (unif N [u] [v.mapId (· + N)] h []) (· + N) u v hs
  refine ⟨ps ++ [] ++ [], ?_, by simpa using e2⟩
  have hsc : scopeJ (resJ N v []) = true := by
    simp only [scopeJ, resJ, List.map_nil, List.all_cons, List.all_nil, Bool.and_true]
    exact all_mono (fun _ hf => by cases hf) _ p2
  have hu : unif N [u] [v.mapId (· + N)] h [] = [] := by
    simp only [unif, prL, p1, baseP, addP, stepP, List.flatMap_nil, List.append_nil]
  rw [hu] at e1
  unfold subE
  have hJ : (resJ N v []).live.map (·.2) = [v.mapId (· + N)] := rfl
  have hH : (resJ N v []).hp = [] := rfl
  rw [hJ, hH, hu]
  simp only [eqL, e1, eqH, hsc, injP, lowP, hd, distH, Bool.and_self]
end Go.SX
