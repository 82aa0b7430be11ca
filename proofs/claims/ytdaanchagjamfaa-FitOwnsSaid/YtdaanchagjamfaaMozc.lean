/- The law FitLists, of the code. -/
import Derived.Test.YtdaanchagjamfaaMozb
namespace Go.SX
open Go Go.RowKit Go.Proofs.Ytdaanchagjamfaa

/-- The number of a code's first region. -/
def firstReg : Code → Option Nat
  | .region id _ _ => some id
  | .seq a b => (match firstReg a with
    | some x => some x
    | none => firstReg b)
  | .block _ a => firstReg a
  | .scope a => firstReg a
  | .loop a => firstReg a
  | _ => none
/-- By the loop's first region. -/
def byReg (l : List (Nat × (St → (Ex → St → Tree) → Tree))) (c : Code) : St → (Ex → St → Tree) → Tree := match firstReg c with
  | some r => (match l.find? (fun p => Nat.beq p.1 r) with
    | some p => p.2
    | none => fun _ _ => .fail "a loop that is not told")
  | none => fun _ _ => .fail "a loop without a region"
def askH (p : Prop) (L : St → (Ex → St → Tree) → Tree) (st : St) (K : Ex → St → Tree) : Tree := .ask p (L st K)
theorem askH_ok {E : Env} {G : Ctx} {c : Code} {p : Prop} {L : St → (Ex → St → Tree) → Tree} (h : p → CSound E G c L) : CSound E G c (askH p L) := by
  intro st K T Q a w hn hd hr hQ
  obtain ⟨h1, h2⟩ := (show p ∧ (L st K).den T from hd)
  exact h h1 st K T Q a w hn h2 hr hQ
theorem loops_ok {E : Env} (hE : E.Sound) {d : Nat} {G : Ctx} (hG : G.rd = none) {c : Code} {L : Code → St → (Ex → St → Tree) → Tree} (h : ∀ s ∈ loops c, CSound E G s (L s)) : HndOk E G { hnd E d with loop := L } c :=
  ⟨h, (hnd_hndOk hE d G c hG).call, (hnd_hndOk hE d G c hG).yield⟩
end Go.SX
namespace Go.Proofs.Ytdaanchagjamfaa
open Go.SX
def cnt (f : Nat → Bool) (n : Nat) : Nat := (picks f n).length
theorem cnt_succ (f : Nat → Bool) (n : Nat) : cnt f (n + 1) = cnt f n + (if f n = true then 1 else 0) := by
  unfold cnt
  simp only [picks]
  cases f n <;> simp
theorem cnt_congr {f g : Nat → Bool} : ∀ {n : Nat}, (∀ i, i < n → f i = g i) → cnt f n = cnt g n
  | 0, _ => rfl
  | n + 1, h => by rw [cnt_succ, cnt_succ, cnt_congr (fun i hi => h i (by omega)), h n (by omega)]
theorem cnt_shift (f : Nat → Bool) : ∀ m, cnt (fun i => f (i + 1)) m + (if f 0 = true then 1 else 0) = cnt f (m + 1)
  | 0 => by rw [cnt_succ]; simp [cnt, picks]
  | m + 1 => by
    rw [cnt_succ, cnt_succ f (m + 1), ← cnt_shift f m]
    omega
theorem cnt_rot1 (f : Nat → Bool) (n : Nat) : cnt (fun i => f ((i + 1) % n)) n = cnt f n := by
  cases n with
  | zero => rfl
  | succ m =>
    rw [cnt_succ, Nat.mod_self, ← cnt_shift f m]
    congr 1
    exact cnt_congr fun i hi => by rw [Nat.mod_eq_of_lt (by omega)]
theorem cnt_rot (f : Nat → Bool) (n : Nat) : ∀ t, cnt (fun i => f ((i + t) % n)) n = cnt f n
  | 0 => cnt_congr fun i hi => by rw [Nat.add_zero, Nat.mod_eq_of_lt hi]
  | t + 1 => by
    rw [← cnt_rot f n t, ← cnt_rot1 (fun i => f ((i + t) % n)) n]
    refine cnt_congr fun i _ => ?_
    congr 1
    rw [Nat.mod_add_mod]
    congr 1; omega
def turned (l : Rw Edge) (t : U8n) : Rw Edge := ⟨l.n, rot l t⟩
theorem turned_ok {p : Play} {s : Edge} {l : Rw Edge} {t : U8n} (h : matO p s l = true) : matO p s (turned l t) = true := by
  simp only [matO, Bool.and_eq_true] at h ⊢
  refine ⟨h.1, h.2.1, allN_of fun i hi => ?_⟩
  have hi : i < l.n := hi
  exact allN_get h.2.2 (Nat.mod_lt _ (by omega))
theorem turned_len (p : Play) (s : Edge) (j : Int) (l : Rw Edge) (t : U8n) : (picks (pickQ p s j (turned l t)) l.n).length = (picks (pickQ p s j l) l.n).length := cnt_rot (pickQ p s j l) l.n t.n.toNat
abbrev flL (p : Play) (s : Edge) (l : Rw Edge) (t : U8n) : Code → St → (Ex → St → Tree) → Tree := byReg [
  (8, askH (l.n ≤ 40) (loopT 8 [] (l1J p s l t (matL p s 2 l) (matL p s 1 l) 0) [(True, .exit 0, l1E p s l t (matL p s 2 l) (matL p s 1 l))])),
  (15, askH (pickPre p s l) (loopT 8 [] (l2J p s l (picks (pickQ p s 2 l) l.n) (picks (pickQ p s 1 l) l.n) (matL p s 2 (turned l t)).length (matL p s 1 (turned l t)).length (matE p s (turned l t)) 0 0 0) [(True, .exit 2, l2E (picks (pickQ p s 2 l) l.n) (picks (pickQ p s 1 l) l.n) (matL p s 2 (turned l t)).length (matL p s 1 (turned l t)).length (matE p s (turned l t)))]))]
theorem fl_hnd (p : Play) (s : Edge) (l : Rw Edge) (t : U8n) (ht : 0 ≤ t.n ∧ t.n ≤ 255) (G : Ctx) (hrd : G.rd = none) (hG : G.n = 8) : HndOk (mkE Try.prog tab_mat) G { hnd (mkE Try.prog tab_mat) 1 with loop := flL p s l t } (bodyOf Try.f13) := by
  refine loops_ok (mkE_ok tab_mat_ok) hrd fun c hc => ?_
  have e : loops (bodyOf Try.f13) = [.loop (bodyK Try.f13 0), .loop (bodyK Try.f13 1)] := by kernel_rfl
  rw [e] at hc
  simp only [List.mem_cons, List.not_mem_nil, or_false] at hc
  rcases hc with rfl | rfl
  · have e1 : flL p s l t (.loop (bodyK Try.f13 0)) = askH (l.n ≤ 40) (loopT 8 [] (l1J p s l t (matL p s 2 l) (matL p s 1 l) 0) [(True, .exit 0, l1E p s l t (matL p s 2 l) (matL p s 1 l))]) := by kernel_rfl
    rw [e1]
    refine askH_ok fun h40 => ?_
    refine loopT_ok (n0 := 8) (mkE_ok tab_mat_ok) (by omega) (fun s hs => hnd_hndOk (mkE_ok tab_mat_ok) 0 G _ hrd) (fun s hs => (by decide : 8 ≤ 96)) ?_ (l1_round p s l t _ _ ht h40) (s0 := 0) (Nat.zero_le _) ?_
    · rintro s e J ⟨_, rfl⟩; exact (by decide : 8 ≤ 96)
    · rintro e J ⟨rfl, rfl⟩
      exact ⟨_, List.mem_cons_self, trivial, rfl, rfl⟩
  · have e1 : flL p s l t (.loop (bodyK Try.f13 1)) = askH (pickPre p s l) (loopT 8 [] (l2J p s l (picks (pickQ p s 2 l) l.n) (picks (pickQ p s 1 l) l.n) (matL p s 2 (turned l t)).length (matL p s 1 (turned l t)).length (matE p s (turned l t)) 0 0 0) [(True, .exit 2, l2E (picks (pickQ p s 2 l) l.n) (picks (pickQ p s 1 l) l.n) (matL p s 2 (turned l t)).length (matL p s 1 (turned l t)).length (matE p s (turned l t)))]) := by kernel_rfl
    rw [e1]
    refine askH_ok fun hp => ?_
    refine loopT_ok (n0 := 8) (mkE_ok tab_mat_ok) (by omega) (fun s hs => hnd_hndOk (mkE_ok tab_mat_ok) 0 G _ hrd) (fun s hs => (by decide : 8 ≤ 104)) ?_ (l2_round p s l _ _ _ hp) (s0 := 0) (Nat.zero_le _) ?_
    · rintro s e J ⟨_, rfl⟩; exact (by decide : 8 ≤ 104)
    · rintro e J ⟨rfl, rfl⟩
      exact ⟨_, List.mem_cons_self, trivial, rfl, rfl⟩
def flF : WF (Play × Edge × (Rw Edge) × U8n × Unit) := fun | (p, (s, (l, (t, _)))) => (decide (0 ≤ t.n ∧ t.n ≤ 255), .bool false true, [])
def flC : FC := wFC flF
set_option maxRecDepth 100000 in
theorem fl_t (p : Play) (s : Edge) (l : (Rw Edge)) (t : U8n) : execW (mkE Try.prog tab_mat) { hnd (mkE Try.prog tab_mat) 1 with loop := flL p s l t } Try.f13 (ArgsE.vals 0 ((p, s, l, t, ()) : Play × Edge × (Rw Edge) × U8n × Unit)) (ArgsE.blks 0 ((p, s, l, t, ()) : Play × Edge × (Rw Edge) × U8n × Unit)) 8 =
    Tree.br (decide ((↑l.n : Int) > (50 : Int))) (Tree.leaf (AV.bool true true) []) (Tree.need (true && (true && (decide (l.n ≤ l.n) && true)) && decide (l.n ≤ (1000 : Nat))) (Tree.br
    (matE p s l != (0 : Int)) (Tree.br (matE p s l != (0 : Int)) (Tree.br ((↑(matL p s (2 : Int) l).length : Int) == (0 : Int)) (Tree.br ((↑(matL p s (1 : Int) l).length : Int) == (0 :
    Int)) (Tree.leaf (AV.bool true true) []) (Tree.leaf (AV.bool true false) [])) (Tree.leaf (AV.bool true false) [])) (Tree.leaf (AV.bool true false) [])) (Tree.br (decide ((↑l.n :
    Int) > (40 : Int))) (Tree.br (matE p s l != (0 : Int)) (Tree.br ((↑(matL p s (2 : Int) l).length : Int) == (0 : Int)) (Tree.br ((↑(matL p s (1 : Int) l).length : Int) == (0 : Int))
    (Tree.leaf (AV.bool true true) []) (Tree.leaf (AV.bool true false) [])) (Tree.leaf (AV.bool true false) [])) (Tree.leaf (AV.bool true false) [])) (Tree.ask (l.n ≤ (40 : Nat))
    (Tree.ask ((0 : Nat) = (0 : Nat)) (Tree.ask (l.n = l.n) (Tree.ask (Cap.of (0 : Nat) = Cap.of (0 : Nat)) (Tree.ask (t.n = t.n) (Tree.ask ((0 : Nat) = (0 : Nat)) (Tree.ask ((0 : Nat)
    = (0 : Nat)) (Tree.ask ((0 : Nat) = (0 : Nat)) (Tree.ask ((0 : Nat) = (0 : Nat)) (Tree.ask ((0 : Nat) = (0 : Nat)) (Tree.ask ((matL p s (2 : Int) l).length = (matL p s (2 : Int)
    l).length) (Tree.ask (Cap.of (0 : Nat) = Cap.of (0 : Nat)) (Tree.ask ((0 : Nat) = (0 : Nat)) (Tree.ask ((matL p s (1 : Int) l).length = (matL p s (1 : Int) l).length) (Tree.ask
    (Cap.of (0 : Nat) = Cap.of (0 : Nat)) (Tree.ask ((0 : Nat) = (0 : Nat)) (Tree.ask ((↑l.n : Int) = (↑l.n : Int)) (Tree.ask ((0 : Int) = (0 : Int)) (Tree.ask (p.length = p.length)
    (Tree.ask (p.slack = p.slack) (Tree.ask (p.loose = p.loose) (Tree.ask (p.damp.lo = p.damp.lo) (Tree.ask (p.damp.hi = p.damp.hi) (Tree.ask (s.kind = s.kind) (Tree.ask (s.at_.lo =
    s.at_.lo) (Tree.ask (s.at_.hi = s.at_.hi) (Tree.ask (s.wide.lo = s.wide.lo) (Tree.ask (s.wide.hi = s.wide.hi) (Tree.ask (s.deep.lo = s.deep.lo) (Tree.ask (s.deep.hi = s.deep.hi)
    (Tree.ask ((matL p s (2 : Int) l).length ≤ (matL p s (2 : Int) l).length) (Tree.ask (RowsEq (1 : Nat) (matL p s (2 : Int) l).length (fun i => RowT.enc ((matL p s (2 : Int) l).getD i
    (0 : Int))) fun i => RowT.enc ((matL p s (2 : Int) l).getD i (0 : Int))) (Tree.ask ((matL p s (1 : Int) l).length ≤ (matL p s (1 : Int) l).length) (Tree.ask (RowsEq (1 : Nat) (matL
    p s (1 : Int) l).length (fun i => RowT.enc ((matL p s (1 : Int) l).getD i (0 : Int))) fun i => RowT.enc ((matL p s (1 : Int) l).getD i (0 : Int))) (Tree.ask ((0 : Nat) = (0 : Nat))
    (Tree.ask (l.n ≤ l.n) (Tree.ask (RowsEq (7 : Nat) l.n (fun i => RowT.enc (l.get i)) fun i => RowT.enc (l.get i)) (Tree.asm True (Tree.all fun g0 => Tree.need (true && (true &&
    (decide (l.n ≤ l.n) && true)) && decide (l.n ≤ (1000 : Nat))) (Tree.ask (pickPre p s l) (Tree.ask ((0 : Nat) = (0 : Nat)) (Tree.ask ((0 : Nat) = (0 : Nat)) (Tree.ask ((0 : Nat) = (0
    : Nat)) (Tree.ask ((0 : Nat) = (0 : Nat)) (Tree.ask ((0 : Nat) = (0 : Nat)) (Tree.ask ((matL p s (2 : Int) l).length = (picks (pickQ p s (2 : Int) l) l.n).length) (Tree.ask (Cap.of
    (0 : Nat) = Cap.of (0 : Nat)) (Tree.ask ((0 : Nat) = (0 : Nat)) (Tree.ask ((matL p s (1 : Int) l).length = (picks (pickQ p s (1 : Int) l) l.n).length) (Tree.ask (Cap.of (0 : Nat) =
    Cap.of (0 : Nat)) (Tree.ask ((0 : Nat) = (0 : Nat)) (Tree.ask ((matL p s (2 : Int) (Rw.mk l.n (rot l t))).length = (matL p s (2 : Int) (turned l t)).length) (Tree.ask (Cap.of (0 :
    Nat) = Cap.of (0 : Nat)) (Tree.ask ((0 : Nat) = (0 : Nat)) (Tree.ask ((matL p s (1 : Int) (Rw.mk l.n (rot l t))).length = (matL p s (1 : Int) (turned l t)).length) (Tree.ask (Cap.of
    (0 : Nat) = Cap.of (0 : Nat)) (Tree.ask (matE p s (Rw.mk l.n (rot l t)) = matE p s (turned l t)) (Tree.ask ((0 : Int) = (0 : Int)) (Tree.ask ((0 : Int) = (0 : Int)) (Tree.ask ((0 :
    Nat) = (0 : Nat)) (Tree.ask (l.n = l.n) (Tree.ask (Cap.of (0 : Nat) = Cap.of (0 : Nat)) (Tree.ask ((↑l.n : Int) = (↑l.n : Int)) (Tree.ask ((0 : Int) = (0 : Int)) (Tree.ask (p.length
    = p.length) (Tree.ask (p.slack = p.slack) (Tree.ask (p.loose = p.loose) (Tree.ask (p.damp.lo = p.damp.lo) (Tree.ask (p.damp.hi = p.damp.hi) (Tree.ask (s.kind = s.kind) (Tree.ask
    (s.at_.lo = s.at_.lo) (Tree.ask (s.at_.hi = s.at_.hi) (Tree.ask (s.wide.lo = s.wide.lo) (Tree.ask (s.wide.hi = s.wide.hi) (Tree.ask (s.deep.lo = s.deep.lo) (Tree.ask (s.deep.hi =
    s.deep.hi) (Tree.ask ((picks (pickQ p s (2 : Int) l) l.n).length ≤ (matL p s (2 : Int) l).length) (Tree.ask (RowsEq (1 : Nat) (picks (pickQ p s (2 : Int) l) l.n).length (fun i =>
    RowT.enc ((matL p s (2 : Int) l).getD i (0 : Int))) fun i => RowT.enc ((picks (pickQ p s (2 : Int) l) l.n).getD i (0 : Int))) (Tree.ask ((picks (pickQ p s (1 : Int) l) l.n).length ≤
    (matL p s (1 : Int) l).length) (Tree.ask (RowsEq (1 : Nat) (picks (pickQ p s (1 : Int) l) l.n).length (fun i => RowT.enc ((matL p s (1 : Int) l).getD i (0 : Int))) fun i => RowT.enc
    ((picks (pickQ p s (1 : Int) l) l.n).getD i (0 : Int))) (Tree.ask (l.n ≤ l.n) (Tree.ask (RowsEq (7 : Nat) l.n (fun i => RowT.enc (l.get i)) fun i => RowT.enc (l.get i)) (Tree.asm
    True (Tree.all fun g1 => Tree.br ((↑(picks (pickQ p s (2 : Int) l) l.n).length : Int) == (↑(picks (pickQ p s (2 : Int) l) l.n).length : Int)) (Tree.br ((↑(picks (pickQ p s (1 : Int)
    l) l.n).length : Int) == (↑(picks (pickQ p s (1 : Int) l) l.n).length : Int)) (Tree.br (matE p s (turned l t) == (0 : Int)) (Tree.br ((↑(matL p s (2 : Int) (turned l t)).length :
    Int) == (↑(picks (pickQ p s (2 : Int) l) l.n).length : Int)) (Tree.br ((↑(matL p s (1 : Int) (turned l t)).length : Int) == (↑(picks (pickQ p s (1 : Int) l) l.n).length : Int))
    (Tree.leaf (AV.bool true true) []) (Tree.leaf (AV.bool true false) [])) (Tree.leaf (AV.bool true false) [])) (Tree.leaf (AV.bool true false) [])) (Tree.leaf (AV.bool true false)
    [])) (Tree.leaf (AV.bool true false) [])))))))))))))))))))))))))))))))))))))))))))))))))))))))))))))))))))))))))))))))))))))))) := by kernel_rfl
theorem fl_hs : WHnd (mkE Try.prog tab_mat) (bodyOf Try.f13) 8 flF (fun x_ => { hnd (mkE Try.prog tab_mat) 1 with loop := flL x_.1 x_.2.1 x_.2.2.1 x_.2.2.2.1 }) := by
  refine ⟨?_⟩
  rintro ⟨p, ⟨s, ⟨l, ⟨t, ⟨⟩⟩⟩⟩⟩ hp G h1 h2
  exact fl_hnd p s l t (of_decide_eq_true hp) G h1 h2
theorem fl_run : WRun (mkE Try.prog tab_mat) Try.f13 8 flF (fun x_ => { hnd (mkE Try.prog tab_mat) 1 with loop := flL x_.1 x_.2.1 x_.2.2.1 x_.2.2.2.1 }) := by
  refine ⟨?_⟩
  rintro ⟨p, ⟨s, ⟨l, ⟨t, ⟨⟩⟩⟩⟩⟩ hp
  refine ⟨⟨rfl, by simp [flF], rfl⟩, ⟨?_⟩⟩
  rw [fl_t p s l t]
  simp only [flF] at hp
  have yes : (Tree.leaf (AV.bool true true) []).den (EndOk 8 (flF (p, s, l, t, ())).2.1 (flF (p, s, l, t, ())).2.2) := endOk_same rfl rfl
  refine den_br (fun _ => yes) (fun h50 => ?_)
  have h50 : l.n ≤ 50 := by have := of_decide_eq_false h50; omega
  refine den_need (by simp; omega) ?_
  by_cases hB : matO p s l = true ∧ l.n ≤ 40
  · obtain ⟨hO, h40⟩ := hB
    have k : ∀ j, matL p s j l = picks (pickQ p s j l) l.n := fun j => by simp only [matL, hO, decide_eq_true h40]; rfl
    have kE : matE p s l = 0 := by simp only [matE, hO, decide_eq_false (show ¬ l.n > 40 by omega)]
    have tO := turned_ok (t := t) hO
    have kt : ∀ j, matL p s j (turned l t) = picks (pickQ p s j (turned l t)) l.n := fun j => by simp only [matL, tO, decide_eq_true (show (turned l t).n ≤ 40 from h40)]; rfl
    have tE : matE p s (turned l t) = 0 := by simp only [matE, tO, decide_eq_false (show ¬ (turned l t).n > 40 from by show ¬ l.n > 40; omega)]
    have hpre : pickPre p s l := by
      simp only [matO, Bool.and_eq_true] at hO
      exact ⟨hO.1, hO.2.1, hO.2.2, by omega⟩
    rw [k 2, k 1, kE]
    refine den_br (fun hn => by simp at hn) (fun _ => den_br (fun hn => absurd (of_decide_eq_true hn) (by omega)) (fun _ => den_ask h40 ?_))
    repeat' first | refine den_ask (by with_reducible rfl) ?_ | refine den_ask (Nat.le_refl _) ?_ | refine den_ask (RowsEq.refl _ _ _) ?_
    refine den_asm fun _ => den_all fun g => den_need (by simp; omega) (den_ask hpre ?_)
    repeat' first | refine den_ask (by with_reducible rfl) ?_ | refine den_ask (Nat.le_refl _) ?_ | refine den_ask (RowsEq.refl _ _ _) ?_ | refine den_ask rfl ?_
    refine den_asm fun _ => den_all fun g => ?_
    refine den_br (fun _ => den_br (fun _ => den_br (fun _ => den_br (fun _ => den_br (fun _ => yes) (fun hn => ?_)) (fun hn => ?_)) (fun hn => ?_)) (fun hn => ?_)) (fun hn => ?_)
    · rw [kt 1, turned_len] at hn; simp at hn
    · rw [kt 2, turned_len] at hn; simp at hn
    · rw [tE] at hn; simp at hn
    · simp at hn
    · simp at hn
  · have kL : ∀ j, matL p s j l = [] := fun j => by
      have : (matO p s l && decide (l.n ≤ 40)) = false := by
        cases hO : matO p s l with
        | false => rfl
        | true => simp; have : ¬ l.n ≤ 40 := fun h => hB ⟨hO, h⟩
                  omega
      simp only [matL, this]
    have kE : matE p s l ≠ 0 := by
      cases hO : matO p s l with
      | false => simp [matE, hO]
      | true =>
        have : l.n > 40 := by have : ¬ l.n ≤ 40 := fun h => hB ⟨hO, h⟩
                              omega
        simp only [matE, hO, decide_eq_true this]; decide
    rw [kL 2, kL 1]
    refine den_br (fun _ => den_br (fun _ => den_br (fun _ => den_br (fun _ => yes) (fun hn => by simp at hn)) (fun hn => by simp at hn)) (fun hn => ?_)) (fun hn => ?_)
    · simp at hn; exact absurd hn kE
    · simp at hn; exact absurd hn kE
theorem fl_s : FSound Try.prog 13 flC :=
  fn_W (mkE_ok tab_mat_ok) Try.func13 (by kernel_rfl) (by kernel_rfl) (by decide) fl_hs fl_run
def tab_fl : Tab := addF tab_mat 13 flC
theorem tab_fl_ok : TabOk tab_fl := tab_mat_ok.add fl_s
end Go.Proofs.Ytdaanchagjamfaa
/- Are two lists the same? -/
namespace Go.Proofs.Ytdaanchagjamfaa
open Go.SX
def neI (a b : Rw Int) (i : Nat) : Bool := a.get i != b.get i
def sameI (a b : Rw Int) : Bool := ((a.n : Int) == b.n) && (firstN (neI a b) a.n 0).isNone
def intJ (a b : Rw Int) (k : Nat) : JSt := ⟨26, [(0, .slz 0 0 a.n (.of 0)), (1, .slz 1 0 b.n (.of 0)), (5, .int false .i64 k)], ArgE.blk 0 a ++ ArgE.blk 1 b, 8⟩
def intLs : Ex → List Nat
  | .normal => [0, 1, 5]
  | .exit _ => []
  | .ret => [4]
set_option maxRecDepth 100000 in
theorem int_r (a b : Rw Int) (k : Nat) (g : Nat → Value) : exec (mkE Try.prog tab_pairs) (hnd (mkE Try.prog tab_pairs) 0) (bodyK Try.f28 0) (JSt.inst (intJ a b k) g) (leafW [] intLs) =
    Tree.br (decide ((↑k : Int) < (↑a.n : Int))) (Tree.need (decide ((0 : Int) ≤ (↑k : Int) ∧ (↑k : Int) < (↑a.n : Int)) && decide (a.n ≤ a.n)) (Tree.need (decide (k < a.n)) (Tree.need
    (decide ((0 : Int) ≤ (↑k : Int) ∧ (↑k : Int) < (↑b.n : Int)) && decide (b.n ≤ b.n)) (Tree.need (decide (k < b.n)) (Tree.br (a.get k != b.get k) (Tree.leaf (AV.tup [AV.nili, AV.ptr
    (26 : Nat) (0 : Nat) (0 : Nat), AV.bool true false]) ([])) (Tree.leaf (AV.tup [AV.nilp, AV.ptr (26 : Nat) (0 : Nat) (0 : Nat), AV.slz (0 : Nat) (0 : Nat) a.n (Cap.of (0 : Nat)),
    AV.slz (1 : Nat) (0 : Nat) b.n (Cap.of (0 : Nat)), AV.int false IntKind.i64 (IntKind.i64.wrap ((↑k : Int) + (1 : Int)))]) ([((0 : Nat), Blk.frz [CK.int IntKind.i64] a.n fun i =>
    RowT.enc (a.get i)), ((1 : Nat), Blk.frz [CK.int IntKind.i64] b.n fun i => RowT.enc (b.get i))]))))))) (Tree.leaf (AV.tup [AV.ptr (0 : Nat) (0 : Nat) (0 : Nat), AV.ptr (26 : Nat) (0
    : Nat) (0 : Nat)]) ([])) := by kernel_rfl
def intRet : JSt := ⟨26, [(4, .bool false false)], [], 8⟩
def intEnd : JSt := ⟨26, [], [], 8⟩
def intR (a b : Rw Int) (k : Nat) (e : Ex) (J : JSt) : Prop := (e = .ret ∧ (firstN (neI a b) (a.n - k) k).isNone = false ∧ J = intRet) ∨ (e = .exit 0 ∧ (firstN (neI a b) (a.n - k) k).isNone = true ∧ J = intEnd)
set_option maxRecDepth 100000 in
theorem int_ret  : subE 8 [AV.bool true false] ([]) intRet = (
    some [false = false]) := by kernel_rfl
set_option maxRecDepth 100000 in
theorem int_go (a b : Rw Int) (k k' : Nat) : subE 8 [AV.slz (0 : Nat) (0 : Nat) a.n (Cap.of (0 : Nat)), AV.slz (1 : Nat) (0 : Nat) b.n (Cap.of (0 : Nat)), AV.int false IntKind.i64 (IntKind.i64.wrap ((↑k : Int) + (1 : Int)))] ([((0 : Nat), Blk.frz [CK.int IntKind.i64] a.n fun i => RowT.enc (a.get i)), ((1 : Nat), Blk.frz [CK.int IntKind.i64] b.n fun i => RowT.enc (b.get i))]) (intJ a b k') = (
    some [(0 : Nat) = (0 : Nat), a.n = a.n, Cap.of (0 : Nat) = Cap.of (0 : Nat), (0 : Nat) = (0 : Nat), b.n = b.n, Cap.of (0 : Nat) = Cap.of (0 : Nat), IntKind.i64.wrap ((↑k : Int) + (1
    : Int)) = (↑k' : Int), a.n ≤ a.n, RowsEq (1 : Nat) a.n (fun i => RowT.enc (a.get i)) fun i => RowT.enc (a.get i), b.n ≤ b.n, RowsEq (1 : Nat) b.n (fun i => RowT.enc (b.get i)) fun i
    => RowT.enc (b.get i)]) := by kernel_rfl
set_option maxRecDepth 100000 in
theorem int_end  : subE 8 [] ([]) intEnd = (
    some []) := by kernel_rfl
set_option maxRecDepth 100000 in
theorem int_round (a b : Rw Int) (hl : a.n = b.n ∧ a.n ≤ 1000) : RoundW (intJ a b) (fun k => k ≤ a.n) (fun k => a.n - k) (intR a b) 8 intLs [] (mkE Try.prog tab_pairs) (fun _ => hnd (mkE Try.prog tab_pairs) 0) (bodyK Try.f28 0) := by
  obtain ⟨hab, hl⟩ := hl
  refine ⟨fun k g hk => ⟨den_of (int_r a b k g) ?_⟩⟩
  refine den_br (fun h => ?_) (fun h => ?_)
  · have h : k < a.n := by have := of_decide_eq_true h; omega
    obtain ⟨m, hm⟩ : ∃ m, a.n - k = m + 1 := ⟨a.n - k - 1, by omega⟩
    have hm' : a.n - (k + 1) = m := by omega
    repeat' refine den_need (by simp; omega) ?_
    refine den_br (fun hb => ?_) (fun hb => ?_)
    · have hf : firstN (neI a b) (a.n - k) k = some k := by rw [hm, firstN]; unfold neI; rw [hb]
      exact ⟨_, .inl ⟨rfl, by rw [hf]; rfl, rfl⟩, rfl, rfl, _, int_ret, ⟨rfl, trivial⟩⟩
    · have hf : firstN (neI a b) (a.n - k) k = firstN (neI a b) (a.n - (k + 1)) (k + 1) := by rw [hm, hm', firstN]; unfold neI; rw [hb]
      refine ⟨k + 1, by omega, by show a.n - (k + 1) < a.n - k; omega, fun e J h => by unfold intR at h ⊢; rw [hf]; exact h, rfl, rfl, _, int_go _ _ _ (k + 1), ?_⟩
      have hw : IntKind.i64.wrap ((k : Int) + 1) = ((k + 1 : Nat) : Int) := (w64 (by omega) (by omega)).trans (by omega)
      repeat' first | exact trivial | with_reducible rfl | exact Nat.le_refl _ | exact RowsEq.refl _ _ _ | exact hw | refine And.intro ?_ ?_
  · have h : a.n ≤ k := by have := of_decide_eq_false h; omega
    have hf : firstN (neI a b) (a.n - k) k = none := by rw [show a.n - k = 0 by omega]; rfl
    exact ⟨_, .inr ⟨rfl, by rw [hf]; rfl, rfl⟩, rfl, rfl, _, int_end, trivial⟩
def intX (a b : Rw Int) : List (Prop × Ex × JSt) := [((firstN (neI a b) a.n 0).isNone = false, .ret, intRet), ((firstN (neI a b) a.n 0).isNone = true, .exit 0, intEnd)]
abbrev intH (P : Program) (a b : Rw Int) : Hnd := { hnd (mkE P tab_pairs) 1 with loop := fun _ => askH (a.n = b.n ∧ a.n ≤ 1000) (loopT 8 [] (intJ a b 0) (intX a b)) }
theorem int_hnd (a b : Rw Int) (G : Ctx) (hrd : G.rd = none) (hG : G.n = 8) : HndOk (mkE Try.prog tab_pairs) G (intH Try.prog a b) (bodyOf Try.f28) := by
  refine one_loop (body := bodyK Try.f28 0) (mkE_ok tab_pairs_ok) hrd (by kernel_rfl) ?_
  refine askH_ok fun hl => ?_
  refine loopT_ok (n0 := 8) (mkE_ok tab_pairs_ok) (by omega) (fun s hs => hnd_hndOk (mkE_ok tab_pairs_ok) 0 G _ hrd) (fun s hs => Nat.le_refl _) ?_ (int_round a b hl) (s0 := 0) (Nat.zero_le _) ?_
  · rintro s e J (⟨_, _, rfl⟩ | ⟨_, _, rfl⟩) <;> exact Nat.le_refl _
  · rintro e J (⟨rfl, h, rfl⟩ | ⟨rfl, h, rfl⟩)
    · exact ⟨_, List.mem_cons_self, h, rfl, rfl⟩
    · exact ⟨_, List.mem_cons_of_mem _ List.mem_cons_self, h, rfl, rfl⟩
def intsF : WF ((Rw Int) × (Rw Int) × Unit) := fun | (a, (b, _)) => (decide (a.n ≤ 1000 ∧ b.n ≤ 1000), .bool false (sameI a b), [])
def intsC : FC := wFC intsF
set_option maxRecDepth 100000 in
theorem ints_t (a : (Rw Int)) (b : (Rw Int)) : execW (mkE Try.prog tab_pairs) (intH Try.prog a b) Try.f28 (ArgsE.vals 0 ((a, b, ()) : (Rw Int) × (Rw Int) × Unit)) (ArgsE.blks 0 ((a, b, ()) : (Rw Int) × (Rw Int) × Unit)) 8 =
    Tree.br ((↑a.n : Int) != (↑b.n : Int)) (Tree.leaf (AV.bool true false) ([])) (Tree.ask (a.n = b.n ∧ a.n ≤ (1000 : Nat)) (Tree.ask ((0 : Nat) = (0 : Nat)) (Tree.ask (a.n = a.n)
    (Tree.ask (Cap.of (0 : Nat) = Cap.of (0 : Nat)) (Tree.ask ((0 : Nat) = (0 : Nat)) (Tree.ask (b.n = b.n) (Tree.ask (Cap.of (0 : Nat) = Cap.of (0 : Nat)) (Tree.ask ((0 : Int) = (0 :
    Int)) (Tree.ask (a.n ≤ a.n) (Tree.ask (RowsEq (1 : Nat) a.n (fun i => RowT.enc (a.get i)) fun i => RowT.enc (a.get i)) (Tree.ask (b.n ≤ b.n) (Tree.ask (RowsEq (1 : Nat) b.n (fun i
    => RowT.enc (b.get i)) fun i => RowT.enc (b.get i)) (Tree.both (Tree.asm ((firstN (neI a b) a.n (0 : Nat)).isNone = false) (Tree.all (fun (g0 : Nat → Value) => Tree.leaf (AV.bool
    false false) ([])))) (Tree.asm ((firstN (neI a b) a.n (0 : Nat)).isNone = true) (Tree.all (fun (g1 : Nat → Value) => Tree.leaf (AV.bool true true) ([]))))))))))))))))) := by kernel_rfl
theorem ints_hs : WHnd (mkE Try.prog tab_pairs) (bodyOf Try.f28) 8 intsF (fun x_ => (intH Try.prog x_.1 x_.2.1)) := by
  refine ⟨?_⟩
  rintro ⟨a, ⟨b, ⟨⟩⟩⟩ hp G h1 h2
  exact int_hnd a b G h1 h2
theorem ints_run : WRun (mkE Try.prog tab_pairs) Try.f28 8 intsF (fun x_ => (intH Try.prog x_.1 x_.2.1)) := by
  refine ⟨?_⟩
  rintro ⟨a, ⟨b, ⟨⟩⟩⟩ hp
  refine ⟨⟨rfl, by simp [intsF], rfl⟩, ⟨?_⟩⟩
  rw [ints_t a b]
  simp only [intsF] at hp
  have hp := of_decide_eq_true hp
  refine den_br (fun h => endOk_same ?_ rfl) (fun h => ?_)
  · have : ((a.n : Int) == b.n) = false := by simpa using h
    show false = sameI a b
    simp only [sameI, this]; rfl
  · have hab : a.n = b.n := by simp only [bne_eq_false_iff_eq] at h; omega
    have e : ((a.n : Int) == b.n) = true := by rw [hab]; simp
    refine den_ask ⟨hab, hp.1⟩ ?_
    repeat' first | refine den_ask (show _ = _ by with_reducible rfl) ?_ | refine den_ask (show _ ≤ _ from Nat.le_refl _) ?_ | refine den_ask (show RowsEq _ _ _ _ from RowsEq.refl _ _ _) ?_
    refine den_both (den_asm fun h => den_all fun g => ?_) (den_asm fun h => den_all fun g => ?_)
    · exact endOk_same (show _ = sameI a b by simp only [sameI, e, h]; rfl) rfl
    · exact endOk_same (show _ = sameI a b by simp only [sameI, e, h]; rfl) rfl
theorem ints_s : FSound Try.prog 28 intsC :=
  fn_W (mkE_ok tab_pairs_ok) Try.func28 (by kernel_rfl) (by kernel_rfl) (by decide) ints_hs ints_run
def tab_ints : Tab := addF tab_pairs 28 intsC
theorem tab_ints_ok : TabOk tab_ints := tab_pairs_ok.add ints_s
theorem firstN_same {p : Nat → Bool} {n : Nat} (h : ∀ i, i < n → p i = false) : (firstN p n 0).isNone = true := by
  rw [firstN_all (fun i _ hi => h i (by omega))]; rfl
theorem sameI_of {a b : Rw Int} (h : a.n = b.n) (hg : ∀ i, i < a.n → a.get i = b.get i) : sameI a b = true := by
  unfold sameI
  rw [firstN_same (fun i hi => by simp only [neI, hg i hi, bne_self_eq_false]), h]; simp
theorem sameI_iff {a b : Rw Int} (h : sameI a b = true) : a.n = b.n ∧ ∀ i, i < a.n → a.get i = b.get i := by
  unfold sameI at h
  simp only [Bool.and_eq_true, beq_iff_eq, Option.isNone_iff_eq_none] at h
  refine ⟨by omega, fun i hi => ?_⟩
  have := firstN_none h.2 i (Nat.zero_le _) (by omega)
  simpa [neI] using this
end Go.Proofs.Ytdaanchagjamfaa
