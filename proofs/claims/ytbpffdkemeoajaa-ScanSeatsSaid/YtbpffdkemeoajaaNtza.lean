/- The reference: SeatsOf, its contract (layer 7). -/
import Derived.Test.YtbpffdkemeoajaaNtz
import Derived.Test.YtbpffdkemeoajaaNts
import Derived.Test.YtbpffdkemeoajaaNtp
import Derived.Test.YtbpffdkemeoajaaNtw
namespace Go.SX
open Go Go.RowKit Go.Proofs.Ytbpffdkemeoajaa
theorem rturn_den {Q : AV → List (Nat × Blk) → Prop} {q0 q1 q2 q3 a b : Bool} {L0 L1 L2 L3 K : Tree} (ha : a = true) (hb : b = true)
    (hno : (q0 && (q1 && (q2 && q3))) = false → L0.den Q ∧ L1.den Q ∧ L2.den Q ∧ L3.den Q) (hyes : (q0 && (q1 && (q2 && q3))) = true → K.den Q) :
    (Tree.need a (.need b (.need true (.br (!q0) L0 (.need a (.need b (.need true (.br (!q1) L1 (.need a (.need b (.need true (.br (!q2) L2 (.need a (.need b (.need true (.br (!q3) L3 K)))))))))))))))).den Q := by
  subst ha hb
  refine den_need rfl (den_need rfl (den_need rfl (den_br (fun h => ?_) (fun h => ?_))))
  · exact (hno (by cases q0 <;> simp_all)).1
  refine den_need rfl (den_need rfl (den_need rfl (den_br (fun h1 => ?_) (fun h1 => ?_))))
  · exact (hno (by cases q0 <;> cases q1 <;> simp_all)).2.1
  refine den_need rfl (den_need rfl (den_need rfl (den_br (fun h2 => ?_) (fun h2 => ?_))))
  · exact (hno (by cases q0 <;> cases q1 <;> cases q2 <;> simp_all)).2.2.1
  refine den_need rfl (den_need rfl (den_need rfl (den_br (fun h3 => ?_) (fun h3 => ?_))))
  · exact (hno (by cases q0 <;> cases q1 <;> cases q2 <;> cases q3 <;> simp_all)).2.2.2
  · exact hyes (by cases q0 <;> cases q1 <;> cases q2 <;> cases q3 <;> simp_all)
end Go.SX
namespace Go.Proofs.Ytbpffdkemeoajaa
open Go.SX
set_option maxRecDepth 100000 in
theorem rtu_round (d : Puz) (s : Piece) (o : List Seat) (c : Nat) (hc : c < d.ps.n) (ho : o.length ≤ 4000) : RoundW (fun t => rtuJ d s (turnL d s o c t) c t) (fun t => t ≤ 4) (fun t => 4 - t) (fun _ e J => e = .exit 2 ∧ J = rtuE d s (turnL d s o c 4) c) 8 rtuLs [] (mkE Try.prog tab_rck) (fun _ => hnd (mkE Try.prog tab_rck) 6) (loopIn (bodyK Try.f44 0)) := by
  refine ⟨fun t g ht => ?_⟩
  have ha : (decide ((0 : Int) ≤ (c : Int) ∧ (c : Int) < (d.ps.n : Int)) && decide (d.ps.n ≤ d.ps.n)) = true := by simp; omega
  have hb : decide (c < d.ps.n) = true := by simp; omega
  have hlen := turnL_len d s o c t
  rcases (by have := ht; omega : t = 0 ∨ t = 1 ∨ t = 2 ∨ t = 3 ∨ t = 4) with rfl | rfl | rfl | rfl | rfl
  · refine denOk_of (rse_0 d s _ c g) (rturn_den ha hb (fun hq => ?_) (fun hq => ?_))
    · have hq : seatQ d s c 0 = false := hq
      have e : turnL d s o c 1 = turnL d s o c 0 := by simp only [turnL, hq, addS]
      refine ⟨?_, ?_, ?_, ?_⟩ <;> (
        refine ⟨1, by decide, by decide, fun _ _ h => h, rfl, rfl, _, rtu_f0 _ _ _ _ _, ?_⟩
        rw [e]
        repeat' first | exact trivial | with_reducible rfl | exact Nat.le_refl _ | exact RowsEq.refl _ _ _ | refine And.intro ?_ ?_)
    · have hq : seatQ d s c 0 = true := hq
      have e : turnL d s o c 1 = turnL d s o c 0 ++ [⟨(c : Nat), (0 : Nat)⟩] := by simp only [turnL, hq, addS]
      refine den_need (by simp; omega) ⟨1, by decide, by decide, fun _ _ h => h, rfl, rfl, _, rtu_y0 _ _ _ _ _, ?_⟩
      rw [e]
      repeat' first | exact trivial | with_reducible rfl | exact Nat.le_refl _ | exact RowsEq.refl _ _ _ | refine And.intro ?_ ?_
      · simp
      · simp
      · exact rows_snocS _ c 0
  · refine denOk_of (rse_1 d s _ c g) (rturn_den ha hb (fun hq => ?_) (fun hq => ?_))
    · have hq : seatQ d s c 1 = false := hq
      have e : turnL d s o c 2 = turnL d s o c 1 := by simp only [turnL, hq, addS]
      refine ⟨?_, ?_, ?_, ?_⟩ <;> (
        refine ⟨2, by decide, by decide, fun _ _ h => h, rfl, rfl, _, rtu_f1 _ _ _ _ _, ?_⟩
        rw [e]
        repeat' first | exact trivial | with_reducible rfl | exact Nat.le_refl _ | exact RowsEq.refl _ _ _ | refine And.intro ?_ ?_)
    · have hq : seatQ d s c 1 = true := hq
      have e : turnL d s o c 2 = turnL d s o c 1 ++ [⟨(c : Nat), (1 : Nat)⟩] := by simp only [turnL, hq, addS]
      refine den_need (by simp; omega) ⟨2, by decide, by decide, fun _ _ h => h, rfl, rfl, _, rtu_y1 _ _ _ _ _, ?_⟩
      rw [e]
      repeat' first | exact trivial | with_reducible rfl | exact Nat.le_refl _ | exact RowsEq.refl _ _ _ | refine And.intro ?_ ?_
      · simp
      · simp
      · exact rows_snocS _ c 1
  · refine denOk_of (rse_2 d s _ c g) (rturn_den ha hb (fun hq => ?_) (fun hq => ?_))
    · have hq : seatQ d s c 2 = false := hq
      have e : turnL d s o c 3 = turnL d s o c 2 := by simp only [turnL, hq, addS]
      refine ⟨?_, ?_, ?_, ?_⟩ <;> (
        refine ⟨3, by decide, by decide, fun _ _ h => h, rfl, rfl, _, rtu_f2 _ _ _ _ _, ?_⟩
        rw [e]
        repeat' first | exact trivial | with_reducible rfl | exact Nat.le_refl _ | exact RowsEq.refl _ _ _ | refine And.intro ?_ ?_)
    · have hq : seatQ d s c 2 = true := hq
      have e : turnL d s o c 3 = turnL d s o c 2 ++ [⟨(c : Nat), (2 : Nat)⟩] := by simp only [turnL, hq, addS]
      refine den_need (by simp; omega) ⟨3, by decide, by decide, fun _ _ h => h, rfl, rfl, _, rtu_y2 _ _ _ _ _, ?_⟩
      rw [e]
      repeat' first | exact trivial | with_reducible rfl | exact Nat.le_refl _ | exact RowsEq.refl _ _ _ | refine And.intro ?_ ?_
      · simp
      · simp
      · exact rows_snocS _ c 2
  · refine denOk_of (rse_3 d s _ c g) (rturn_den ha hb (fun hq => ?_) (fun hq => ?_))
    · have hq : seatQ d s c 3 = false := hq
      have e : turnL d s o c 4 = turnL d s o c 3 := by simp only [turnL, hq, addS]
      refine ⟨?_, ?_, ?_, ?_⟩ <;> (
        refine ⟨4, by decide, by decide, fun _ _ h => h, rfl, rfl, _, rtu_f3 _ _ _ _ _, ?_⟩
        rw [e]
        repeat' first | exact trivial | with_reducible rfl | exact Nat.le_refl _ | exact RowsEq.refl _ _ _ | refine And.intro ?_ ?_)
    · have hq : seatQ d s c 3 = true := hq
      have e : turnL d s o c 4 = turnL d s o c 3 ++ [⟨(c : Nat), (3 : Nat)⟩] := by simp only [turnL, hq, addS]
      refine den_need (by simp; omega) ⟨4, by decide, by decide, fun _ _ h => h, rfl, rfl, _, rtu_y3 _ _ _ _ _, ?_⟩
      rw [e]
      repeat' first | exact trivial | with_reducible rfl | exact Nat.le_refl _ | exact RowsEq.refl _ _ _ | refine And.intro ?_ ?_
      · simp
      · simp
      · exact rows_snocS _ c 3
  · refine denOk_of (rse_4 d s _ c g) ?_
    refine ⟨_, ⟨rfl, rfl⟩, rfl, rfl, _, rtu_e _ _ _ _ _, ?_⟩
    repeat' first | exact trivial | with_reducible rfl | exact Nat.le_refl _ | exact RowsEq.refl _ _ _ | refine And.intro ?_ ?_
set_option maxRecDepth 100000 in
theorem rse_in (d : Puz) (s : Piece) (o : List Seat) (c : Nat) (ho : o.length ≤ 4000) (G : Ctx) (hrd : G.rd = none) (hG : G.n = 8) : HndOk (mkE Try.prog tab_rck) G { hnd (mkE Try.prog tab_rck) 1 with loop := fun _ => askH (c < d.ps.n) (loopT 8 [] (rtuJ d s o c 0) [(True, .exit 2, rtuE d s (turnL d s o c 4) c)]) } (bodyK Try.f44 0) := by
  refine one_loop (body := loopIn (bodyK Try.f44 0)) (mkE_ok tab_rck_ok) hrd (by kernel_rfl) ?_
  refine askH_ok fun hc => ?_
  refine loopT_ok (n0 := 8) (mkE_ok tab_rck_ok) (by omega) (fun t ht => hnd_hndOk (mkE_ok tab_rck_ok) 6 G _ hrd) (fun t ht => (by decide : 8 ≤ 40)) ?_ (rtu_round d s o c hc ho) (s0 := 0) (Nat.zero_le _) ?_
  · rintro t e J ⟨_, rfl⟩; exact (by decide : 8 ≤ 40)
  · rintro e J ⟨rfl, rfl⟩
    exact ⟨_, List.mem_cons_self, trivial, rfl, rfl⟩
set_option maxRecDepth 100000 in
theorem rse_round (d : Puz) (s : Piece) (hn : d.ps.n ≤ 900) : RoundW (fun c => rseJ d s (seatL d s c) c) (fun c => c ≤ d.ps.n) (fun c => d.ps.n - c) (fun _ e J => e = .exit 0 ∧ J = rseE (seatL d s d.ps.n)) 8 rseLs [] (mkE Try.prog tab_rck) (fun c => { hnd (mkE Try.prog tab_rck) 1 with loop := fun _ => askH (c < d.ps.n) (loopT 8 [] (rtuJ d s (seatL d s c) c 0) [(True, .exit 2, rtuE d s (turnL d s (seatL d s c) c 4) c)]) }) (bodyK Try.f44 0) := by
  refine ⟨fun c g hc => denOk_of (rse_r d s _ _ c g) ?_⟩
  refine den_br (fun h => ?_) (fun h => ?_)
  · have h : c < d.ps.n := by have := of_decide_eq_true h; omega
    have hw : IntKind.i64.wrap ((c : Int) + 1) = ((c + 1 : Nat) : Int) := (w64 (by omega) (by omega)).trans (by omega)
    refine den_ask h ?_
    repeat' first | refine den_ask (show _ = _ by with_reducible rfl) ?_ | refine den_ask (show _ ≤ _ from Nat.le_refl _) ?_ | refine den_ask (show RowsEq _ _ _ _ from RowsEq.refl _ _ _) ?_
    refine den_asm fun _ => den_all fun g => ?_
    refine ⟨c + 1, h, by show d.ps.n - (c + 1) < d.ps.n - c; omega, fun _ _ h => h, rfl, rfl, _, rse_go d s _ (seatL d s (c + 1)) c (c + 1), ?_⟩
    repeat' first | exact trivial | with_reducible rfl | exact Nat.le_refl _ | exact RowsEq.refl _ _ _ | exact hw | refine And.intro ?_ ?_
    rfl
  · have : c = d.ps.n := by have := of_decide_eq_false h; omega
    subst this
    refine ⟨_, ⟨rfl, rfl⟩, rfl, rfl, _, rse_end _ _, ?_⟩
    repeat' first | exact trivial | with_reducible rfl | exact Nat.le_refl _ | exact RowsEq.refl _ _ _ | refine And.intro ?_ ?_
set_option maxRecDepth 100000 in
theorem rse_hnd (d : Puz) (s : Piece) (hn : d.ps.n ≤ 900) (G : Ctx) (hrd : G.rd = none) (hG : G.n = 8) : HndOk (mkE Try.prog tab_rck) G { hnd (mkE Try.prog tab_rck) 1 with loop := fun _ => loopT 8 [] (rseJ d s [] (0 : Nat)) [(True, .exit 0, rseE (seatL d s d.ps.n))] } (bodyOf Try.f44) := by
  refine one_loop (body := bodyK Try.f44 0) (mkE_ok tab_rck_ok) hrd (by kernel_rfl) ?_
  refine loopT_ok (n0 := 8) (mkE_ok tab_rck_ok) (by omega) (fun c hc => rse_in d s (seatL d s c) c (by have := seatL_len d s c; have : c ≤ d.ps.n := hc; omega) G hrd hG) (fun c hc => (by decide : 8 ≤ 32)) ?_ (rse_round d s hn) (s0 := 0) (Nat.zero_le _) ?_
  · rintro t e J ⟨_, rfl⟩; exact (by decide : 8 ≤ 32)
  · rintro e J ⟨rfl, rfl⟩
    exact ⟨_, List.mem_cons_self, trivial, rfl, rfl⟩
def rseatsF : WF (Puz × Piece × Unit) := fun | (d, (s, _)) => (decide (d.ps.n ≤ 900), .slz 0 0 (seatL d s d.ps.n).length (.of 0), [newL 56 0 (seatL d s d.ps.n) ⟨0, 0⟩])
def rseatsC : FC := wFC rseatsF
set_option maxRecDepth 100000 in
theorem rseats_t (d : Puz) (s : Piece) : execW (mkE Try.prog tab_rck) { hnd (mkE Try.prog tab_rck) 1 with loop := fun _ => loopT 8 [] (rseJ d s [] (0 : Nat)) [(True, .exit 0, rseE (seatL d s d.ps.n))] } Try.f44 (ArgsE.vals 0 ((d, s, ()) : Puz × Piece × Unit)) (ArgsE.blks 0 ((d, s, ()) : Puz × Piece × Unit)) 8 =
    Tree.ask ((0 : Nat) = (0 : Nat)) (Tree.ask ((0 : Nat) = (0 : Nat)) (Tree.ask ((0 : Nat) = (0 : Nat)) (Tree.ask ((0 : Nat) = (0 : Nat)) (Tree.ask ((0 : Nat) = (0 : Nat)) (Tree.ask
    ((0 : Int) = (0 : Int)) (Tree.ask (d.play.length = d.play.length) (Tree.ask (d.play.slack = d.play.slack) (Tree.ask (d.play.loose = d.play.loose) (Tree.ask (d.play.damp.lo =
    d.play.damp.lo) (Tree.ask (d.play.damp.hi = d.play.damp.hi) (Tree.ask (d.wide = d.wide) (Tree.ask (d.high = d.high) (Tree.ask (d.turn = d.turn) (Tree.ask ((0 : Nat) = (0 : Nat))
    (Tree.ask (d.ps.n = d.ps.n) (Tree.ask (Cap.of (0 : Nat) = Cap.of (0 : Nat)) (Tree.ask (s.up.kind = s.up.kind) (Tree.ask (s.up.at_.lo = s.up.at_.lo) (Tree.ask (s.up.at_.hi =
    s.up.at_.hi) (Tree.ask (s.up.wide.lo = s.up.wide.lo) (Tree.ask (s.up.wide.hi = s.up.wide.hi) (Tree.ask (s.up.deep.lo = s.up.deep.lo) (Tree.ask (s.up.deep.hi = s.up.deep.hi)
    (Tree.ask (s.right.kind = s.right.kind) (Tree.ask (s.right.at_.lo = s.right.at_.lo) (Tree.ask (s.right.at_.hi = s.right.at_.hi) (Tree.ask (s.right.wide.lo = s.right.wide.lo)
    (Tree.ask (s.right.wide.hi = s.right.wide.hi) (Tree.ask (s.right.deep.lo = s.right.deep.lo) (Tree.ask (s.right.deep.hi = s.right.deep.hi) (Tree.ask (s.down.kind = s.down.kind)
    (Tree.ask (s.down.at_.lo = s.down.at_.lo) (Tree.ask (s.down.at_.hi = s.down.at_.hi) (Tree.ask (s.down.wide.lo = s.down.wide.lo) (Tree.ask (s.down.wide.hi = s.down.wide.hi) (Tree.ask
    (s.down.deep.lo = s.down.deep.lo) (Tree.ask (s.down.deep.hi = s.down.deep.hi) (Tree.ask (s.left.kind = s.left.kind) (Tree.ask (s.left.at_.lo = s.left.at_.lo) (Tree.ask
    (s.left.at_.hi = s.left.at_.hi) (Tree.ask (s.left.wide.lo = s.left.wide.lo) (Tree.ask (s.left.wide.hi = s.left.wide.hi) (Tree.ask (s.left.deep.lo = s.left.deep.lo) (Tree.ask
    (s.left.deep.hi = s.left.deep.hi) (Tree.ask ((0 : Nat) = (0 : Nat)) (Tree.ask (d.ps.n ≤ d.ps.n) (Tree.ask (RowsEq (28 : Nat) d.ps.n (fun i => RowT.enc (d.ps.get i)) fun i =>
    RowT.enc (d.ps.get i)) (Tree.asm (True) (Tree.all (fun (g0 : Nat → Value) => Tree.leaf (AV.slz (24 : Nat) (0 : Nat) (seatL d s d.ps.n).length (Cap.of (0 : Nat))) ([((24 : Nat),
    Blk.rowz true (56 : Nat) [CK.int IntKind.i64, CK.int IntKind.i64] (seatL d s d.ps.n).length fun i => RowT.enc ((seatL d s d.ps.n).getD i (Seat.mk (0 : Int) (0 :
    Int))))]))))))))))))))))))))))))))))))))))))))))))))))))))) := by kernel_rfl
theorem rseats_hs : WHnd (mkE Try.prog tab_rck) (bodyOf Try.f44) 8 rseatsF (fun x_ => { hnd (mkE Try.prog tab_rck) 1 with loop := fun _ => loopT 8 [] (rseJ x_.1 x_.2.1 [] (0 : Nat)) [(True, .exit 0, rseE (seatL x_.1 x_.2.1 x_.1.ps.n))] }) := by
  refine ⟨?_⟩
  rintro ⟨d, ⟨s, ⟨⟩⟩⟩ hp G h1 h2
  exact rse_hnd d s (of_decide_eq_true hp) G h1 h2
theorem rseats_run : WRun (mkE Try.prog tab_rck) Try.f44 8 rseatsF (fun x_ => { hnd (mkE Try.prog tab_rck) 1 with loop := fun _ => loopT 8 [] (rseJ x_.1 x_.2.1 [] (0 : Nat)) [(True, .exit 0, rseE (seatL x_.1 x_.2.1 x_.1.ps.n))] }) := by
  refine ⟨?_⟩
  rintro ⟨d, ⟨s, ⟨⟩⟩⟩ hp
  refine ⟨⟨rfl, by simp [rseatsF, newL, Blk.own, Blk.all], rfl⟩, ⟨?_⟩⟩
  rw [rseats_t d s]
  simp only [rseatsF] at hp
  repeat' first | refine den_ask (show _ = _ by with_reducible rfl) ?_ | refine den_ask (show _ ≤ _ from Nat.le_refl _) ?_ | refine den_ask (show RowsEq _ _ _ _ from RowsEq.refl _ _ _) ?_
  refine den_asm fun _ => den_all fun g => ⟨rfl, rfl, _, rse_res _, ?_⟩
  repeat' first | exact trivial | with_reducible rfl | exact Nat.le_refl _ | exact RowsEq.refl _ _ _ | refine And.intro ?_ ?_
theorem rseats_s : FSound Try.prog 44 rseatsC :=
  fn_W (mkE_ok tab_rck_ok) Try.func44 (by kernel_rfl) (by kernel_rfl) (by decide) rseats_hs rseats_run
def tab_rseats : Tab := addF tab_rck 44 rseatsC
theorem tab_rseats_ok : TabOk tab_rseats := tab_rck_ok.add rseats_s
end Go.Proofs.Ytbpffdkemeoajaa
/- The reference: Seats, and are two lists of seats the same? (layer 7) -/
namespace Go.Proofs.Ytbpffdkemeoajaa
open Go.SX
theorem stsO_eq (d : Puz) (s : Piece) : stsO d s = (d.ok && s.ok) := by
  unfold stsO
  cases h : d.ok with
  | false => rfl
  | true =>
    have hp : d.play.ok = true := by
      have := okR_eq d
      rw [h] at this
      simp only [okR, Bool.and_eq_true] at this
      exact this.1
    rw [okPs_eq _ _ (Nat.le_refl 1), hp]
    simp only [firstN, badR]
    cases s.ok <;> rfl
set_option maxRecDepth 100000 in
theorem rsts_no (e f : Int) (o : List Seat) : subE 8 [.tup [.nils, .int true .i64 e]] [] (resJ 8 (.tup [.slz 0 0 o.length (.of 0), .int false .i64 f]) [newL 56 0 o ⟨0, 0⟩]) = (
    some [o.length = (0 : Nat), e = f, o.length = (0 : Nat)]) := by kernel_rfl
set_option maxRecDepth 100000 in
theorem rsts_yes (n : Nat) (g : Nat → Nat → Int) (e f : Int) (o : List Seat) : subE 8 [.tup [.slz 120 0 n (.of 0), .int true .i64 e]] [(120, .rowz true 56 [.int .i64, .int .i64] n g)] (resJ 8 (.tup [.slz 0 0 o.length (.of 0), .int false .i64 f]) [newL 56 0 o ⟨0, 0⟩]) = (
    some [(0 : Nat) = (0 : Nat), n = o.length, Cap.of (0 : Nat) = Cap.of (0 : Nat), e = f, o.length ≤ n, RowsEq (2 : Nat) o.length g fun i => RowT.enc (o.getD i (Seat.mk (0 : Int) (0 :
    Int)))]) := by kernel_rfl
def rstsF : WF (Puz × Piece × Unit) := fun | (d, (s, _)) => (decide (d.ps.n ≤ 900), .tup [.slz 0 0 (stsL d s).length (.of 0), .int false .i64 (stsE d s)], [newL 56 0 (stsL d s) ⟨0, 0⟩])
def rstsC : FC := wFC rstsF
set_option maxRecDepth 100000 in
theorem rsts_t (d : Puz) (s : Piece) : execW (mkE Try.prog tab_rseats) (hnd (mkE Try.prog tab_rseats) 0) Try.f16 (ArgsE.vals 0 ((d, s, ()) : Puz × Piece × Unit)) (ArgsE.blks 0 ((d, s, ()) : Puz × Piece × Unit)) 8 =
    Tree.need (decide (d.ps.n ≤ d.ps.n) && true && decide (d.ps.n ≤ (1000 : Nat))) (Tree.br (!d.ok) (Tree.leaf (AV.tup [AV.nils, AV.int true IntKind.i64 (1 : Int)]) ([])) (Tree.need
    (true) (Tree.br (!s.ok) (Tree.leaf (AV.tup [AV.nils, AV.int true IntKind.i64 (1 : Int)]) ([])) (Tree.need (decide (d.ps.n ≤ d.ps.n) && (true && true) && decide (d.ps.n ≤ (900 :
    Nat))) (Tree.leaf (AV.tup [AV.slz (120 : Nat) (0 : Nat) (seatL d s d.ps.n).length (Cap.of (0 : Nat)), AV.int true IntKind.i64 (0 : Int)]) ([((120 : Nat), Blk.rowz true (56 : Nat)
    [CK.int IntKind.i64, CK.int IntKind.i64] (seatL d s d.ps.n).length fun i => RowT.enc ((seatL d s d.ps.n).getD i (Seat.mk (0 : Int) (0 : Int))))])))))) := by kernel_rfl
theorem rsts_hs : WHnd (mkE Try.prog tab_rseats) (bodyOf Try.f16) 8 rstsF (fun x_ => (hnd (mkE Try.prog tab_rseats) 0)) := by
  refine ⟨?_⟩
  rintro ⟨d, ⟨s, ⟨⟩⟩⟩ hp G h1 h2
  exact hnd_hndOk (mkE_ok tab_rseats_ok) 0 G _ h1
theorem rsts_run : WRun (mkE Try.prog tab_rseats) Try.f16 8 rstsF (fun x_ => (hnd (mkE Try.prog tab_rseats) 0)) := by
  refine ⟨?_⟩
  rintro ⟨d, ⟨s, ⟨⟩⟩⟩ hp
  refine ⟨⟨rfl, by simp [rstsF, newL, Blk.own, Blk.all], rfl⟩, ⟨?_⟩⟩
  rw [rsts_t d s]
  simp only [rstsF] at hp
  have hn : d.ps.n ≤ 900 := of_decide_eq_true hp
  have no : stsO d s = false → (Tree.leaf (AV.tup [AV.nils, AV.int true IntKind.i64 1]) []).den (EndOk 8 (rstsF (d, s, ())).2.1 (rstsF (d, s, ())).2.2) := by
    intro h
    have h1 : stsL d s = [] := by simp only [stsL, h]
    have h2 : stsE d s = 1 := by simp only [stsE, h]
    refine ⟨rfl, rfl, _, rsts_no _ _ _, ?_⟩
    rw [h1, h2]
    repeat' first | exact trivial | with_reducible rfl | exact Nat.le_refl _ | exact RowsEq.refl _ _ _ | refine And.intro ?_ ?_
    all_goals rfl
  refine den_need (by simp; omega) (den_br (fun h => no ?_) (fun h => den_need rfl (den_br (fun h2 => no ?_) (fun h2 => den_need (by simp; omega) ?_))))
  · have h : d.ok = false := by simpa using h
    simp only [stsO_eq, h, Bool.false_and]
  · have h2 : s.ok = false := by simpa using h2
    simp only [stsO_eq, h2, Bool.and_false]
  · have h : d.ok = true := by simpa using h
    have h2 : s.ok = true := by simpa using h2
    have hO : stsO d s = true := by simp only [stsO_eq, h, h2, Bool.and_self]
    have h3 : stsL d s = seatL d s d.ps.n := by simp only [stsL, hO]
    have h4 : stsE d s = 0 := by simp only [stsE, hO]
    refine ⟨rfl, rfl, _, rsts_yes _ _ _ _ _, ?_⟩
    rw [h3, h4]
    repeat' first | exact trivial | with_reducible rfl | exact Nat.le_refl _ | exact RowsEq.refl _ _ _ | refine And.intro ?_ ?_
theorem rsts_s : FSound Try.prog 16 rstsC :=
  fn_W (mkE_ok tab_rseats_ok) Try.func16 (by kernel_rfl) (by kernel_rfl) (by decide) rsts_hs rsts_run
def tab_rsts : Tab := addF tab_rseats 16 rstsC
theorem tab_rsts_ok : TabOk tab_rsts := tab_rseats_ok.add rsts_s
def ssQ (a b : Rw Seat) (i : Nat) : Bool := !((a.get i).cell == (b.get i).cell && ((a.get i).turn == (b.get i).turn && true))
def sameS (a b : Rw Seat) : Bool := ((a.n : Int) == b.n) && (firstN (ssQ a b) a.n 0).isNone
def ssJ (a b : Rw Seat) (k : Nat) : JSt := ⟨26, [(0, .slz 0 0 a.n (.of 0)), (1, .slz 1 0 b.n (.of 0)), (5, .int false .i64 k)], ArgE.blk 0 a ++ ArgE.blk 1 b, 8⟩
def ssLs : Ex → List Nat
  | .normal => [0, 1, 5]
  | .exit _ => []
  | .ret => [4]
set_option maxRecDepth 100000 in
theorem ss_r (a b : Rw Seat) (k : Nat) (g : Nat → Value) : exec (mkE Try.prog tab_rsts) (hnd (mkE Try.prog tab_rsts) 0) (bodyK Try.f17 0) (JSt.inst (ssJ a b k) g) (leafW [] ssLs) =
    Tree.br (decide ((↑k : Int) < (↑a.n : Int))) (Tree.need (decide ((0 : Int) ≤ (↑k : Int) ∧ (↑k : Int) < (↑a.n : Int)) && decide (a.n ≤ a.n)) (Tree.need (decide (k < a.n)) (Tree.need
    (decide ((0 : Int) ≤ (↑k : Int) ∧ (↑k : Int) < (↑b.n : Int)) && decide (b.n ≤ b.n)) (Tree.need (decide (k < b.n)) (Tree.br (!((a.get k).cell == (b.get k).cell && ((a.get k).turn ==
    (b.get k).turn && true))) (Tree.leaf (AV.tup [AV.nili, AV.ptr (26 : Nat) (0 : Nat) (0 : Nat), AV.bool true false]) ([])) (Tree.leaf (AV.tup [AV.nilp, AV.ptr (26 : Nat) (0 : Nat) (0
    : Nat), AV.slz (0 : Nat) (0 : Nat) a.n (Cap.of (0 : Nat)), AV.slz (1 : Nat) (0 : Nat) b.n (Cap.of (0 : Nat)), AV.int false IntKind.i64 (IntKind.i64.wrap ((↑k : Int) + (1 : Int)))])
    ([((0 : Nat), Blk.frz [CK.int IntKind.i64, CK.int IntKind.i64] a.n fun i => RowT.enc (a.get i)), ((1 : Nat), Blk.frz [CK.int IntKind.i64, CK.int IntKind.i64] b.n fun i => RowT.enc
    (b.get i))]))))))) (Tree.leaf (AV.tup [AV.ptr (0 : Nat) (0 : Nat) (0 : Nat), AV.ptr (26 : Nat) (0 : Nat) (0 : Nat)]) ([])) := by kernel_rfl
def ssRet : JSt := ⟨26, [(4, .bool false false)], [], 8⟩
def ssEnd : JSt := ⟨26, [], [], 8⟩
def ssR (a b : Rw Seat) (k : Nat) (e : Ex) (J : JSt) : Prop := (e = .ret ∧ (firstN (ssQ a b) (a.n - k) k).isNone = false ∧ J = ssRet) ∨ (e = .exit 0 ∧ (firstN (ssQ a b) (a.n - k) k).isNone = true ∧ J = ssEnd)
set_option maxRecDepth 100000 in
theorem ss_ret  : subE 8 [AV.bool true false] ([]) ssRet = (
    some [false = false]) := by kernel_rfl
set_option maxRecDepth 100000 in
theorem ss_go (a b : Rw Seat) (k k' : Nat) : subE 8 [AV.slz (0 : Nat) (0 : Nat) a.n (Cap.of (0 : Nat)), AV.slz (1 : Nat) (0 : Nat) b.n (Cap.of (0 : Nat)), AV.int false IntKind.i64 (IntKind.i64.wrap ((↑k : Int) + (1 : Int)))] ([((0 : Nat), Blk.frz [CK.int IntKind.i64, CK.int IntKind.i64] a.n fun i => RowT.enc (a.get i)), ((1 : Nat), Blk.frz [CK.int IntKind.i64, CK.int IntKind.i64] b.n fun i => RowT.enc (b.get i))]) (ssJ a b k') = (
    some [(0 : Nat) = (0 : Nat), a.n = a.n, Cap.of (0 : Nat) = Cap.of (0 : Nat), (0 : Nat) = (0 : Nat), b.n = b.n, Cap.of (0 : Nat) = Cap.of (0 : Nat), IntKind.i64.wrap ((↑k : Int) + (1
    : Int)) = (↑k' : Int), a.n ≤ a.n, RowsEq (2 : Nat) a.n (fun i => RowT.enc (a.get i)) fun i => RowT.enc (a.get i), b.n ≤ b.n, RowsEq (2 : Nat) b.n (fun i => RowT.enc (b.get i)) fun i
    => RowT.enc (b.get i)]) := by kernel_rfl
set_option maxRecDepth 100000 in
theorem ss_end  : subE 8 [] ([]) ssEnd = (
    some []) := by kernel_rfl
set_option maxRecDepth 100000 in
theorem ss_round (a b : Rw Seat) (hl : a.n = b.n ∧ a.n ≤ 4000) : RoundW (ssJ a b) (fun k => k ≤ a.n) (fun k => a.n - k) (ssR a b) 8 ssLs [] (mkE Try.prog tab_rsts) (fun _ => hnd (mkE Try.prog tab_rsts) 0) (bodyK Try.f17 0) := by
  obtain ⟨hab, hl⟩ := hl
  refine ⟨fun k g hk => ⟨den_of (ss_r a b k g) ?_⟩⟩
  refine den_br (fun h => ?_) (fun h => ?_)
  · have h : k < a.n := by have := of_decide_eq_true h; omega
    obtain ⟨m, hm⟩ : ∃ m, a.n - k = m + 1 := ⟨a.n - k - 1, by omega⟩
    have hm' : a.n - (k + 1) = m := by omega
    repeat' refine den_need (by simp; omega) ?_
    refine den_br (fun hb => ?_) (fun hb => ?_)
    · have hf : firstN (ssQ a b) (a.n - k) k = some k := by rw [hm, firstN]; unfold ssQ; rw [hb]
      exact ⟨_, .inl ⟨rfl, by rw [hf]; rfl, rfl⟩, rfl, rfl, _, ss_ret, ⟨rfl, trivial⟩⟩
    · have hf : firstN (ssQ a b) (a.n - k) k = firstN (ssQ a b) (a.n - (k + 1)) (k + 1) := by rw [hm, hm', firstN]; unfold ssQ; rw [hb]
      refine ⟨k + 1, by omega, by show a.n - (k + 1) < a.n - k; omega, fun e J h => by unfold ssR at h ⊢; rw [hf]; exact h, rfl, rfl, _, ss_go _ _ _ (k + 1), ?_⟩
      have hw : IntKind.i64.wrap ((k : Int) + 1) = ((k + 1 : Nat) : Int) := (w64 (by omega) (by omega)).trans (by omega)
      repeat' first | exact trivial | with_reducible rfl | exact Nat.le_refl _ | exact RowsEq.refl _ _ _ | exact hw | refine And.intro ?_ ?_
  · have h : a.n ≤ k := by have := of_decide_eq_false h; omega
    have hf : firstN (ssQ a b) (a.n - k) k = none := by rw [show a.n - k = 0 by omega]; rfl
    exact ⟨_, .inr ⟨rfl, by rw [hf]; rfl, rfl⟩, rfl, rfl, _, ss_end, trivial⟩
def ssX (a b : Rw Seat) : List (Prop × Ex × JSt) := [((firstN (ssQ a b) a.n 0).isNone = false, .ret, ssRet), ((firstN (ssQ a b) a.n 0).isNone = true, .exit 0, ssEnd)]
abbrev ssH (P : Program) (a b : Rw Seat) : Hnd := { hnd (mkE P tab_rsts) 1 with loop := fun _ => askH (a.n = b.n ∧ a.n ≤ 4000) (loopT 8 [] (ssJ a b 0) (ssX a b)) }
theorem ss_hnd (a b : Rw Seat) (G : Ctx) (hrd : G.rd = none) (hG : G.n = 8) : HndOk (mkE Try.prog tab_rsts) G (ssH Try.prog a b) (bodyOf Try.f17) := by
  refine one_loop (body := bodyK Try.f17 0) (mkE_ok tab_rsts_ok) hrd (by kernel_rfl) ?_
  refine askH_ok fun hl => ?_
  refine loopT_ok (n0 := 8) (mkE_ok tab_rsts_ok) (by omega) (fun s hs => hnd_hndOk (mkE_ok tab_rsts_ok) 0 G _ hrd) (fun s hs => Nat.le_refl _) ?_ (ss_round a b hl) (s0 := 0) (Nat.zero_le _) ?_
  · rintro s e J (⟨_, _, rfl⟩ | ⟨_, _, rfl⟩) <;> exact Nat.le_refl _
  · rintro e J (⟨rfl, h, rfl⟩ | ⟨rfl, h, rfl⟩)
    · exact ⟨_, List.mem_cons_self, h, rfl, rfl⟩
    · exact ⟨_, List.mem_cons_of_mem _ List.mem_cons_self, h, rfl, rfl⟩
def ssF : WF ((Rw Seat) × (Rw Seat) × Unit) := fun | (a, (b, _)) => (decide (a.n ≤ 4000 ∧ b.n ≤ 4000), .bool false (sameS a b), [])
def ssC : FC := wFC ssF
set_option maxRecDepth 100000 in
theorem ss_t (a : (Rw Seat)) (b : (Rw Seat)) : execW (mkE Try.prog tab_rsts) (ssH Try.prog a b) Try.f17 (ArgsE.vals 0 ((a, b, ()) : (Rw Seat) × (Rw Seat) × Unit)) (ArgsE.blks 0 ((a, b, ()) : (Rw Seat) × (Rw Seat) × Unit)) 8 =
    Tree.br ((↑a.n : Int) != (↑b.n : Int)) (Tree.leaf (AV.bool true false) ([])) (Tree.ask (a.n = b.n ∧ a.n ≤ (4000 : Nat)) (Tree.ask ((0 : Nat) = (0 : Nat)) (Tree.ask (a.n = a.n)
    (Tree.ask (Cap.of (0 : Nat) = Cap.of (0 : Nat)) (Tree.ask ((0 : Nat) = (0 : Nat)) (Tree.ask (b.n = b.n) (Tree.ask (Cap.of (0 : Nat) = Cap.of (0 : Nat)) (Tree.ask ((0 : Int) = (0 :
    Int)) (Tree.ask (a.n ≤ a.n) (Tree.ask (RowsEq (2 : Nat) a.n (fun i => RowT.enc (a.get i)) fun i => RowT.enc (a.get i)) (Tree.ask (b.n ≤ b.n) (Tree.ask (RowsEq (2 : Nat) b.n (fun i
    => RowT.enc (b.get i)) fun i => RowT.enc (b.get i)) (Tree.both (Tree.asm ((firstN (ssQ a b) a.n (0 : Nat)).isNone = false) (Tree.all (fun (g0 : Nat → Value) => Tree.leaf (AV.bool
    false false) ([])))) (Tree.asm ((firstN (ssQ a b) a.n (0 : Nat)).isNone = true) (Tree.all (fun (g1 : Nat → Value) => Tree.leaf (AV.bool true true) ([]))))))))))))))))) := by kernel_rfl
theorem ss_hs : WHnd (mkE Try.prog tab_rsts) (bodyOf Try.f17) 8 ssF (fun x_ => (ssH Try.prog x_.1 x_.2.1)) := by
  refine ⟨?_⟩
  rintro ⟨a, ⟨b, ⟨⟩⟩⟩ hp G h1 h2
  exact ss_hnd a b G h1 h2
theorem ss_run : WRun (mkE Try.prog tab_rsts) Try.f17 8 ssF (fun x_ => (ssH Try.prog x_.1 x_.2.1)) := by
  refine ⟨?_⟩
  rintro ⟨a, ⟨b, ⟨⟩⟩⟩ hp
  refine ⟨⟨rfl, by simp [ssF], rfl⟩, ⟨?_⟩⟩
  rw [ss_t a b]
  simp only [ssF] at hp
  have hp := of_decide_eq_true hp
  refine den_br (fun h => endOk_same ?_ rfl) (fun h => ?_)
  · have : ((a.n : Int) == b.n) = false := by simpa using h
    show false = sameS a b
    simp only [sameS, this]; rfl
  · have hab : a.n = b.n := by simp only [bne_eq_false_iff_eq] at h; omega
    have e : ((a.n : Int) == b.n) = true := by rw [hab]; simp
    refine den_ask ⟨hab, hp.1⟩ ?_
    repeat' first | refine den_ask (show _ = _ by with_reducible rfl) ?_ | refine den_ask (show _ ≤ _ from Nat.le_refl _) ?_ | refine den_ask (show RowsEq _ _ _ _ from RowsEq.refl _ _ _) ?_
    refine den_both (den_asm fun h => den_all fun g => ?_) (den_asm fun h => den_all fun g => ?_)
    · exact endOk_same (show _ = sameS a b by simp only [sameS, e, h]; rfl) rfl
    · exact endOk_same (show _ = sameS a b by simp only [sameS, e, h]; rfl) rfl
theorem ss_s : FSound Try.prog 17 ssC :=
  fn_W (mkE_ok tab_rsts_ok) Try.func17 (by kernel_rfl) (by kernel_rfl) (by decide) ss_hs ss_run
def tab_ss : Tab := addF tab_rsts 17 ssC
theorem tab_ss_ok : TabOk tab_ss := tab_rsts_ok.add ss_s
theorem firstN_same {p : Nat → Bool} {n : Nat} (h : ∀ i, i < n → p i = false) : (firstN p n 0).isNone = true := by
  rw [firstN_all (fun i _ hi => h i (by omega))]; rfl
theorem sameS_self (a : Rw Seat) : sameS a a = true := by
  unfold sameS
  rw [firstN_same (fun i _ => by simp only [ssQ, beq_self_eq_true, Bool.and_self, Bool.not_true])]; simp
theorem sameS_of {a b : Rw Seat} (h : a.n = b.n) (hg : ∀ i, i < a.n → a.get i = b.get i) : sameS a b = true := by
  unfold sameS
  rw [firstN_same (fun i hi => by simp only [ssQ, hg i hi, beq_self_eq_true, Bool.and_self, Bool.not_true]), h]; simp
end Go.Proofs.Ytbpffdkemeoajaa
/- This seat's program, run whole: what is called within drawn regions comes as a contract that is worked out by running it. -/
namespace Go.SX
open Go Go.RowKit Go.Proofs.Ytbpffdkemeoajaa
/-- A function gone into that looks at no other blocks than its arguments name. -/
def callA (rw_ : Bool) (E : Env) (H : Hnd) (fn : Func) : FC := fun args nid _ => callC rw_ E H fn args nid (addTo (AV.idsFromL 0 args) [])
theorem callA_ok {E : Env} (hE : E.Sound) {H : Hnd} {rw_ : Bool} {f : FuncId} {fn : Func} {c : Code} (hf : E.P.funcs[f]? = some fn) (hb : fn.body = some c) (hgo : goFn E.P f = true) (hl : ∀ G, G.rd = none → HndOk E G H c) : FSound E.P f (callA rw_ E H fn) := by
  have h := callC_ok (rw_ := rw_) hE hf hb hgo hl
  exact ⟨h.1, fun args nid all r w lk blks eff hH ha hv he hp => h.2 args nid (addTo (AV.idsFromL 0 args) []) r w lk blks eff hH ha hv he hp⟩
/-- What comes out of it is known (in closed runs). -/
def knowFC (fc : FC) : FC := fun args nid _ => ((fc args nid (addTo (AV.idsFromL 0 args) [])).1, fun blks => match (fc args nid (addTo (AV.idsFromL 0 args) [])).2 blks with
  | some e => some ⟨true, e.pre, e.val.setK true, e.upd⟩
  | none => none)
theorem knowFC_ok {P : Program} {f : FuncId} {fc : FC} (h : FSound P f fc) : FSound P f (knowFC fc) := by
  refine ⟨h.1, fun args nid all r w lk blks eff hH ha hv he hp => ?_⟩
  simp only [knowFC] at hv he
  split at he <;> (try (cases he; done))
  rename_i e h0
  simp only [Option.some.injEq] at he; subst he
  refine (h.2 args nid (addTo (AV.idsFromL 0 args) []) r w lk blks e hH ha hv h0 hp).mono ?_
  rintro e' w' ⟨r', rfl, hpost⟩
  exact ⟨r', by simp only; rw [den_setK], hpost⟩
end Go.SX
namespace Go.Proofs.Ytbpffdkemeoajaa
open Go.SX
abbrev mkG (P : Program) (C : Tab) : Env := ⟨P, C, methA P, false, fun _ => false, false, true⟩
set_option maxRecDepth 100000 in
theorem mkG_ok {C : Tab} (hC : TabOk C) : (mkG Try.prog C).Sound := { c := hC, m := methA_ok Try.prog, mixed := mixed0 }
def kindOf : List (Nat × Nat) → Nat → Nat
  | [], _ => 0
  | (g, k) :: l, f => match Nat.beq g f with
    | true => k
    | false => kindOf l f
/-- 1: it looks at what its arguments name; 2: at all blocks; 3: it writes them, too. -/
def tabR (P : Program) (B : Tab) (l : List (Nat × Nat)) : Nat → Tab
  | 0 => fun _ => none
  | d + 1 => fun f => match B f with
    | some fc => some (knowFC fc)
    | none => match kindOf l f with
      | 0 => none
      | k => match P.funcs[f]? with
        | none => none
        | some fn => match fn.body.isSome && goFn P f with
          | false => none
          | true => match k with
            | 1 => some (callA false (mkG P (tabR P B l d)) (hnd (mkG P (tabR P B l d)) 60) fn)
            | 2 => some (callC false (mkG P (tabR P B l d)) (hnd (mkG P (tabR P B l d)) 60) fn)
            | _ => some (callC true (mkG P (tabR P B l d)) (hnd (mkG P (tabR P B l d)) 60) fn)
theorem tabR_ok {B : Tab} (hB : TabOk B) (l : List (Nat × Nat)) : ∀ d, TabOk (tabR Try.prog B l d)
  | 0 => fun f fc h => by cases h
  | d + 1 => fun f fc h => by
    have ih := mkG_ok (tabR_ok hB l d)
    simp only [tabR] at h
    split at h
    · rename_i fc0 h0
      simp only [Option.some.injEq] at h; subst h
      exact knowFC_ok (hB _ _ h0)
    split at h
    · cases h
    · split at h
      · cases h
      · rename_i fn hf
        split at h
        · cases h
        · rename_i hb
          simp only [Bool.and_eq_true, Option.isSome_iff_exists] at hb
          obtain ⟨⟨c, hc⟩, hgo⟩ := hb
          split at h <;> simp only [Option.some.injEq] at h <;> subst h
          · exact callA_ok ih hf hc hgo fun G hG => hnd_hndOk ih 60 G _ hG
          · exact callC_ok ih hf hc hgo fun G hG => hnd_hndOk ih 60 G _ hG
          · exact callC_ok ih hf hc hgo fun G hG => hnd_hndOk ih 60 G _ hG
def yesF : Unit → Bool × AV := fun _ => (true, .bool false true)
def yesC : FC := pureFC (pfOf yesF)
set_option maxRecDepth 100000 in
/-- A closed run: a contract. -/
theorem yes_fn {C : Tab} (hC : TabOk C) (d : Nat) {f : FuncId} {fn : Func} (hf : Try.prog.funcs[f]? = some fn) (hb : fn.body = some (bodyOf fn)) (hgo : goFn Try.prog f = true) (h : execFn (mkG Try.prog C) (hnd (mkG Try.prog C) d) false fn [] [] 0 = .leaf (.bool true true) []) : FSound Try.prog f yesC := by
  refine fn_plain (mkG_ok hC) hf hb hgo (fun G _ hG => hnd_hndOk (mkG_ok hC) d G _ hG) ?_
  rintro ⟨⟩ _
  rw [show (EncL.enc ((()) : Unit) : List AV) = [] from rfl, h]
  rfl
end Go.Proofs.Ytbpffdkemeoajaa
/- The examples' drawing and scans (layer 7). -/
namespace Go.Proofs.Ytbpffdkemeoajaa
open Go.SX
def span7F : Int × Int × Unit → Bool × AV := fun | (lo, (hi, _)) => (true, Enc.enc (⟨lo, hi⟩ : Sp))
def span7C : FC := pureFC (pfOf span7F)
set_option maxRecDepth 100000 in
theorem span7_t (lo : Int) (hi : Int) : execFn (mkE Try.prog tab_sts) (hnd (mkE Try.prog tab_sts) 2) false Try.f46 (EncL.enc ((lo, hi, ()) : Int × Int × Unit)) [] 0 =
    Tree.leaf (AV.agg [AV.int false IntKind.i64 lo, AV.int false IntKind.i64 hi]) ([]) := by kernel_rfl
theorem span7_s : FSound Try.prog 46 span7C := by
  refine plain_fn tab_sts_ok 2 Try.func46 (by kernel_rfl) (by kernel_rfl) ?_
  rintro ⟨lo, hi, ⟨⟩⟩ hp
  rw [span7_t lo hi]
  simp only [span7F, Tree.den, AV.same, AV.sameL, and_true, true_and] at hp ⊢
  simp only [Enc.enc, AV.same, AV.sameL, and_self]
def tab_span7 : Tab := addF tab_sts 46 span7C
theorem tab_span7_ok : TabOk tab_span7 := tab_sts_ok.add span7_s
def exact7F : Int × Int × Int × Unit → Bool × AV := fun | (k, (w, (d, _))) => (true, Enc.enc (⟨k, ⟨1000, 1000⟩, ⟨w, w⟩, ⟨d, d⟩⟩ : Edge))
def exact7C : FC := pureFC (pfOf exact7F)
set_option maxRecDepth 100000 in
theorem exact7_t (k : Int) (w : Int) (d : Int) : execFn (mkE Try.prog tab_span7) (hnd (mkE Try.prog tab_span7) 2) false Try.f45 (EncL.enc ((k, w, d, ()) : Int × Int × Int × Unit)) [] 0 =
    Tree.need (true) (Tree.need (true) (Tree.leaf (AV.agg [AV.int false IntKind.i64 k, AV.int true IntKind.i64 (1000 : Int), AV.int true IntKind.i64 (1000 : Int), AV.int false
    IntKind.i64 w, AV.int false IntKind.i64 w, AV.int false IntKind.i64 d, AV.int false IntKind.i64 d]) ([]))) := by kernel_rfl
theorem exact7_s : FSound Try.prog 45 exact7C := by
  refine plain_fn tab_span7_ok 2 Try.func45 (by kernel_rfl) (by kernel_rfl) ?_
  rintro ⟨k, w, d, ⟨⟩⟩ hp
  rw [exact7_t k w d]
  simp only [exact7F, Tree.den, AV.same, AV.sameL, and_true, true_and] at hp ⊢
  simp only [Enc.enc, AV.same, AV.sameL, and_self]
def tab_exact7 : Tab := addF tab_span7 45 exact7C
theorem tab_exact7_ok : TabOk tab_exact7 := tab_span7_ok.add exact7_s
def blur7F : Int × Int × Int × Unit → Bool × AV := fun | (k, (lo, (hi, _))) => (true, Enc.enc (⟨k, ⟨990, 1010⟩, ⟨lo, hi⟩, ⟨395, 415⟩⟩ : Edge))
def blur7C : FC := pureFC (pfOf blur7F)
set_option maxRecDepth 100000 in
theorem blur7_t (k : Int) (lo : Int) (hi : Int) : execFn (mkE Try.prog tab_exact7) (hnd (mkE Try.prog tab_exact7) 2) false Try.f48 (EncL.enc ((k, lo, hi, ()) : Int × Int × Int × Unit)) [] 0 =
    Tree.need (true) (Tree.leaf (AV.agg [AV.int false IntKind.i64 k, AV.int true IntKind.i64 (990 : Int), AV.int true IntKind.i64 (1010 : Int), AV.int false IntKind.i64 lo, AV.int false
    IntKind.i64 hi, AV.int true IntKind.i64 (395 : Int), AV.int true IntKind.i64 (415 : Int)]) ([])) := by kernel_rfl
theorem blur7_s : FSound Try.prog 48 blur7C := by
  refine plain_fn tab_exact7_ok 2 Try.func48 (by kernel_rfl) (by kernel_rfl) ?_
  rintro ⟨k, lo, hi, ⟨⟩⟩ hp
  rw [blur7_t k lo hi]
  simp only [blur7F, Tree.den, AV.same, AV.sameL, and_true, true_and] at hp ⊢
  simp only [Enc.enc, AV.same, AV.sameL, and_self]
def tab_blur7 : Tab := addF tab_exact7 48 blur7C
theorem tab_blur7_ok : TabOk tab_blur7 := tab_exact7_ok.add blur7_s
def piece7F : Edge × Edge × Unit → Bool × AV := fun | (r, (l, _)) => (true, Enc.enc (⟨zeroE, r, zeroE, l⟩ : Piece))
def piece7C : FC := pureFC (pfOf piece7F)
set_option maxRecDepth 100000 in
theorem piece7_t (r : Edge) (l : Edge) : execFn (mkE Try.prog tab_blur7) (hnd (mkE Try.prog tab_blur7) 2) false Try.f47 (EncL.enc ((r, l, ()) : Edge × Edge × Unit)) [] 0 =
    Tree.leaf (AV.agg [AV.int true IntKind.i64 (0 : Int), AV.int true IntKind.i64 (0 : Int), AV.int true IntKind.i64 (0 : Int), AV.int true IntKind.i64 (0 : Int), AV.int true
    IntKind.i64 (0 : Int), AV.int true IntKind.i64 (0 : Int), AV.int true IntKind.i64 (0 : Int), AV.int false IntKind.i64 r.kind, AV.int false IntKind.i64 r.at_.lo, AV.int false
    IntKind.i64 r.at_.hi, AV.int false IntKind.i64 r.wide.lo, AV.int false IntKind.i64 r.wide.hi, AV.int false IntKind.i64 r.deep.lo, AV.int false IntKind.i64 r.deep.hi, AV.int true
    IntKind.i64 (0 : Int), AV.int true IntKind.i64 (0 : Int), AV.int true IntKind.i64 (0 : Int), AV.int true IntKind.i64 (0 : Int), AV.int true IntKind.i64 (0 : Int), AV.int true
    IntKind.i64 (0 : Int), AV.int true IntKind.i64 (0 : Int), AV.int false IntKind.i64 l.kind, AV.int false IntKind.i64 l.at_.lo, AV.int false IntKind.i64 l.at_.hi, AV.int false
    IntKind.i64 l.wide.lo, AV.int false IntKind.i64 l.wide.hi, AV.int false IntKind.i64 l.deep.lo, AV.int false IntKind.i64 l.deep.hi]) ([]) := by kernel_rfl
theorem piece7_s : FSound Try.prog 47 piece7C := by
  refine plain_fn tab_blur7_ok 2 Try.func47 (by kernel_rfl) (by kernel_rfl) ?_
  rintro ⟨r, l, ⟨⟩⟩ hp
  rw [piece7_t r l]
  simp only [piece7F, Tree.den, AV.same, AV.sameL, and_true, true_and] at hp ⊢
  simp only [Enc.enc, zeroE, AV.same, AV.sameL, and_self]
def tab_piece7 : Tab := addF tab_blur7 47 piece7C
theorem tab_piece7_ok : TabOk tab_piece7 := tab_blur7_ok.add piece7_s
def pP : Piece := ⟨zeroE, ⟨1, ⟨990, 1010⟩, ⟨490, 570⟩, ⟨395, 415⟩⟩, zeroE, ⟨2, ⟨990, 1010⟩, ⟨505, 525⟩, ⟨395, 415⟩⟩⟩
def pQ : Piece := ⟨zeroE, ⟨1, ⟨990, 1010⟩, ⟨495, 505⟩, ⟨395, 415⟩⟩, zeroE, ⟨2, ⟨990, 1010⟩, ⟨505, 525⟩, ⟨395, 415⟩⟩⟩
def pR : Piece := ⟨zeroE, zeroE, ⟨1, ⟨990, 1010⟩, ⟨490, 510⟩, ⟨395, 415⟩⟩, zeroE⟩
def pP7F : Unit → Bool × AV := fun _ => (true, Enc.enc pP)
def pP7C : FC := pureFC (pfOf pP7F)
set_option maxRecDepth 100000 in
theorem pP7_t  : execFn (mkE Try.prog tab_piece7) (hnd (mkE Try.prog tab_piece7) 2) false Try.f22 (EncL.enc (() : Unit)) [] 0 =
    Tree.leaf (AV.agg [AV.int true IntKind.i64 (0 : Int), AV.int true IntKind.i64 (0 : Int), AV.int true IntKind.i64 (0 : Int), AV.int true IntKind.i64 (0 : Int), AV.int true
    IntKind.i64 (0 : Int), AV.int true IntKind.i64 (0 : Int), AV.int true IntKind.i64 (0 : Int), AV.int true IntKind.i64 (1 : Int), AV.int true IntKind.i64 (990 : Int), AV.int true
    IntKind.i64 (1010 : Int), AV.int true IntKind.i64 (490 : Int), AV.int true IntKind.i64 (570 : Int), AV.int true IntKind.i64 (395 : Int), AV.int true IntKind.i64 (415 : Int), AV.int
    true IntKind.i64 (0 : Int), AV.int true IntKind.i64 (0 : Int), AV.int true IntKind.i64 (0 : Int), AV.int true IntKind.i64 (0 : Int), AV.int true IntKind.i64 (0 : Int), AV.int true
    IntKind.i64 (0 : Int), AV.int true IntKind.i64 (0 : Int), AV.int true IntKind.i64 (2 : Int), AV.int true IntKind.i64 (990 : Int), AV.int true IntKind.i64 (1010 : Int), AV.int true
    IntKind.i64 (505 : Int), AV.int true IntKind.i64 (525 : Int), AV.int true IntKind.i64 (395 : Int), AV.int true IntKind.i64 (415 : Int)]) ([]) := by kernel_rfl
theorem pP7_s : FSound Try.prog 22 pP7C := by
  refine plain_fn tab_piece7_ok 2 Try.func22 (by kernel_rfl) (by kernel_rfl) ?_
  rintro ⟨⟩ hp
  rw [pP7_t ]
  simp only [pP7F, Tree.den, AV.same, AV.sameL, and_true, true_and] at hp ⊢
  simp only [Enc.enc, pP, zeroE, AV.same, AV.sameL, and_self]
def tab_pP7 : Tab := addF tab_piece7 22 pP7C
theorem tab_pP7_ok : TabOk tab_pP7 := tab_piece7_ok.add pP7_s
def pQ7F : Unit → Bool × AV := fun _ => (true, Enc.enc pQ)
def pQ7C : FC := pureFC (pfOf pQ7F)
set_option maxRecDepth 100000 in
theorem pQ7_t  : execFn (mkE Try.prog tab_pP7) (hnd (mkE Try.prog tab_pP7) 2) false Try.f24 (EncL.enc (() : Unit)) [] 0 =
    Tree.leaf (AV.agg [AV.int true IntKind.i64 (0 : Int), AV.int true IntKind.i64 (0 : Int), AV.int true IntKind.i64 (0 : Int), AV.int true IntKind.i64 (0 : Int), AV.int true
    IntKind.i64 (0 : Int), AV.int true IntKind.i64 (0 : Int), AV.int true IntKind.i64 (0 : Int), AV.int true IntKind.i64 (1 : Int), AV.int true IntKind.i64 (990 : Int), AV.int true
    IntKind.i64 (1010 : Int), AV.int true IntKind.i64 (495 : Int), AV.int true IntKind.i64 (505 : Int), AV.int true IntKind.i64 (395 : Int), AV.int true IntKind.i64 (415 : Int), AV.int
    true IntKind.i64 (0 : Int), AV.int true IntKind.i64 (0 : Int), AV.int true IntKind.i64 (0 : Int), AV.int true IntKind.i64 (0 : Int), AV.int true IntKind.i64 (0 : Int), AV.int true
    IntKind.i64 (0 : Int), AV.int true IntKind.i64 (0 : Int), AV.int true IntKind.i64 (2 : Int), AV.int true IntKind.i64 (990 : Int), AV.int true IntKind.i64 (1010 : Int), AV.int true
    IntKind.i64 (505 : Int), AV.int true IntKind.i64 (525 : Int), AV.int true IntKind.i64 (395 : Int), AV.int true IntKind.i64 (415 : Int)]) ([]) := by kernel_rfl
theorem pQ7_s : FSound Try.prog 24 pQ7C := by
  refine plain_fn tab_pP7_ok 2 Try.func24 (by kernel_rfl) (by kernel_rfl) ?_
  rintro ⟨⟩ hp
  rw [pQ7_t ]
  simp only [pQ7F, Tree.den, AV.same, AV.sameL, and_true, true_and] at hp ⊢
  simp only [Enc.enc, pQ, zeroE, AV.same, AV.sameL, and_self]
def tab_pQ7 : Tab := addF tab_pP7 24 pQ7C
theorem tab_pQ7_ok : TabOk tab_pQ7 := tab_pP7_ok.add pQ7_s
def pR7F : Unit → Bool × AV := fun _ => (true, Enc.enc pR)
def pR7C : FC := pureFC (pfOf pR7F)
set_option maxRecDepth 100000 in
theorem pR7_t  : execFn (mkE Try.prog tab_pQ7) (hnd (mkE Try.prog tab_pQ7) 2) false Try.f19 (EncL.enc (() : Unit)) [] 0 =
    Tree.leaf (AV.agg [AV.int true IntKind.i64 (0 : Int), AV.int true IntKind.i64 (0 : Int), AV.int true IntKind.i64 (0 : Int), AV.int true IntKind.i64 (0 : Int), AV.int true
    IntKind.i64 (0 : Int), AV.int true IntKind.i64 (0 : Int), AV.int true IntKind.i64 (0 : Int), AV.int true IntKind.i64 (0 : Int), AV.int true IntKind.i64 (0 : Int), AV.int true
    IntKind.i64 (0 : Int), AV.int true IntKind.i64 (0 : Int), AV.int true IntKind.i64 (0 : Int), AV.int true IntKind.i64 (0 : Int), AV.int true IntKind.i64 (0 : Int), AV.int true
    IntKind.i64 (1 : Int), AV.int true IntKind.i64 (990 : Int), AV.int true IntKind.i64 (1010 : Int), AV.int true IntKind.i64 (490 : Int), AV.int true IntKind.i64 (510 : Int), AV.int
    true IntKind.i64 (395 : Int), AV.int true IntKind.i64 (415 : Int), AV.int true IntKind.i64 (0 : Int), AV.int true IntKind.i64 (0 : Int), AV.int true IntKind.i64 (0 : Int), AV.int
    true IntKind.i64 (0 : Int), AV.int true IntKind.i64 (0 : Int), AV.int true IntKind.i64 (0 : Int), AV.int true IntKind.i64 (0 : Int)]) ([]) := by kernel_rfl
theorem pR7_s : FSound Try.prog 19 pR7C := by
  refine plain_fn tab_pQ7_ok 2 Try.func19 (by kernel_rfl) (by kernel_rfl) ?_
  rintro ⟨⟩ hp
  rw [pR7_t ]
  simp only [pR7F, Tree.den, AV.same, AV.sameL, and_true, true_and] at hp ⊢
  simp only [Enc.enc, pR, zeroE, AV.same, AV.sameL, and_self]
def tab_pR7 : Tab := addF tab_pQ7 19 pR7C
theorem tab_pR7_ok : TabOk tab_pR7 := tab_pQ7_ok.add pR7_s
def exE (k w d : Int) : Edge := ⟨k, ⟨1000, 1000⟩, ⟨w, w⟩, ⟨d, d⟩⟩
def drwL : List Piece := [⟨zeroE, exE 1 500 400, zeroE, zeroE⟩, ⟨zeroE, exE 1 500 400, zeroE, exE 2 515 410⟩, ⟨zeroE, exE 1 560 400, zeroE, exE 2 515 410⟩, ⟨zeroE, zeroE, zeroE, exE 2 575 410⟩]
def pZ : Piece := ⟨zeroE, zeroE, zeroE, zeroE⟩
def drwD : Puz := ⟨⟨2000, 20, 30, ⟨0, 10⟩⟩, 4, 1, false, ⟨4, fun i => drwL.getD i pZ⟩⟩
def drwV : AV := .agg [.int false .i64 2000, .int false .i64 20, .int false .i64 30, .int false .i64 0, .int false .i64 10, .int false .i64 4, .int false .i64 1, .bool false false, .slice true 0 0 4 (.lit 4)]
def drwB : Nat × Blk := (0, .rowl 33 28 (drwL.map fun p => (Enc.enc p).cells))
set_option maxRecDepth 100000 in
theorem drw_x (a : Unit) : execW (mkE Try.prog tab_pR7) (hnd (mkE Try.prog tab_pR7) 2) Try.f18 (ArgsE.vals 0 a) (ArgsE.blks 0 a) 8 =
    Tree.leaf (AV.agg [AV.int true IntKind.i64 (2000 : Int), AV.int true IntKind.i64 (20 : Int), AV.int true IntKind.i64 (30 : Int), AV.int true IntKind.i64 (0 : Int), AV.int true
    IntKind.i64 (10 : Int), AV.int true IntKind.i64 (4 : Int), AV.int true IntKind.i64 (1 : Int), AV.bool true false, AV.slice true (248 : Nat) (0 : Nat) (4 : Nat) (Cap.lit (4 : Nat))])
    ([((248 : Nat), Blk.rowl (33 : Nat) (28 : Nat) [[AV.int true IntKind.i64 (0 : Int), AV.int true IntKind.i64 (0 : Int), AV.int true IntKind.i64 (0 : Int), AV.int true IntKind.i64 (0
    : Int), AV.int true IntKind.i64 (0 : Int), AV.int true IntKind.i64 (0 : Int), AV.int true IntKind.i64 (0 : Int), AV.int true IntKind.i64 (1 : Int), AV.int true IntKind.i64 (1000 :
    Int), AV.int true IntKind.i64 (1000 : Int), AV.int true IntKind.i64 (500 : Int), AV.int true IntKind.i64 (500 : Int), AV.int true IntKind.i64 (400 : Int), AV.int true IntKind.i64
    (400 : Int), AV.int true IntKind.i64 (0 : Int), AV.int true IntKind.i64 (0 : Int), AV.int true IntKind.i64 (0 : Int), AV.int true IntKind.i64 (0 : Int), AV.int true IntKind.i64 (0 :
    Int), AV.int true IntKind.i64 (0 : Int), AV.int true IntKind.i64 (0 : Int), AV.int true IntKind.i64 (0 : Int), AV.int true IntKind.i64 (0 : Int), AV.int true IntKind.i64 (0 : Int),
    AV.int true IntKind.i64 (0 : Int), AV.int true IntKind.i64 (0 : Int), AV.int true IntKind.i64 (0 : Int), AV.int true IntKind.i64 (0 : Int)], [AV.int true IntKind.i64 (0 : Int),
    AV.int true IntKind.i64 (0 : Int), AV.int true IntKind.i64 (0 : Int), AV.int true IntKind.i64 (0 : Int), AV.int true IntKind.i64 (0 : Int), AV.int true IntKind.i64 (0 : Int), AV.int
    true IntKind.i64 (0 : Int), AV.int true IntKind.i64 (1 : Int), AV.int true IntKind.i64 (1000 : Int), AV.int true IntKind.i64 (1000 : Int), AV.int true IntKind.i64 (500 : Int),
    AV.int true IntKind.i64 (500 : Int), AV.int true IntKind.i64 (400 : Int), AV.int true IntKind.i64 (400 : Int), AV.int true IntKind.i64 (0 : Int), AV.int true IntKind.i64 (0 : Int),
    AV.int true IntKind.i64 (0 : Int), AV.int true IntKind.i64 (0 : Int), AV.int true IntKind.i64 (0 : Int), AV.int true IntKind.i64 (0 : Int), AV.int true IntKind.i64 (0 : Int), AV.int
    true IntKind.i64 (2 : Int), AV.int true IntKind.i64 (1000 : Int), AV.int true IntKind.i64 (1000 : Int), AV.int true IntKind.i64 (515 : Int), AV.int true IntKind.i64 (515 : Int),
    AV.int true IntKind.i64 (410 : Int), AV.int true IntKind.i64 (410 : Int)], [AV.int true IntKind.i64 (0 : Int), AV.int true IntKind.i64 (0 : Int), AV.int true IntKind.i64 (0 : Int),
    AV.int true IntKind.i64 (0 : Int), AV.int true IntKind.i64 (0 : Int), AV.int true IntKind.i64 (0 : Int), AV.int true IntKind.i64 (0 : Int), AV.int true IntKind.i64 (1 : Int), AV.int
    true IntKind.i64 (1000 : Int), AV.int true IntKind.i64 (1000 : Int), AV.int true IntKind.i64 (560 : Int), AV.int true IntKind.i64 (560 : Int), AV.int true IntKind.i64 (400 : Int),
    AV.int true IntKind.i64 (400 : Int), AV.int true IntKind.i64 (0 : Int), AV.int true IntKind.i64 (0 : Int), AV.int true IntKind.i64 (0 : Int), AV.int true IntKind.i64 (0 : Int),
    AV.int true IntKind.i64 (0 : Int), AV.int true IntKind.i64 (0 : Int), AV.int true IntKind.i64 (0 : Int), AV.int true IntKind.i64 (2 : Int), AV.int true IntKind.i64 (1000 : Int),
    AV.int true IntKind.i64 (1000 : Int), AV.int true IntKind.i64 (515 : Int), AV.int true IntKind.i64 (515 : Int), AV.int true IntKind.i64 (410 : Int), AV.int true IntKind.i64 (410 :
    Int)], [AV.int true IntKind.i64 (0 : Int), AV.int true IntKind.i64 (0 : Int), AV.int true IntKind.i64 (0 : Int), AV.int true IntKind.i64 (0 : Int), AV.int true IntKind.i64 (0 :
    Int), AV.int true IntKind.i64 (0 : Int), AV.int true IntKind.i64 (0 : Int), AV.int true IntKind.i64 (0 : Int), AV.int true IntKind.i64 (0 : Int), AV.int true IntKind.i64 (0 : Int),
    AV.int true IntKind.i64 (0 : Int), AV.int true IntKind.i64 (0 : Int), AV.int true IntKind.i64 (0 : Int), AV.int true IntKind.i64 (0 : Int), AV.int true IntKind.i64 (0 : Int), AV.int
    true IntKind.i64 (0 : Int), AV.int true IntKind.i64 (0 : Int), AV.int true IntKind.i64 (0 : Int), AV.int true IntKind.i64 (0 : Int), AV.int true IntKind.i64 (0 : Int), AV.int true
    IntKind.i64 (0 : Int), AV.int true IntKind.i64 (2 : Int), AV.int true IntKind.i64 (1000 : Int), AV.int true IntKind.i64 (1000 : Int), AV.int true IntKind.i64 (575 : Int), AV.int
    true IntKind.i64 (575 : Int), AV.int true IntKind.i64 (410 : Int), AV.int true IntKind.i64 (410 : Int)]])]) := by kernel_rfl
set_option maxRecDepth 100000 in
theorem drw_res  : subE 8 [(AV.agg [AV.int true IntKind.i64 (2000 : Int), AV.int true IntKind.i64 (20 : Int), AV.int true IntKind.i64 (30 : Int), AV.int true IntKind.i64 (0 : Int), AV.int true IntKind.i64 (10 : Int), AV.int true IntKind.i64 (4 : Int), AV.int true IntKind.i64 (1 : Int), AV.bool true false, AV.slice true (248 : Nat) (0 : Nat) (4 : Nat) (Cap.lit (4 : Nat))])] ([((248 : Nat), Blk.rowl (33 : Nat) (28 : Nat) [[AV.int true IntKind.i64 (0 : Int), AV.int true IntKind.i64 (0 : Int), AV.int true IntKind.i64 (0 : Int), AV.int true IntKind.i64 (0 : Int), AV.int true IntKind.i64 (0 : Int), AV.int true IntKind.i64 (0 : Int), AV.int true IntKind.i64 (0 : Int), AV.int true IntKind.i64 (1 : Int), AV.int true IntKind.i64 (1000 : Int), AV.int true IntKind.i64 (1000 : Int), AV.int true IntKind.i64 (500 : Int), AV.int true IntKind.i64 (500 : Int), AV.int true IntKind.i64 (400 : Int), AV.int true IntKind.i64 (400 : Int), AV.int true IntKind.i64 (0 : Int), AV.int true IntKind.i64 (0 : Int), AV.int true IntKind.i64 (0 : Int), AV.int true IntKind.i64 (0 : Int), AV.int true IntKind.i64 (0 : Int), AV.int true IntKind.i64 (0 : Int), AV.int true IntKind.i64 (0 : Int), AV.int true IntKind.i64 (0 : Int), AV.int true IntKind.i64 (0 : Int), AV.int true IntKind.i64 (0 : Int), AV.int true IntKind.i64 (0 : Int), AV.int true IntKind.i64 (0 : Int), AV.int true IntKind.i64 (0 : Int), AV.int true IntKind.i64 (0 : Int)], [AV.int true IntKind.i64 (0 : Int), AV.int true IntKind.i64 (0 : Int), AV.int true IntKind.i64 (0 : Int), AV.int true IntKind.i64 (0 : Int), AV.int true IntKind.i64 (0 : Int), AV.int true IntKind.i64 (0 : Int), AV.int true IntKind.i64 (0 : Int), AV.int true IntKind.i64 (1 : Int), AV.int true IntKind.i64 (1000 : Int), AV.int true IntKind.i64 (1000 : Int), AV.int true IntKind.i64 (500 : Int), AV.int true IntKind.i64 (500 : Int), AV.int true IntKind.i64 (400 : Int), AV.int true IntKind.i64 (400 : Int), AV.int true IntKind.i64 (0 : Int), AV.int true IntKind.i64 (0 : Int), AV.int true IntKind.i64 (0 : Int), AV.int true IntKind.i64 (0 : Int), AV.int true IntKind.i64 (0 : Int), AV.int true IntKind.i64 (0 : Int), AV.int true IntKind.i64 (0 : Int), AV.int true IntKind.i64 (2 : Int), AV.int true IntKind.i64 (1000 : Int), AV.int true IntKind.i64 (1000 : Int), AV.int true IntKind.i64 (515 : Int), AV.int true IntKind.i64 (515 : Int), AV.int true IntKind.i64 (410 : Int), AV.int true IntKind.i64 (410 : Int)], [AV.int true IntKind.i64 (0 : Int), AV.int true IntKind.i64 (0 : Int), AV.int true IntKind.i64 (0 : Int), AV.int true IntKind.i64 (0 : Int), AV.int true IntKind.i64 (0 : Int), AV.int true IntKind.i64 (0 : Int), AV.int true IntKind.i64 (0 : Int), AV.int true IntKind.i64 (1 : Int), AV.int true IntKind.i64 (1000 : Int), AV.int true IntKind.i64 (1000 : Int), AV.int true IntKind.i64 (560 : Int), AV.int true IntKind.i64 (560 : Int), AV.int true IntKind.i64 (400 : Int), AV.int true IntKind.i64 (400 : Int), AV.int true IntKind.i64 (0 : Int), AV.int true IntKind.i64 (0 : Int), AV.int true IntKind.i64 (0 : Int), AV.int true IntKind.i64 (0 : Int), AV.int true IntKind.i64 (0 : Int), AV.int true IntKind.i64 (0 : Int), AV.int true IntKind.i64 (0 : Int), AV.int true IntKind.i64 (2 : Int), AV.int true IntKind.i64 (1000 : Int), AV.int true IntKind.i64 (1000 : Int), AV.int true IntKind.i64 (515 : Int), AV.int true IntKind.i64 (515 : Int), AV.int true IntKind.i64 (410 : Int), AV.int true IntKind.i64 (410 : Int)], [AV.int true IntKind.i64 (0 : Int), AV.int true IntKind.i64 (0 : Int), AV.int true IntKind.i64 (0 : Int), AV.int true IntKind.i64 (0 : Int), AV.int true IntKind.i64 (0 : Int), AV.int true IntKind.i64 (0 : Int), AV.int true IntKind.i64 (0 : Int), AV.int true IntKind.i64 (0 : Int), AV.int true IntKind.i64 (0 : Int), AV.int true IntKind.i64 (0 : Int), AV.int true IntKind.i64 (0 : Int), AV.int true IntKind.i64 (0 : Int), AV.int true IntKind.i64 (0 : Int), AV.int true IntKind.i64 (0 : Int), AV.int true IntKind.i64 (0 : Int), AV.int true IntKind.i64 (0 : Int), AV.int true IntKind.i64 (0 : Int), AV.int true IntKind.i64 (0 : Int), AV.int true IntKind.i64 (0 : Int), AV.int true IntKind.i64 (0 : Int), AV.int true IntKind.i64 (0 : Int), AV.int true IntKind.i64 (2 : Int), AV.int true IntKind.i64 (1000 : Int), AV.int true IntKind.i64 (1000 : Int), AV.int true IntKind.i64 (575 : Int), AV.int true IntKind.i64 (575 : Int), AV.int true IntKind.i64 (410 : Int), AV.int true IntKind.i64 (410 : Int)]])]) (resJ 8 drwV [drwB]) = (
    some [(2000 : Int) = (2000 : Int), (20 : Int) = (20 : Int), (30 : Int) = (30 : Int), (0 : Int) = (0 : Int), (10 : Int) = (10 : Int), (4 : Int) = (4 : Int), (1 : Int) = (1 : Int),
    false = false, (0 : Nat) = (0 : Nat), (4 : Nat) = (4 : Nat), Cap.lit (4 : Nat) = Cap.lit (4 : Nat), (0 : Int) = (0 : Int), (0 : Int) = (0 : Int), (0 : Int) = (0 : Int), (0 : Int) =
    (0 : Int), (0 : Int) = (0 : Int), (0 : Int) = (0 : Int), (0 : Int) = (0 : Int), (1 : Int) = (1 : Int), (1000 : Int) = (1000 : Int), (1000 : Int) = (1000 : Int), (500 : Int) = (500 :
    Int), (500 : Int) = (500 : Int), (400 : Int) = (400 : Int), (400 : Int) = (400 : Int), (0 : Int) = (0 : Int), (0 : Int) = (0 : Int), (0 : Int) = (0 : Int), (0 : Int) = (0 : Int), (0
    : Int) = (0 : Int), (0 : Int) = (0 : Int), (0 : Int) = (0 : Int), (0 : Int) = (0 : Int), (0 : Int) = (0 : Int), (0 : Int) = (0 : Int), (0 : Int) = (0 : Int), (0 : Int) = (0 : Int),
    (0 : Int) = (0 : Int), (0 : Int) = (0 : Int), (0 : Int) = (0 : Int), (0 : Int) = (0 : Int), (0 : Int) = (0 : Int), (0 : Int) = (0 : Int), (0 : Int) = (0 : Int), (0 : Int) = (0 :
    Int), (0 : Int) = (0 : Int), (1 : Int) = (1 : Int), (1000 : Int) = (1000 : Int), (1000 : Int) = (1000 : Int), (500 : Int) = (500 : Int), (500 : Int) = (500 : Int), (400 : Int) =
    (400 : Int), (400 : Int) = (400 : Int), (0 : Int) = (0 : Int), (0 : Int) = (0 : Int), (0 : Int) = (0 : Int), (0 : Int) = (0 : Int), (0 : Int) = (0 : Int), (0 : Int) = (0 : Int), (0
    : Int) = (0 : Int), (2 : Int) = (2 : Int), (1000 : Int) = (1000 : Int), (1000 : Int) = (1000 : Int), (515 : Int) = (515 : Int), (515 : Int) = (515 : Int), (410 : Int) = (410 : Int),
    (410 : Int) = (410 : Int), (0 : Int) = (0 : Int), (0 : Int) = (0 : Int), (0 : Int) = (0 : Int), (0 : Int) = (0 : Int), (0 : Int) = (0 : Int), (0 : Int) = (0 : Int), (0 : Int) = (0 :
    Int), (1 : Int) = (1 : Int), (1000 : Int) = (1000 : Int), (1000 : Int) = (1000 : Int), (560 : Int) = (560 : Int), (560 : Int) = (560 : Int), (400 : Int) = (400 : Int), (400 : Int) =
    (400 : Int), (0 : Int) = (0 : Int), (0 : Int) = (0 : Int), (0 : Int) = (0 : Int), (0 : Int) = (0 : Int), (0 : Int) = (0 : Int), (0 : Int) = (0 : Int), (0 : Int) = (0 : Int), (2 :
    Int) = (2 : Int), (1000 : Int) = (1000 : Int), (1000 : Int) = (1000 : Int), (515 : Int) = (515 : Int), (515 : Int) = (515 : Int), (410 : Int) = (410 : Int), (410 : Int) = (410 :
    Int), (0 : Int) = (0 : Int), (0 : Int) = (0 : Int), (0 : Int) = (0 : Int), (0 : Int) = (0 : Int), (0 : Int) = (0 : Int), (0 : Int) = (0 : Int), (0 : Int) = (0 : Int), (0 : Int) = (0
    : Int), (0 : Int) = (0 : Int), (0 : Int) = (0 : Int), (0 : Int) = (0 : Int), (0 : Int) = (0 : Int), (0 : Int) = (0 : Int), (0 : Int) = (0 : Int), (0 : Int) = (0 : Int), (0 : Int) =
    (0 : Int), (0 : Int) = (0 : Int), (0 : Int) = (0 : Int), (0 : Int) = (0 : Int), (0 : Int) = (0 : Int), (0 : Int) = (0 : Int), (2 : Int) = (2 : Int), (1000 : Int) = (1000 : Int),
    (1000 : Int) = (1000 : Int), (575 : Int) = (575 : Int), (575 : Int) = (575 : Int), (410 : Int) = (410 : Int), (410 : Int) = (410 : Int)]) := by kernel_rfl
def drwF : WF (Unit) := fun | _ => (true, drwV, [drwB])
def drwC : FC := wFC drwF
set_option maxRecDepth 100000 in
theorem drw_t : execW (mkE Try.prog tab_pR7) (hnd (mkE Try.prog tab_pR7) 2) Try.f18 (ArgsE.vals 0 ((()) : Unit)) (ArgsE.blks 0 ((()) : Unit)) 8 =
    Tree.leaf (AV.agg [AV.int true IntKind.i64 (2000 : Int), AV.int true IntKind.i64 (20 : Int), AV.int true IntKind.i64 (30 : Int), AV.int true IntKind.i64 (0 : Int), AV.int true
    IntKind.i64 (10 : Int), AV.int true IntKind.i64 (4 : Int), AV.int true IntKind.i64 (1 : Int), AV.bool true false, AV.slice true (248 : Nat) (0 : Nat) (4 : Nat) (Cap.lit (4 : Nat))])
    ([((248 : Nat), Blk.rowl (33 : Nat) (28 : Nat) [[AV.int true IntKind.i64 (0 : Int), AV.int true IntKind.i64 (0 : Int), AV.int true IntKind.i64 (0 : Int), AV.int true IntKind.i64 (0
    : Int), AV.int true IntKind.i64 (0 : Int), AV.int true IntKind.i64 (0 : Int), AV.int true IntKind.i64 (0 : Int), AV.int true IntKind.i64 (1 : Int), AV.int true IntKind.i64 (1000 :
    Int), AV.int true IntKind.i64 (1000 : Int), AV.int true IntKind.i64 (500 : Int), AV.int true IntKind.i64 (500 : Int), AV.int true IntKind.i64 (400 : Int), AV.int true IntKind.i64
    (400 : Int), AV.int true IntKind.i64 (0 : Int), AV.int true IntKind.i64 (0 : Int), AV.int true IntKind.i64 (0 : Int), AV.int true IntKind.i64 (0 : Int), AV.int true IntKind.i64 (0 :
    Int), AV.int true IntKind.i64 (0 : Int), AV.int true IntKind.i64 (0 : Int), AV.int true IntKind.i64 (0 : Int), AV.int true IntKind.i64 (0 : Int), AV.int true IntKind.i64 (0 : Int),
    AV.int true IntKind.i64 (0 : Int), AV.int true IntKind.i64 (0 : Int), AV.int true IntKind.i64 (0 : Int), AV.int true IntKind.i64 (0 : Int)], [AV.int true IntKind.i64 (0 : Int),
    AV.int true IntKind.i64 (0 : Int), AV.int true IntKind.i64 (0 : Int), AV.int true IntKind.i64 (0 : Int), AV.int true IntKind.i64 (0 : Int), AV.int true IntKind.i64 (0 : Int), AV.int
    true IntKind.i64 (0 : Int), AV.int true IntKind.i64 (1 : Int), AV.int true IntKind.i64 (1000 : Int), AV.int true IntKind.i64 (1000 : Int), AV.int true IntKind.i64 (500 : Int),
    AV.int true IntKind.i64 (500 : Int), AV.int true IntKind.i64 (400 : Int), AV.int true IntKind.i64 (400 : Int), AV.int true IntKind.i64 (0 : Int), AV.int true IntKind.i64 (0 : Int),
    AV.int true IntKind.i64 (0 : Int), AV.int true IntKind.i64 (0 : Int), AV.int true IntKind.i64 (0 : Int), AV.int true IntKind.i64 (0 : Int), AV.int true IntKind.i64 (0 : Int), AV.int
    true IntKind.i64 (2 : Int), AV.int true IntKind.i64 (1000 : Int), AV.int true IntKind.i64 (1000 : Int), AV.int true IntKind.i64 (515 : Int), AV.int true IntKind.i64 (515 : Int),
    AV.int true IntKind.i64 (410 : Int), AV.int true IntKind.i64 (410 : Int)], [AV.int true IntKind.i64 (0 : Int), AV.int true IntKind.i64 (0 : Int), AV.int true IntKind.i64 (0 : Int),
    AV.int true IntKind.i64 (0 : Int), AV.int true IntKind.i64 (0 : Int), AV.int true IntKind.i64 (0 : Int), AV.int true IntKind.i64 (0 : Int), AV.int true IntKind.i64 (1 : Int), AV.int
    true IntKind.i64 (1000 : Int), AV.int true IntKind.i64 (1000 : Int), AV.int true IntKind.i64 (560 : Int), AV.int true IntKind.i64 (560 : Int), AV.int true IntKind.i64 (400 : Int),
    AV.int true IntKind.i64 (400 : Int), AV.int true IntKind.i64 (0 : Int), AV.int true IntKind.i64 (0 : Int), AV.int true IntKind.i64 (0 : Int), AV.int true IntKind.i64 (0 : Int),
    AV.int true IntKind.i64 (0 : Int), AV.int true IntKind.i64 (0 : Int), AV.int true IntKind.i64 (0 : Int), AV.int true IntKind.i64 (2 : Int), AV.int true IntKind.i64 (1000 : Int),
    AV.int true IntKind.i64 (1000 : Int), AV.int true IntKind.i64 (515 : Int), AV.int true IntKind.i64 (515 : Int), AV.int true IntKind.i64 (410 : Int), AV.int true IntKind.i64 (410 :
    Int)], [AV.int true IntKind.i64 (0 : Int), AV.int true IntKind.i64 (0 : Int), AV.int true IntKind.i64 (0 : Int), AV.int true IntKind.i64 (0 : Int), AV.int true IntKind.i64 (0 :
    Int), AV.int true IntKind.i64 (0 : Int), AV.int true IntKind.i64 (0 : Int), AV.int true IntKind.i64 (0 : Int), AV.int true IntKind.i64 (0 : Int), AV.int true IntKind.i64 (0 : Int),
    AV.int true IntKind.i64 (0 : Int), AV.int true IntKind.i64 (0 : Int), AV.int true IntKind.i64 (0 : Int), AV.int true IntKind.i64 (0 : Int), AV.int true IntKind.i64 (0 : Int), AV.int
    true IntKind.i64 (0 : Int), AV.int true IntKind.i64 (0 : Int), AV.int true IntKind.i64 (0 : Int), AV.int true IntKind.i64 (0 : Int), AV.int true IntKind.i64 (0 : Int), AV.int true
    IntKind.i64 (0 : Int), AV.int true IntKind.i64 (2 : Int), AV.int true IntKind.i64 (1000 : Int), AV.int true IntKind.i64 (1000 : Int), AV.int true IntKind.i64 (575 : Int), AV.int
    true IntKind.i64 (575 : Int), AV.int true IntKind.i64 (410 : Int), AV.int true IntKind.i64 (410 : Int)]])]) := by kernel_rfl
theorem drw_hs : WHnd (mkE Try.prog tab_pR7) (bodyOf Try.f18) 8 drwF (fun x_ => (hnd (mkE Try.prog tab_pR7) 2)) := by
  refine ⟨?_⟩
  rintro ⟨⟩ hp G h1 h2
  exact hnd_hndOk (mkE_ok tab_pR7_ok) 2 G _ h1
theorem drw_run : WRun (mkE Try.prog tab_pR7) Try.f18 8 drwF (fun x_ => (hnd (mkE Try.prog tab_pR7) 2)) := by
  refine ⟨?_⟩
  rintro ⟨⟩ hp
  refine ⟨⟨rfl, by decide, rfl⟩, ⟨?_⟩⟩
  rw [drw_t ]
  simp only [drwF] at hp
  exact ⟨rfl, rfl, _, drw_res, by repeat' first | exact trivial | rfl | refine And.intro ?_ ?_⟩
theorem drw_s : FSound Try.prog 18 drwC :=
  fn_W (mkE_ok tab_pR7_ok) Try.func18 (by kernel_rfl) (by kernel_rfl) (by decide) drw_hs drw_run
def tab_drw : Tab := addF tab_pR7 18 drwC
theorem tab_drw_ok : TabOk tab_drw := tab_pR7_ok.add drw_s
end Go.Proofs.Ytbpffdkemeoajaa
/- The chapter's examples, run whole (layer 7). -/
namespace Go.Proofs.Ytbpffdkemeoajaa
open Go.SX
def kinds : List (Nat × Nat) := [(95, 1)]
set_option maxRecDepth 100000 in
theorem alive_t : execFn (mkG Try.prog (tabR Try.prog tab_drw kinds 12)) (hnd (mkG Try.prog (tabR Try.prog tab_drw kinds 12)) 100) false Try.f12 [] [] 0 = .leaf (.bool true true) [] := by kernel_rfl
theorem alive_s : FSound Try.prog 12 yesC := yes_fn (tabR_ok tab_drw_ok kinds 12) 100 Try.func12 (by kernel_rfl) (by kernel_rfl) alive_t
end Go.Proofs.Ytbpffdkemeoajaa
/- The law ScanSeats, of the code (layer 7). -/
namespace Go.Proofs.Ytbpffdkemeoajaa
open Go.SX
def tab_scan : Tab := addF tab_ss 12 yesC
theorem tab_scan_ok : TabOk tab_scan := tab_ss_ok.add alive_s
theorem stsL_len (d : Puz) (s : Piece) : (stsL d s).length ≤ 4 * d.ps.n := by
  unfold stsL
  split
  · exact seatL_len d s _
  · exact Nat.zero_le _
def sclF : WF (Puz × Piece × Unit) := fun | (d, (s, _)) => (true, .bool false true, [])
def sclC : FC := wFC sclF
set_option maxRecDepth 100000 in
theorem scl_t (d : Puz) (s : Piece) : execW (mkS Try.prog tab_scan) (hnd (mkS Try.prog tab_scan) 1) Try.f3 (ArgsE.vals 0 ((d, s, ()) : Puz × Piece × Unit)) (ArgsE.blks 0 ((d, s, ()) : Puz × Piece × Unit)) 8 =
    Tree.br (decide ((↑d.ps.n : Int) > (14 : Int))) (Tree.leaf (AV.bool true true) ([])) (Tree.need (decide (d.ps.n ≤ d.ps.n) && true && decide (d.ps.n ≤ (1000 : Nat))) (Tree.need
    (decide (d.ps.n ≤ d.ps.n) && true && decide (d.ps.n ≤ (1000 : Nat))) (Tree.need (decide (d.ps.n ≤ d.ps.n) && (true && true) && decide (d.ps.n ≤ (900 : Nat))) (Tree.need (decide
    (d.ps.n ≤ d.ps.n) && (true && true) && decide (d.ps.n ≤ (900 : Nat))) (Tree.need (!(chkV d).1 == (chkV d).1 || (chkV d).1 == (chkV d).1 && (chkV d).1 == (chkV d).1) (Tree.need
    (!(chkV d).1 == (chkV d).1 || (chkV d).1 == (chkV d).1) (Tree.bnd ((chkV d).1 == (chkV d).1 && (chkV d).2.1 == (chkV d).2.1) (fun (x0 : Bool) => Tree.need (!x0 || x0 && x0)
    (Tree.need (!x0 || x0) (Tree.bnd (x0 && (chkV d).2.2 == (chkV d).2.2) (fun (x1 : Bool) => Tree.need (!x1 || decide ((stsL d s).length ≤ (stsL d s).length) && (decide ((stsL d
    s).length ≤ (stsL d s).length) && true) && decide ((stsL d s).length ≤ (4000 : Nat) ∧ (stsL d s).length ≤ (4000 : Nat)) && (x1 && x1)) (Tree.need (!x1 || x1) (Tree.bnd (x1 && sameS
    (Rw.mk (stsL d s).length fun i => (stsL d s).getD i (Seat.mk (0 : Int) (0 : Int))) (Rw.mk (stsL d s).length fun i => (stsL d s).getD i (Seat.mk (0 : Int) (0 : Int)))) (fun (x2 :
    Bool) => Tree.need (!x2 || x2 && x2) (Tree.need (!x2 || x2) (Tree.bnd (x2 && stsE d s == stsE d s) (fun (x3 : Bool) => Tree.need (!x3 || x3) (Tree.bnd (x3 || false) (fun (x4 : Bool)
    => Tree.leaf (AV.bool false x4) ([])))))))))))))))))))) := by kernel_rfl
theorem scl_hs : WHnd (mkS Try.prog tab_scan) (bodyOf Try.f3) 8 sclF (fun x_ => (hnd (mkS Try.prog tab_scan) 1)) := by
  refine ⟨?_⟩
  rintro ⟨d, ⟨s, ⟨⟩⟩⟩ hp G h1 h2
  exact hnd_hndOk (mkS_ok tab_scan_ok) 1 G _ h1
theorem scl_run : WRun (mkS Try.prog tab_scan) Try.f3 8 sclF (fun x_ => (hnd (mkS Try.prog tab_scan) 1)) := by
  refine ⟨?_⟩
  rintro ⟨d, ⟨s, ⟨⟩⟩⟩ hp
  refine ⟨⟨rfl, by simp [sclF], rfl⟩, ⟨?_⟩⟩
  rw [scl_t d s]
  simp only [sclF] at hp
  refine den_br (fun h => endOk_same rfl rfl) (fun h => ?_)
  have h : d.ps.n ≤ 14 := by have := of_decide_eq_false h; omega
  have hl := stsL_len d s
  have n1 : (decide (d.ps.n ≤ d.ps.n) && true && decide (d.ps.n ≤ (1000 : Nat))) = true := by simp; omega
  have n2 : (decide (d.ps.n ≤ d.ps.n) && (true && true) && decide (d.ps.n ≤ (900 : Nat))) = true := by simp; omega
  have n3 : (decide ((stsL d s).length ≤ (stsL d s).length) && (decide ((stsL d s).length ≤ (stsL d s).length) && true) && decide ((stsL d s).length ≤ (4000 : Nat) ∧ (stsL d s).length ≤ (4000 : Nat))) = true := by simp; omega
  rw [n1, n2, n3]
  simp only [sameS_self, beq_self_eq_true, Bool.and_true, Bool.or_false]
  refine den_need rfl (den_need rfl (den_need rfl (den_need rfl ?_)))
  repeat (first | refine den_need rfl ?_ | (refine den_bnd fun x hx => ?_; subst hx))
  exact endOk_same rfl rfl
theorem scl_s : FSound Try.prog 3 sclC :=
  fn_W (mkS_ok tab_scan_ok) Try.func3 (by kernel_rfl) (by kernel_rfl) (by decide) scl_hs scl_run
def tab_scl : Tab := addF tab_scan 3 sclC
theorem tab_scl_ok : TabOk tab_scl := tab_scan_ok.add scl_s
end Go.Proofs.Ytbpffdkemeoajaa
