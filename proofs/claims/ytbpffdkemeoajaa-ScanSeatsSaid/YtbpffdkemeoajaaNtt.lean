/- Is a drawing valid? (layer 7) -/
import Derived.Test.YtbpffdkemeoajaaNts
namespace Go.Proofs.Ytbpffdkemeoajaa
open Go.SX
def okPs (p : Play) (l : Rw Piece) : Bool := (firstN (badP ⟨p⟩ l) l.n 0).isNone
def withinSF : Int × Int × Int × Unit → Bool × AV := fun | (n, (a, (b, _))) => (true, .bool false (within n a b))
def withinSC : FC := pureFC (pfOf withinSF)
set_option maxRecDepth 100000 in
theorem withinS_t (n : Int) (a : Int) (b : Int) : execFn (mkE Try.prog tab_conp) (hnd (mkE Try.prog tab_conp) 2) false Try.f66 (EncL.enc ((n, a, b, ()) : Int × Int × Int × Unit)) [] 0 =
    Tree.br (decide (a ≤ n)) (Tree.leaf (AV.bool false (decide (n ≤ b))) ([])) (Tree.leaf (AV.bool true false) ([])) := by kernel_rfl
theorem withinS_s : FSound Try.prog 66 withinSC := by
  refine plain_fn tab_conp_ok 2 Try.func66 (by kernel_rfl) (by kernel_rfl) ?_
  rintro ⟨n, a, b, ⟨⟩⟩ hp
  rw [withinS_t n a b]
  simp only [withinSF, Tree.den, AV.same, AV.sameL, and_true, true_and] at hp ⊢
  (repeat' (first | (refine And.intro ?_ ?_) | (intro _))) <;> simp_all [within] <;> omega
def tab_withinS : Tab := addF tab_conp 66 withinSC
theorem tab_withinS_ok : TabOk tab_withinS := tab_conp_ok.add withinS_s
def arePF : WF (Play × (Rw Piece) × Unit) := fun | (p, (l, _)) => (decide (l.n ≤ 1000), .bool false (okPs p l), [])
def arePC : FC := wFC arePF
set_option maxRecDepth 100000 in
theorem areP_t (p : Play) (l : (Rw Piece)) : execW (mkE Try.prog tab_withinS) (hnd (mkE Try.prog tab_withinS) 0) Try.f42 (ArgsE.vals 0 ((p, l, ()) : Play × (Rw Piece) × Unit)) (ArgsE.blks 0 ((p, l, ()) : Play × (Rw Piece) × Unit)) 8 =
    Tree.need (decide (l.n ≤ l.n) && (true && true) && decide (l.n ≤ (1000 : Nat))) (Tree.leaf (AV.bool false !decide (idxOf (firstN (badP (FnC.mk p) l) l.n (0 : Nat)) ≥ (0 : Int)))
    ([])) := by kernel_rfl
theorem areP_hs : WHnd (mkE Try.prog tab_withinS) (bodyOf Try.f42) 8 arePF (fun x_ => (hnd (mkE Try.prog tab_withinS) 0)) := by
  refine ⟨?_⟩
  rintro ⟨p, ⟨l, ⟨⟩⟩⟩ hp G h1 h2
  exact hnd_hndOk (mkE_ok tab_withinS_ok) 0 G _ h1
theorem areP_run : WRun (mkE Try.prog tab_withinS) Try.f42 8 arePF (fun x_ => (hnd (mkE Try.prog tab_withinS) 0)) := by
  refine ⟨?_⟩
  rintro ⟨p, ⟨l, ⟨⟩⟩⟩ hp
  refine ⟨⟨rfl, by simp [arePF], rfl⟩, ⟨?_⟩⟩
  rw [areP_t p l]
  simp only [arePF] at hp
  exact den_need (by simpa using hp) (endOk_same (idxOf_neg _) rfl)
theorem areP_s : FSound Try.prog 42 arePC :=
  fn_W (mkE_ok tab_withinS_ok) Try.func42 (by kernel_rfl) (by kernel_rfl) (by decide) areP_hs areP_run
def tab_areP : Tab := addF tab_withinS 42 arePC
theorem tab_areP_ok : TabOk tab_areP := tab_withinS_ok.add areP_s
def Puz.okN (d : Puz) : Bool := within (d.ps.n : Int) 1 9 && (within d.wide 1 d.ps.n && (within d.high 1 d.ps.n && IntKind.i64.wrap (d.wide * d.high) == (d.ps.n : Int)))
def Puz.ok (d : Puz) : Bool := d.okN && okPs d.play d.ps
def isDrF : WF (Puz × Unit) := fun | (d, _) => (decide (d.ps.n ≤ 1000), .bool false d.ok, [])
def isDrC : FC := wFC isDrF
set_option maxRecDepth 100000 in
theorem isDr_t (d : Puz) : execW (mkE Try.prog tab_areP) (hnd (mkE Try.prog tab_areP) 0) Try.f37 (ArgsE.vals 0 ((d, ()) : Puz × Unit)) (ArgsE.blks 0 ((d, ()) : Puz × Unit)) 8 =
    Tree.need (true) (Tree.br (within (↑d.ps.n : Int) (1 : Int) (9 : Int)) (Tree.need (true) (Tree.br (within d.wide (1 : Int) (↑d.ps.n : Int)) (Tree.need (true) (Tree.br (within d.high
    (1 : Int) (↑d.ps.n : Int)) (Tree.br (IntKind.i64.wrap (d.wide * d.high) == (↑d.ps.n : Int)) (Tree.need (true && (decide (d.ps.n ≤ d.ps.n) && true) && decide (d.ps.n ≤ (1000 : Nat)))
    (Tree.leaf (AV.bool false (okPs d.play d.ps)) ([]))) (Tree.leaf (AV.bool true false) ([]))) (Tree.leaf (AV.bool true false) ([])))) (Tree.leaf (AV.bool true false) ([]))))
    (Tree.leaf (AV.bool true false) ([]))) := by kernel_rfl
theorem isDr_hs : WHnd (mkE Try.prog tab_areP) (bodyOf Try.f37) 8 isDrF (fun x_ => (hnd (mkE Try.prog tab_areP) 0)) := by
  refine ⟨?_⟩
  rintro ⟨d, ⟨⟩⟩ hp G h1 h2
  exact hnd_hndOk (mkE_ok tab_areP_ok) 0 G _ h1
theorem isDr_run : WRun (mkE Try.prog tab_areP) Try.f37 8 isDrF (fun x_ => (hnd (mkE Try.prog tab_areP) 0)) := by
  refine ⟨?_⟩
  rintro ⟨d, ⟨⟩⟩ hp
  refine ⟨⟨rfl, by simp [isDrF], rfl⟩, ⟨?_⟩⟩
  rw [isDr_t d]
  simp only [isDrF] at hp
  have no : d.okN = false → (Tree.leaf (AV.bool true false) []).den (EndOk 8 (isDrF (d, ())).2.1 (isDrF (d, ())).2.2) := fun h => endOk_same (show false = d.ok by rw [Puz.ok, h]; rfl) rfl
  refine den_need rfl (den_br (fun h1 => den_need rfl (den_br (fun h2 => den_need rfl (den_br (fun h3 => den_br (fun h4 => den_need (by simpa using hp) (endOk_same (show okPs d.play d.ps = d.ok by rw [Puz.ok, Puz.okN, h1, h2, h3, h4]; rfl) rfl)) (fun h4 => no (by rw [Puz.okN, h1, h2, h3, h4]; rfl))) (fun h3 => no (by rw [Puz.okN, h1, h2, h3]; rfl)))) (fun h2 => no (by rw [Puz.okN, h1, h2]; rfl)))) (fun h1 => no (by rw [Puz.okN, h1]; rfl)))
theorem isDr_s : FSound Try.prog 37 isDrC :=
  fn_W (mkE_ok tab_areP_ok) Try.func37 (by kernel_rfl) (by kernel_rfl) (by decide) isDr_hs isDr_run
def tab_isDr : Tab := addF tab_areP 37 isDrC
theorem tab_isDr_ok : TabOk tab_isDr := tab_areP_ok.add isDr_s
end Go.Proofs.Ytbpffdkemeoajaa
/- What lies beside a cell (layer 7). -/
namespace Go.Proofs.Ytbpffdkemeoajaa
open Go.SX
def accF (s : Int) : Int := (s + 2).tmod 4
def acrossF : Int × Unit → Bool × AV := fun | (s, _) => (decide (0 ≤ s ∧ s ≤ 3), .int false .i64 (accF s))
def acrossC : FC := pureFC (pfOf acrossF)
set_option maxRecDepth 100000 in
theorem across_t (s : Int) : execFn (mkE Try.prog tab_isDr) (hnd (mkE Try.prog tab_isDr) 2) false Try.f39 (EncL.enc ((s, ()) : Int × Unit)) [] 0 =
    Tree.leaf (AV.int false IntKind.i64 ((IntKind.i64.wrap (s + (2 : Int))).tmod (4 : Int))) ([]) := by kernel_rfl
theorem across_s : FSound Try.prog 39 acrossC := by
  refine plain_fn tab_isDr_ok 2 Try.func39 (by kernel_rfl) (by kernel_rfl) ?_
  rintro ⟨s, ⟨⟩⟩ hp
  rw [across_t s]
  simp only [acrossF, Tree.den, AV.same, AV.sameL, and_true, true_and] at hp ⊢
  have hp := of_decide_eq_true hp
  show (IntKind.i64.wrap (s + 2)).tmod 4 = accF s
  rw [w64 (by omega) (by omega)]; rfl
def tab_across : Tab := addF tab_isDr 39 acrossC
theorem tab_across_ok : TabOk tab_across := tab_isDr_ok.add across_s
def besF (wide high cell side : Int) : Int :=
  cond (side == 0 && decide (0 < cell.tdiv wide)) (cell - wide) (cond (side == 1 && decide (cell.tmod wide < wide - 1)) (cell + 1)
    (cond (side == 2 && decide (cell.tdiv wide < high - 1)) (cell + wide) (cond (side == 3 && decide (0 < cell.tmod wide)) (cell - 1) (-1))))
def besideF : WF (Puz × Int × Int × Unit) := fun | (d, (c, (s, _))) => (decide ((1 ≤ d.wide ∧ d.wide ≤ 100) ∧ (1 ≤ d.high ∧ d.high ≤ 100) ∧ (0 ≤ c ∧ c ≤ 100)), .int false .i64 (besF d.wide d.high c s), [])
def besideC : FC := wFC besideF
set_option maxRecDepth 100000 in
theorem beside_t (d : Puz) (c : Int) (s : Int) : execW (mkE Try.prog tab_across) (hnd (mkE Try.prog tab_across) 0) Try.f38 (ArgsE.vals 0 ((d, c, s, ()) : Puz × Int × Int × Unit)) (ArgsE.blks 0 ((d, c, s, ()) : Puz × Int × Int × Unit)) 8 =
    Tree.need (!decide (d.wide = (0 : Int))) (Tree.need (!decide (d.wide = (0 : Int))) (Tree.br (s == (0 : Int)) (Tree.br (decide (IntKind.i64.wrap (c.tdiv d.wide) > (0 : Int)))
    (Tree.leaf (AV.int false IntKind.i64 (IntKind.i64.wrap (c - d.wide))) ([])) (Tree.br (s == (1 : Int)) (Tree.br (decide (c.tmod d.wide < IntKind.i64.wrap (d.wide - (1 : Int))))
    (Tree.leaf (AV.int false IntKind.i64 (IntKind.i64.wrap (c + (1 : Int)))) ([])) (Tree.br (s == (2 : Int)) (Tree.br (decide (IntKind.i64.wrap (c.tdiv d.wide) < IntKind.i64.wrap
    (d.high - (1 : Int)))) (Tree.leaf (AV.int false IntKind.i64 (IntKind.i64.wrap (c + d.wide))) ([])) (Tree.br (s == (3 : Int)) (Tree.br (decide (c.tmod d.wide > (0 : Int))) (Tree.leaf
    (AV.int false IntKind.i64 (IntKind.i64.wrap (c - (1 : Int)))) ([])) (Tree.leaf (AV.int true IntKind.i64 (-1 : Int)) ([]))) (Tree.leaf (AV.int true IntKind.i64 (-1 : Int)) ([]))))
    (Tree.br (s == (3 : Int)) (Tree.br (decide (c.tmod d.wide > (0 : Int))) (Tree.leaf (AV.int false IntKind.i64 (IntKind.i64.wrap (c - (1 : Int)))) ([])) (Tree.leaf (AV.int true
    IntKind.i64 (-1 : Int)) ([]))) (Tree.leaf (AV.int true IntKind.i64 (-1 : Int)) ([]))))) (Tree.br (s == (2 : Int)) (Tree.br (decide (IntKind.i64.wrap (c.tdiv d.wide) <
    IntKind.i64.wrap (d.high - (1 : Int)))) (Tree.leaf (AV.int false IntKind.i64 (IntKind.i64.wrap (c + d.wide))) ([])) (Tree.br (s == (3 : Int)) (Tree.br (decide (c.tmod d.wide > (0 :
    Int))) (Tree.leaf (AV.int false IntKind.i64 (IntKind.i64.wrap (c - (1 : Int)))) ([])) (Tree.leaf (AV.int true IntKind.i64 (-1 : Int)) ([]))) (Tree.leaf (AV.int true IntKind.i64 (-1
    : Int)) ([])))) (Tree.br (s == (3 : Int)) (Tree.br (decide (c.tmod d.wide > (0 : Int))) (Tree.leaf (AV.int false IntKind.i64 (IntKind.i64.wrap (c - (1 : Int)))) ([])) (Tree.leaf
    (AV.int true IntKind.i64 (-1 : Int)) ([]))) (Tree.leaf (AV.int true IntKind.i64 (-1 : Int)) ([])))))) (Tree.br (s == (1 : Int)) (Tree.br (decide (c.tmod d.wide < IntKind.i64.wrap
    (d.wide - (1 : Int)))) (Tree.leaf (AV.int false IntKind.i64 (IntKind.i64.wrap (c + (1 : Int)))) ([])) (Tree.br (s == (2 : Int)) (Tree.br (decide (IntKind.i64.wrap (c.tdiv d.wide) <
    IntKind.i64.wrap (d.high - (1 : Int)))) (Tree.leaf (AV.int false IntKind.i64 (IntKind.i64.wrap (c + d.wide))) ([])) (Tree.br (s == (3 : Int)) (Tree.br (decide (c.tmod d.wide > (0 :
    Int))) (Tree.leaf (AV.int false IntKind.i64 (IntKind.i64.wrap (c - (1 : Int)))) ([])) (Tree.leaf (AV.int true IntKind.i64 (-1 : Int)) ([]))) (Tree.leaf (AV.int true IntKind.i64 (-1
    : Int)) ([])))) (Tree.br (s == (3 : Int)) (Tree.br (decide (c.tmod d.wide > (0 : Int))) (Tree.leaf (AV.int false IntKind.i64 (IntKind.i64.wrap (c - (1 : Int)))) ([])) (Tree.leaf
    (AV.int true IntKind.i64 (-1 : Int)) ([]))) (Tree.leaf (AV.int true IntKind.i64 (-1 : Int)) ([]))))) (Tree.br (s == (2 : Int)) (Tree.br (decide (IntKind.i64.wrap (c.tdiv d.wide) <
    IntKind.i64.wrap (d.high - (1 : Int)))) (Tree.leaf (AV.int false IntKind.i64 (IntKind.i64.wrap (c + d.wide))) ([])) (Tree.br (s == (3 : Int)) (Tree.br (decide (c.tmod d.wide > (0 :
    Int))) (Tree.leaf (AV.int false IntKind.i64 (IntKind.i64.wrap (c - (1 : Int)))) ([])) (Tree.leaf (AV.int true IntKind.i64 (-1 : Int)) ([]))) (Tree.leaf (AV.int true IntKind.i64 (-1
    : Int)) ([])))) (Tree.br (s == (3 : Int)) (Tree.br (decide (c.tmod d.wide > (0 : Int))) (Tree.leaf (AV.int false IntKind.i64 (IntKind.i64.wrap (c - (1 : Int)))) ([])) (Tree.leaf
    (AV.int true IntKind.i64 (-1 : Int)) ([]))) (Tree.leaf (AV.int true IntKind.i64 (-1 : Int)) ([]))))))) := by kernel_rfl
theorem beside_hs : WHnd (mkE Try.prog tab_across) (bodyOf Try.f38) 8 besideF (fun x_ => (hnd (mkE Try.prog tab_across) 0)) := by
  refine ⟨?_⟩
  rintro ⟨d, ⟨c, ⟨s, ⟨⟩⟩⟩⟩ hp G h1 h2
  exact hnd_hndOk (mkE_ok tab_across_ok) 0 G _ h1
theorem beside_run : WRun (mkE Try.prog tab_across) Try.f38 8 besideF (fun x_ => (hnd (mkE Try.prog tab_across) 0)) := by
  refine ⟨?_⟩
  rintro ⟨d, ⟨c, ⟨s, ⟨⟩⟩⟩⟩ hp
  refine ⟨⟨rfl, by simp [besideF], rfl⟩, ⟨?_⟩⟩
  rw [beside_t d c s]
  simp only [besideF] at hp
  obtain ⟨⟨w1, w2⟩, ⟨h1, h2⟩, c1, c2⟩ := of_decide_eq_true hp
  have q0 : 0 ≤ c.tdiv d.wide := Int.tdiv_nonneg c1 (by omega)
  have q1 : c.tdiv d.wide ≤ c := by rw [Int.tdiv_eq_ediv_of_nonneg c1]; exact Int.ediv_le_self _ c1
  have m0 : 0 ≤ c.tmod d.wide := Int.tmod_nonneg _ c1
  have m1 : c.tmod d.wide < d.wide := Int.tmod_lt_of_pos _ (by omega)
  have e1 : IntKind.i64.wrap (c.tdiv d.wide) = c.tdiv d.wide := w64 (by omega) (by omega)
  have e2 : IntKind.i64.wrap (c - d.wide) = c - d.wide := w64 (by omega) (by omega)
  have e3 : IntKind.i64.wrap (d.wide - 1) = d.wide - 1 := w64 (by omega) (by omega)
  have e4 : IntKind.i64.wrap (c + 1) = c + 1 := w64 (by omega) (by omega)
  have e5 : IntKind.i64.wrap (d.high - 1) = d.high - 1 := w64 (by omega) (by omega)
  have e6 : IntKind.i64.wrap (c + d.wide) = c + d.wide := w64 (by omega) (by omega)
  have e7 : IntKind.i64.wrap (c - 1) = c - 1 := w64 (by omega) (by omega)
  have dz : (!decide (d.wide = 0)) = true := by simp; omega
  rw [e1, e2, e3, e4, e5, e6, e7]
  refine den_need dz (den_need dz ?_)
  have fin : ∀ v : AV, v.same (.int false .i64 (besF d.wide d.high c s)) → (Tree.leaf v []).den (EndOk 8 (besideF (d, c, s, ())).2.1 (besideF (d, c, s, ())).2.2) := fun v h => endOk_same h rfl
  repeat' refine den_br (fun _ => ?_) (fun _ => ?_)
  all_goals refine fin _ ?_
  all_goals simp only [AV.same, besF, true_and]
  all_goals grind
theorem beside_s : FSound Try.prog 38 besideC :=
  fn_W (mkE_ok tab_across_ok) Try.func38 (by kernel_rfl) (by kernel_rfl) (by decide) beside_hs beside_run
def tab_beside : Tab := addF tab_across 38 besideC
theorem tab_beside_ok : TabOk tab_beside := tab_across_ok.add beside_s
end Go.Proofs.Ytbpffdkemeoajaa
/- Check: is a drawing right? (layer 7) -/
namespace Go.Proofs.Ytbpffdkemeoajaa
open Go.SX
def puzC (d : Puz) : List AV := [.int false .i64 d.play.length, .int false .i64 d.play.slack, .int false .i64 d.play.loose, .int false .i64 d.play.damp.lo, .int false .i64 d.play.damp.hi, .int false .i64 d.wide, .int false .i64 d.high, .bool false d.turn, .slz 0 0 d.ps.n (.of 0)]
def chkJ (d : Puz) (c : Nat) : JSt := ⟨62, [(1, .ptr 8 0 0), (16, .slz 0 0 d.ps.n (.of 0)), (17, .int false .i64 d.ps.n), (18, .int false .i64 c)], [(8, .cells 0 28 (puzC d))] ++ ArgE.blk 0 d.ps, 96⟩
def chkLs : Ex → List Nat
  | .normal => [1, 16, 17, 18]
  | .exit _ => []
  | .ret => [2, 3, 4]
set_option maxRecDepth 100000 in
theorem chk_r (d : Puz) (c : Nat) (g : Nat → Value) : exec (mkE Try.prog tab_beside) (hnd (mkE Try.prog tab_beside) 6) (bodyK Try.f13 0) (JSt.inst (chkJ d c) g) (leafW [] chkLs) =
    Tree.br (decide ((↑c : Int) < (↑d.ps.n : Int))) (Tree.need (decide ((0 : Int) ≤ (↑c : Int) ∧ (↑c : Int) < (↑d.ps.n : Int)) && decide (d.ps.n ≤ d.ps.n)) (Tree.need (decide (c <
    d.ps.n)) (Tree.need (decide (d.ps.n ≤ d.ps.n) && (true && (true && true)) && decide (((1 : Int) ≤ d.wide ∧ d.wide ≤ (100 : Int)) ∧ ((1 : Int) ≤ d.high ∧ d.high ≤ (100 : Int)) ∧ (0 :
    Int) ≤ (↑c : Int) ∧ (↑c : Int) ≤ (100 : Int))) (Tree.br (besF d.wide d.high (↑c : Int) (0 : Int) == (-1 : Int)) (Tree.br ((d.ps.get c).up.kind != (0 : Int)) (Tree.leaf (AV.tup
    [AV.nili, AV.ptr (62 : Nat) (0 : Nat) (0 : Nat), AV.int false IntKind.i64 (↑c : Int), AV.int true IntKind.i64 (0 : Int), AV.int true IntKind.i64 (0 : Int)]) ([])) (Tree.need (decide
    (d.ps.n ≤ d.ps.n) && (true && (true && true)) && decide (((1 : Int) ≤ d.wide ∧ d.wide ≤ (100 : Int)) ∧ ((1 : Int) ≤ d.high ∧ d.high ≤ (100 : Int)) ∧ (0 : Int) ≤ (↑c : Int) ∧ (↑c :
    Int) ≤ (100 : Int))) (Tree.br (besF d.wide d.high (↑c : Int) (1 : Int) == (-1 : Int)) (Tree.br ((d.ps.get c).right.kind != (0 : Int)) (Tree.leaf (AV.tup [AV.nili, AV.ptr (62 : Nat)
    (0 : Nat) (0 : Nat), AV.int false IntKind.i64 (↑c : Int), AV.int true IntKind.i64 (1 : Int), AV.int true IntKind.i64 (0 : Int)]) ([])) (Tree.need (decide (d.ps.n ≤ d.ps.n) && (true
    && (true && true)) && decide (((1 : Int) ≤ d.wide ∧ d.wide ≤ (100 : Int)) ∧ ((1 : Int) ≤ d.high ∧ d.high ≤ (100 : Int)) ∧ (0 : Int) ≤ (↑c : Int) ∧ (↑c : Int) ≤ (100 : Int)))
    (Tree.br (besF d.wide d.high (↑c : Int) (2 : Int) == (-1 : Int)) (Tree.br ((d.ps.get c).down.kind != (0 : Int)) (Tree.leaf (AV.tup [AV.nili, AV.ptr (62 : Nat) (0 : Nat) (0 : Nat),
    AV.int false IntKind.i64 (↑c : Int), AV.int true IntKind.i64 (2 : Int), AV.int true IntKind.i64 (0 : Int)]) ([])) (Tree.need (decide (d.ps.n ≤ d.ps.n) && (true && (true && true)) &&
    decide (((1 : Int) ≤ d.wide ∧ d.wide ≤ (100 : Int)) ∧ ((1 : Int) ≤ d.high ∧ d.high ≤ (100 : Int)) ∧ (0 : Int) ≤ (↑c : Int) ∧ (↑c : Int) ≤ (100 : Int))) (Tree.br (besF d.wide d.high
    (↑c : Int) (3 : Int) == (-1 : Int)) (Tree.br ((d.ps.get c).left.kind != (0 : Int)) (Tree.leaf (AV.tup [AV.nili, AV.ptr (62 : Nat) (0 : Nat) (0 : Nat), AV.int false IntKind.i64 (↑c :
    Int), AV.int true IntKind.i64 (3 : Int), AV.int true IntKind.i64 (0 : Int)]) ([])) (Tree.leaf (AV.tup [AV.nilp, AV.ptr (62 : Nat) (0 : Nat) (0 : Nat), AV.ptr (8 : Nat) (0 : Nat) (0
    : Nat), AV.slz (0 : Nat) (0 : Nat) d.ps.n (Cap.of (0 : Nat)), AV.int false IntKind.i64 (↑d.ps.n : Int), AV.int false IntKind.i64 (IntKind.i64.wrap ((↑c : Int) + (1 : Int)))]) ([((8
    : Nat), Blk.cells (0 : Nat) (28 : Nat) [AV.int false IntKind.i64 d.play.length, AV.int false IntKind.i64 d.play.slack, AV.int false IntKind.i64 d.play.loose, AV.int false
    IntKind.i64 d.play.damp.lo, AV.int false IntKind.i64 d.play.damp.hi, AV.int false IntKind.i64 d.wide, AV.int false IntKind.i64 d.high, AV.bool false d.turn, AV.slz (0 : Nat) (0 :
    Nat) d.ps.n (Cap.of (0 : Nat))]), ((0 : Nat), Blk.frz [CK.int IntKind.i64, CK.int IntKind.i64, CK.int IntKind.i64, CK.int IntKind.i64, CK.int IntKind.i64, CK.int IntKind.i64, CK.int
    IntKind.i64, CK.int IntKind.i64, CK.int IntKind.i64, CK.int IntKind.i64, CK.int IntKind.i64, CK.int IntKind.i64, CK.int IntKind.i64, CK.int IntKind.i64, CK.int IntKind.i64, CK.int
    IntKind.i64, CK.int IntKind.i64, CK.int IntKind.i64, CK.int IntKind.i64, CK.int IntKind.i64, CK.int IntKind.i64, CK.int IntKind.i64, CK.int IntKind.i64, CK.int IntKind.i64, CK.int
    IntKind.i64, CK.int IntKind.i64, CK.int IntKind.i64, CK.int IntKind.i64] d.ps.n fun i => RowT.enc (d.ps.get i))]))) (Tree.need (decide ((0 : Int) ≤ besF d.wide d.high (↑c : Int) (3
    : Int) ∧ besF d.wide d.high (↑c : Int) (3 : Int) < (↑d.ps.n : Int)) && decide (d.ps.n ≤ d.ps.n)) (Tree.need (decide ((besF d.wide d.high (↑c : Int) (3 : Int)).toNat < d.ps.n))
    (Tree.need (true) (Tree.br ((FitF d.play (d.ps.get c).left (d.ps.get (besF d.wide d.high (↑c : Int) (3 : Int)).toNat).right).1 != (2 : Int)) (Tree.leaf (AV.tup [AV.nili, AV.ptr (62
    : Nat) (0 : Nat) (0 : Nat), AV.int false IntKind.i64 (↑c : Int), AV.int true IntKind.i64 (3 : Int), AV.int true IntKind.i64 (0 : Int)]) ([])) (Tree.leaf (AV.tup [AV.nilp, AV.ptr (62
    : Nat) (0 : Nat) (0 : Nat), AV.ptr (8 : Nat) (0 : Nat) (0 : Nat), AV.slz (0 : Nat) (0 : Nat) d.ps.n (Cap.of (0 : Nat)), AV.int false IntKind.i64 (↑d.ps.n : Int), AV.int false
    IntKind.i64 (IntKind.i64.wrap ((↑c : Int) + (1 : Int)))]) ([((8 : Nat), Blk.cells (0 : Nat) (28 : Nat) [AV.int false IntKind.i64 d.play.length, AV.int false IntKind.i64
    d.play.slack, AV.int false IntKind.i64 d.play.loose, AV.int false IntKind.i64 d.play.damp.lo, AV.int false IntKind.i64 d.play.damp.hi, AV.int false IntKind.i64 d.wide, AV.int false
    IntKind.i64 d.high, AV.bool false d.turn, AV.slz (0 : Nat) (0 : Nat) d.ps.n (Cap.of (0 : Nat))]), ((0 : Nat), Blk.frz [CK.int IntKind.i64, CK.int IntKind.i64, CK.int IntKind.i64,
    CK.int IntKind.i64, CK.int IntKind.i64, CK.int IntKind.i64, CK.int IntKind.i64, CK.int IntKind.i64, CK.int IntKind.i64, CK.int IntKind.i64, CK.int IntKind.i64, CK.int IntKind.i64,
    CK.int IntKind.i64, CK.int IntKind.i64, CK.int IntKind.i64, CK.int IntKind.i64, CK.int IntKind.i64, CK.int IntKind.i64, CK.int IntKind.i64, CK.int IntKind.i64, CK.int IntKind.i64,
    CK.int IntKind.i64, CK.int IntKind.i64, CK.int IntKind.i64, CK.int IntKind.i64, CK.int IntKind.i64, CK.int IntKind.i64, CK.int IntKind.i64] d.ps.n fun i => RowT.enc (d.ps.get
    i))]))))))))) (Tree.need (decide ((0 : Int) ≤ besF d.wide d.high (↑c : Int) (2 : Int) ∧ besF d.wide d.high (↑c : Int) (2 : Int) < (↑d.ps.n : Int)) && decide (d.ps.n ≤ d.ps.n))
    (Tree.need (decide ((besF d.wide d.high (↑c : Int) (2 : Int)).toNat < d.ps.n)) (Tree.need (true) (Tree.br ((FitF d.play (d.ps.get c).down (d.ps.get (besF d.wide d.high (↑c : Int) (2
    : Int)).toNat).up).1 != (2 : Int)) (Tree.leaf (AV.tup [AV.nili, AV.ptr (62 : Nat) (0 : Nat) (0 : Nat), AV.int false IntKind.i64 (↑c : Int), AV.int true IntKind.i64 (2 : Int), AV.int
    true IntKind.i64 (0 : Int)]) ([])) (Tree.need (decide (d.ps.n ≤ d.ps.n) && (true && (true && true)) && decide (((1 : Int) ≤ d.wide ∧ d.wide ≤ (100 : Int)) ∧ ((1 : Int) ≤ d.high ∧
    d.high ≤ (100 : Int)) ∧ (0 : Int) ≤ (↑c : Int) ∧ (↑c : Int) ≤ (100 : Int))) (Tree.br (besF d.wide d.high (↑c : Int) (3 : Int) == (-1 : Int)) (Tree.br ((d.ps.get c).left.kind != (0 :
    Int)) (Tree.leaf (AV.tup [AV.nili, AV.ptr (62 : Nat) (0 : Nat) (0 : Nat), AV.int false IntKind.i64 (↑c : Int), AV.int true IntKind.i64 (3 : Int), AV.int true IntKind.i64 (0 : Int)])
    ([])) (Tree.leaf (AV.tup [AV.nilp, AV.ptr (62 : Nat) (0 : Nat) (0 : Nat), AV.ptr (8 : Nat) (0 : Nat) (0 : Nat), AV.slz (0 : Nat) (0 : Nat) d.ps.n (Cap.of (0 : Nat)), AV.int false
    IntKind.i64 (↑d.ps.n : Int), AV.int false IntKind.i64 (IntKind.i64.wrap ((↑c : Int) + (1 : Int)))]) ([((8 : Nat), Blk.cells (0 : Nat) (28 : Nat) [AV.int false IntKind.i64
    d.play.length, AV.int false IntKind.i64 d.play.slack, AV.int false IntKind.i64 d.play.loose, AV.int false IntKind.i64 d.play.damp.lo, AV.int false IntKind.i64 d.play.damp.hi, AV.int
    false IntKind.i64 d.wide, AV.int false IntKind.i64 d.high, AV.bool false d.turn, AV.slz (0 : Nat) (0 : Nat) d.ps.n (Cap.of (0 : Nat))]), ((0 : Nat), Blk.frz [CK.int IntKind.i64,
    CK.int IntKind.i64, CK.int IntKind.i64, CK.int IntKind.i64, CK.int IntKind.i64, CK.int IntKind.i64, CK.int IntKind.i64, CK.int IntKind.i64, CK.int IntKind.i64, CK.int IntKind.i64,
    CK.int IntKind.i64, CK.int IntKind.i64, CK.int IntKind.i64, CK.int IntKind.i64, CK.int IntKind.i64, CK.int IntKind.i64, CK.int IntKind.i64, CK.int IntKind.i64, CK.int IntKind.i64,
    CK.int IntKind.i64, CK.int IntKind.i64, CK.int IntKind.i64, CK.int IntKind.i64, CK.int IntKind.i64, CK.int IntKind.i64, CK.int IntKind.i64, CK.int IntKind.i64, CK.int IntKind.i64]
    d.ps.n fun i => RowT.enc (d.ps.get i))]))) (Tree.need (decide ((0 : Int) ≤ besF d.wide d.high (↑c : Int) (3 : Int) ∧ besF d.wide d.high (↑c : Int) (3 : Int) < (↑d.ps.n : Int)) &&
    decide (d.ps.n ≤ d.ps.n)) (Tree.need (decide ((besF d.wide d.high (↑c : Int) (3 : Int)).toNat < d.ps.n)) (Tree.need (true) (Tree.br ((FitF d.play (d.ps.get c).left (d.ps.get (besF
    d.wide d.high (↑c : Int) (3 : Int)).toNat).right).1 != (2 : Int)) (Tree.leaf (AV.tup [AV.nili, AV.ptr (62 : Nat) (0 : Nat) (0 : Nat), AV.int false IntKind.i64 (↑c : Int), AV.int
    true IntKind.i64 (3 : Int), AV.int true IntKind.i64 (0 : Int)]) ([])) (Tree.leaf (AV.tup [AV.nilp, AV.ptr (62 : Nat) (0 : Nat) (0 : Nat), AV.ptr (8 : Nat) (0 : Nat) (0 : Nat),
    AV.slz (0 : Nat) (0 : Nat) d.ps.n (Cap.of (0 : Nat)), AV.int false IntKind.i64 (↑d.ps.n : Int), AV.int false IntKind.i64 (IntKind.i64.wrap ((↑c : Int) + (1 : Int)))]) ([((8 : Nat),
    Blk.cells (0 : Nat) (28 : Nat) [AV.int false IntKind.i64 d.play.length, AV.int false IntKind.i64 d.play.slack, AV.int false IntKind.i64 d.play.loose, AV.int false IntKind.i64
    d.play.damp.lo, AV.int false IntKind.i64 d.play.damp.hi, AV.int false IntKind.i64 d.wide, AV.int false IntKind.i64 d.high, AV.bool false d.turn, AV.slz (0 : Nat) (0 : Nat) d.ps.n
    (Cap.of (0 : Nat))]), ((0 : Nat), Blk.frz [CK.int IntKind.i64, CK.int IntKind.i64, CK.int IntKind.i64, CK.int IntKind.i64, CK.int IntKind.i64, CK.int IntKind.i64, CK.int
    IntKind.i64, CK.int IntKind.i64, CK.int IntKind.i64, CK.int IntKind.i64, CK.int IntKind.i64, CK.int IntKind.i64, CK.int IntKind.i64, CK.int IntKind.i64, CK.int IntKind.i64, CK.int
    IntKind.i64, CK.int IntKind.i64, CK.int IntKind.i64, CK.int IntKind.i64, CK.int IntKind.i64, CK.int IntKind.i64, CK.int IntKind.i64, CK.int IntKind.i64, CK.int IntKind.i64, CK.int
    IntKind.i64, CK.int IntKind.i64, CK.int IntKind.i64, CK.int IntKind.i64] d.ps.n fun i => RowT.enc (d.ps.get i))]))))))))))))))) (Tree.need (decide ((0 : Int) ≤ besF d.wide d.high
    (↑c : Int) (1 : Int) ∧ besF d.wide d.high (↑c : Int) (1 : Int) < (↑d.ps.n : Int)) && decide (d.ps.n ≤ d.ps.n)) (Tree.need (decide ((besF d.wide d.high (↑c : Int) (1 : Int)).toNat <
    d.ps.n)) (Tree.need (true) (Tree.br ((FitF d.play (d.ps.get c).right (d.ps.get (besF d.wide d.high (↑c : Int) (1 : Int)).toNat).left).1 != (2 : Int)) (Tree.leaf (AV.tup [AV.nili,
    AV.ptr (62 : Nat) (0 : Nat) (0 : Nat), AV.int false IntKind.i64 (↑c : Int), AV.int true IntKind.i64 (1 : Int), AV.int true IntKind.i64 (0 : Int)]) ([])) (Tree.need (decide (d.ps.n ≤
    d.ps.n) && (true && (true && true)) && decide (((1 : Int) ≤ d.wide ∧ d.wide ≤ (100 : Int)) ∧ ((1 : Int) ≤ d.high ∧ d.high ≤ (100 : Int)) ∧ (0 : Int) ≤ (↑c : Int) ∧ (↑c : Int) ≤ (100
    : Int))) (Tree.br (besF d.wide d.high (↑c : Int) (2 : Int) == (-1 : Int)) (Tree.br ((d.ps.get c).down.kind != (0 : Int)) (Tree.leaf (AV.tup [AV.nili, AV.ptr (62 : Nat) (0 : Nat) (0
    : Nat), AV.int false IntKind.i64 (↑c : Int), AV.int true IntKind.i64 (2 : Int), AV.int true IntKind.i64 (0 : Int)]) ([])) (Tree.need (decide (d.ps.n ≤ d.ps.n) && (true && (true &&
    true)) && decide (((1 : Int) ≤ d.wide ∧ d.wide ≤ (100 : Int)) ∧ ((1 : Int) ≤ d.high ∧ d.high ≤ (100 : Int)) ∧ (0 : Int) ≤ (↑c : Int) ∧ (↑c : Int) ≤ (100 : Int))) (Tree.br (besF
    d.wide d.high (↑c : Int) (3 : Int) == (-1 : Int)) (Tree.br ((d.ps.get c).left.kind != (0 : Int)) (Tree.leaf (AV.tup [AV.nili, AV.ptr (62 : Nat) (0 : Nat) (0 : Nat), AV.int false
    IntKind.i64 (↑c : Int), AV.int true IntKind.i64 (3 : Int), AV.int true IntKind.i64 (0 : Int)]) ([])) (Tree.leaf (AV.tup [AV.nilp, AV.ptr (62 : Nat) (0 : Nat) (0 : Nat), AV.ptr (8 :
    Nat) (0 : Nat) (0 : Nat), AV.slz (0 : Nat) (0 : Nat) d.ps.n (Cap.of (0 : Nat)), AV.int false IntKind.i64 (↑d.ps.n : Int), AV.int false IntKind.i64 (IntKind.i64.wrap ((↑c : Int) + (1
    : Int)))]) ([((8 : Nat), Blk.cells (0 : Nat) (28 : Nat) [AV.int false IntKind.i64 d.play.length, AV.int false IntKind.i64 d.play.slack, AV.int false IntKind.i64 d.play.loose, AV.int
    false IntKind.i64 d.play.damp.lo, AV.int false IntKind.i64 d.play.damp.hi, AV.int false IntKind.i64 d.wide, AV.int false IntKind.i64 d.high, AV.bool false d.turn, AV.slz (0 : Nat)
    (0 : Nat) d.ps.n (Cap.of (0 : Nat))]), ((0 : Nat), Blk.frz [CK.int IntKind.i64, CK.int IntKind.i64, CK.int IntKind.i64, CK.int IntKind.i64, CK.int IntKind.i64, CK.int IntKind.i64,
    CK.int IntKind.i64, CK.int IntKind.i64, CK.int IntKind.i64, CK.int IntKind.i64, CK.int IntKind.i64, CK.int IntKind.i64, CK.int IntKind.i64, CK.int IntKind.i64, CK.int IntKind.i64,
    CK.int IntKind.i64, CK.int IntKind.i64, CK.int IntKind.i64, CK.int IntKind.i64, CK.int IntKind.i64, CK.int IntKind.i64, CK.int IntKind.i64, CK.int IntKind.i64, CK.int IntKind.i64,
    CK.int IntKind.i64, CK.int IntKind.i64, CK.int IntKind.i64, CK.int IntKind.i64] d.ps.n fun i => RowT.enc (d.ps.get i))]))) (Tree.need (decide ((0 : Int) ≤ besF d.wide d.high (↑c :
    Int) (3 : Int) ∧ besF d.wide d.high (↑c : Int) (3 : Int) < (↑d.ps.n : Int)) && decide (d.ps.n ≤ d.ps.n)) (Tree.need (decide ((besF d.wide d.high (↑c : Int) (3 : Int)).toNat <
    d.ps.n)) (Tree.need (true) (Tree.br ((FitF d.play (d.ps.get c).left (d.ps.get (besF d.wide d.high (↑c : Int) (3 : Int)).toNat).right).1 != (2 : Int)) (Tree.leaf (AV.tup [AV.nili,
    AV.ptr (62 : Nat) (0 : Nat) (0 : Nat), AV.int false IntKind.i64 (↑c : Int), AV.int true IntKind.i64 (3 : Int), AV.int true IntKind.i64 (0 : Int)]) ([])) (Tree.leaf (AV.tup [AV.nilp,
    AV.ptr (62 : Nat) (0 : Nat) (0 : Nat), AV.ptr (8 : Nat) (0 : Nat) (0 : Nat), AV.slz (0 : Nat) (0 : Nat) d.ps.n (Cap.of (0 : Nat)), AV.int false IntKind.i64 (↑d.ps.n : Int), AV.int
    false IntKind.i64 (IntKind.i64.wrap ((↑c : Int) + (1 : Int)))]) ([((8 : Nat), Blk.cells (0 : Nat) (28 : Nat) [AV.int false IntKind.i64 d.play.length, AV.int false IntKind.i64
    d.play.slack, AV.int false IntKind.i64 d.play.loose, AV.int false IntKind.i64 d.play.damp.lo, AV.int false IntKind.i64 d.play.damp.hi, AV.int false IntKind.i64 d.wide, AV.int false
    IntKind.i64 d.high, AV.bool false d.turn, AV.slz (0 : Nat) (0 : Nat) d.ps.n (Cap.of (0 : Nat))]), ((0 : Nat), Blk.frz [CK.int IntKind.i64, CK.int IntKind.i64, CK.int IntKind.i64,
    CK.int IntKind.i64, CK.int IntKind.i64, CK.int IntKind.i64, CK.int IntKind.i64, CK.int IntKind.i64, CK.int IntKind.i64, CK.int IntKind.i64, CK.int IntKind.i64, CK.int IntKind.i64,
    CK.int IntKind.i64, CK.int IntKind.i64, CK.int IntKind.i64, CK.int IntKind.i64, CK.int IntKind.i64, CK.int IntKind.i64, CK.int IntKind.i64, CK.int IntKind.i64, CK.int IntKind.i64,
    CK.int IntKind.i64, CK.int IntKind.i64, CK.int IntKind.i64, CK.int IntKind.i64, CK.int IntKind.i64, CK.int IntKind.i64, CK.int IntKind.i64] d.ps.n fun i => RowT.enc (d.ps.get
    i))]))))))))) (Tree.need (decide ((0 : Int) ≤ besF d.wide d.high (↑c : Int) (2 : Int) ∧ besF d.wide d.high (↑c : Int) (2 : Int) < (↑d.ps.n : Int)) && decide (d.ps.n ≤ d.ps.n))
    (Tree.need (decide ((besF d.wide d.high (↑c : Int) (2 : Int)).toNat < d.ps.n)) (Tree.need (true) (Tree.br ((FitF d.play (d.ps.get c).down (d.ps.get (besF d.wide d.high (↑c : Int) (2
    : Int)).toNat).up).1 != (2 : Int)) (Tree.leaf (AV.tup [AV.nili, AV.ptr (62 : Nat) (0 : Nat) (0 : Nat), AV.int false IntKind.i64 (↑c : Int), AV.int true IntKind.i64 (2 : Int), AV.int
    true IntKind.i64 (0 : Int)]) ([])) (Tree.need (decide (d.ps.n ≤ d.ps.n) && (true && (true && true)) && decide (((1 : Int) ≤ d.wide ∧ d.wide ≤ (100 : Int)) ∧ ((1 : Int) ≤ d.high ∧
    d.high ≤ (100 : Int)) ∧ (0 : Int) ≤ (↑c : Int) ∧ (↑c : Int) ≤ (100 : Int))) (Tree.br (besF d.wide d.high (↑c : Int) (3 : Int) == (-1 : Int)) (Tree.br ((d.ps.get c).left.kind != (0 :
    Int)) (Tree.leaf (AV.tup [AV.nili, AV.ptr (62 : Nat) (0 : Nat) (0 : Nat), AV.int false IntKind.i64 (↑c : Int), AV.int true IntKind.i64 (3 : Int), AV.int true IntKind.i64 (0 : Int)])
    ([])) (Tree.leaf (AV.tup [AV.nilp, AV.ptr (62 : Nat) (0 : Nat) (0 : Nat), AV.ptr (8 : Nat) (0 : Nat) (0 : Nat), AV.slz (0 : Nat) (0 : Nat) d.ps.n (Cap.of (0 : Nat)), AV.int false
    IntKind.i64 (↑d.ps.n : Int), AV.int false IntKind.i64 (IntKind.i64.wrap ((↑c : Int) + (1 : Int)))]) ([((8 : Nat), Blk.cells (0 : Nat) (28 : Nat) [AV.int false IntKind.i64
    d.play.length, AV.int false IntKind.i64 d.play.slack, AV.int false IntKind.i64 d.play.loose, AV.int false IntKind.i64 d.play.damp.lo, AV.int false IntKind.i64 d.play.damp.hi, AV.int
    false IntKind.i64 d.wide, AV.int false IntKind.i64 d.high, AV.bool false d.turn, AV.slz (0 : Nat) (0 : Nat) d.ps.n (Cap.of (0 : Nat))]), ((0 : Nat), Blk.frz [CK.int IntKind.i64,
    CK.int IntKind.i64, CK.int IntKind.i64, CK.int IntKind.i64, CK.int IntKind.i64, CK.int IntKind.i64, CK.int IntKind.i64, CK.int IntKind.i64, CK.int IntKind.i64, CK.int IntKind.i64,
    CK.int IntKind.i64, CK.int IntKind.i64, CK.int IntKind.i64, CK.int IntKind.i64, CK.int IntKind.i64, CK.int IntKind.i64, CK.int IntKind.i64, CK.int IntKind.i64, CK.int IntKind.i64,
    CK.int IntKind.i64, CK.int IntKind.i64, CK.int IntKind.i64, CK.int IntKind.i64, CK.int IntKind.i64, CK.int IntKind.i64, CK.int IntKind.i64, CK.int IntKind.i64, CK.int IntKind.i64]
    d.ps.n fun i => RowT.enc (d.ps.get i))]))) (Tree.need (decide ((0 : Int) ≤ besF d.wide d.high (↑c : Int) (3 : Int) ∧ besF d.wide d.high (↑c : Int) (3 : Int) < (↑d.ps.n : Int)) &&
    decide (d.ps.n ≤ d.ps.n)) (Tree.need (decide ((besF d.wide d.high (↑c : Int) (3 : Int)).toNat < d.ps.n)) (Tree.need (true) (Tree.br ((FitF d.play (d.ps.get c).left (d.ps.get (besF
    d.wide d.high (↑c : Int) (3 : Int)).toNat).right).1 != (2 : Int)) (Tree.leaf (AV.tup [AV.nili, AV.ptr (62 : Nat) (0 : Nat) (0 : Nat), AV.int false IntKind.i64 (↑c : Int), AV.int
    true IntKind.i64 (3 : Int), AV.int true IntKind.i64 (0 : Int)]) ([])) (Tree.leaf (AV.tup [AV.nilp, AV.ptr (62 : Nat) (0 : Nat) (0 : Nat), AV.ptr (8 : Nat) (0 : Nat) (0 : Nat),
    AV.slz (0 : Nat) (0 : Nat) d.ps.n (Cap.of (0 : Nat)), AV.int false IntKind.i64 (↑d.ps.n : Int), AV.int false IntKind.i64 (IntKind.i64.wrap ((↑c : Int) + (1 : Int)))]) ([((8 : Nat),
    Blk.cells (0 : Nat) (28 : Nat) [AV.int false IntKind.i64 d.play.length, AV.int false IntKind.i64 d.play.slack, AV.int false IntKind.i64 d.play.loose, AV.int false IntKind.i64
    d.play.damp.lo, AV.int false IntKind.i64 d.play.damp.hi, AV.int false IntKind.i64 d.wide, AV.int false IntKind.i64 d.high, AV.bool false d.turn, AV.slz (0 : Nat) (0 : Nat) d.ps.n
    (Cap.of (0 : Nat))]), ((0 : Nat), Blk.frz [CK.int IntKind.i64, CK.int IntKind.i64, CK.int IntKind.i64, CK.int IntKind.i64, CK.int IntKind.i64, CK.int IntKind.i64, CK.int
    IntKind.i64, CK.int IntKind.i64, CK.int IntKind.i64, CK.int IntKind.i64, CK.int IntKind.i64, CK.int IntKind.i64, CK.int IntKind.i64, CK.int IntKind.i64, CK.int IntKind.i64, CK.int
    IntKind.i64, CK.int IntKind.i64, CK.int IntKind.i64, CK.int IntKind.i64, CK.int IntKind.i64, CK.int IntKind.i64, CK.int IntKind.i64, CK.int IntKind.i64, CK.int IntKind.i64, CK.int
    IntKind.i64, CK.int IntKind.i64, CK.int IntKind.i64, CK.int IntKind.i64] d.ps.n fun i => RowT.enc (d.ps.get i))]))))))))))))))))))))) (Tree.need (decide ((0 : Int) ≤ besF d.wide
    d.high (↑c : Int) (0 : Int) ∧ besF d.wide d.high (↑c : Int) (0 : Int) < (↑d.ps.n : Int)) && decide (d.ps.n ≤ d.ps.n)) (Tree.need (decide ((besF d.wide d.high (↑c : Int) (0 :
    Int)).toNat < d.ps.n)) (Tree.need (true) (Tree.br ((FitF d.play (d.ps.get c).up (d.ps.get (besF d.wide d.high (↑c : Int) (0 : Int)).toNat).down).1 != (2 : Int)) (Tree.leaf (AV.tup
    [AV.nili, AV.ptr (62 : Nat) (0 : Nat) (0 : Nat), AV.int false IntKind.i64 (↑c : Int), AV.int true IntKind.i64 (0 : Int), AV.int true IntKind.i64 (0 : Int)]) ([])) (Tree.need (decide
    (d.ps.n ≤ d.ps.n) && (true && (true && true)) && decide (((1 : Int) ≤ d.wide ∧ d.wide ≤ (100 : Int)) ∧ ((1 : Int) ≤ d.high ∧ d.high ≤ (100 : Int)) ∧ (0 : Int) ≤ (↑c : Int) ∧ (↑c :
    Int) ≤ (100 : Int))) (Tree.br (besF d.wide d.high (↑c : Int) (1 : Int) == (-1 : Int)) (Tree.br ((d.ps.get c).right.kind != (0 : Int)) (Tree.leaf (AV.tup [AV.nili, AV.ptr (62 : Nat)
    (0 : Nat) (0 : Nat), AV.int false IntKind.i64 (↑c : Int), AV.int true IntKind.i64 (1 : Int), AV.int true IntKind.i64 (0 : Int)]) ([])) (Tree.need (decide (d.ps.n ≤ d.ps.n) && (true
    && (true && true)) && decide (((1 : Int) ≤ d.wide ∧ d.wide ≤ (100 : Int)) ∧ ((1 : Int) ≤ d.high ∧ d.high ≤ (100 : Int)) ∧ (0 : Int) ≤ (↑c : Int) ∧ (↑c : Int) ≤ (100 : Int)))
    (Tree.br (besF d.wide d.high (↑c : Int) (2 : Int) == (-1 : Int)) (Tree.br ((d.ps.get c).down.kind != (0 : Int)) (Tree.leaf (AV.tup [AV.nili, AV.ptr (62 : Nat) (0 : Nat) (0 : Nat),
    AV.int false IntKind.i64 (↑c : Int), AV.int true IntKind.i64 (2 : Int), AV.int true IntKind.i64 (0 : Int)]) ([])) (Tree.need (decide (d.ps.n ≤ d.ps.n) && (true && (true && true)) &&
    decide (((1 : Int) ≤ d.wide ∧ d.wide ≤ (100 : Int)) ∧ ((1 : Int) ≤ d.high ∧ d.high ≤ (100 : Int)) ∧ (0 : Int) ≤ (↑c : Int) ∧ (↑c : Int) ≤ (100 : Int))) (Tree.br (besF d.wide d.high
    (↑c : Int) (3 : Int) == (-1 : Int)) (Tree.br ((d.ps.get c).left.kind != (0 : Int)) (Tree.leaf (AV.tup [AV.nili, AV.ptr (62 : Nat) (0 : Nat) (0 : Nat), AV.int false IntKind.i64 (↑c :
    Int), AV.int true IntKind.i64 (3 : Int), AV.int true IntKind.i64 (0 : Int)]) ([])) (Tree.leaf (AV.tup [AV.nilp, AV.ptr (62 : Nat) (0 : Nat) (0 : Nat), AV.ptr (8 : Nat) (0 : Nat) (0
    : Nat), AV.slz (0 : Nat) (0 : Nat) d.ps.n (Cap.of (0 : Nat)), AV.int false IntKind.i64 (↑d.ps.n : Int), AV.int false IntKind.i64 (IntKind.i64.wrap ((↑c : Int) + (1 : Int)))]) ([((8
    : Nat), Blk.cells (0 : Nat) (28 : Nat) [AV.int false IntKind.i64 d.play.length, AV.int false IntKind.i64 d.play.slack, AV.int false IntKind.i64 d.play.loose, AV.int false
    IntKind.i64 d.play.damp.lo, AV.int false IntKind.i64 d.play.damp.hi, AV.int false IntKind.i64 d.wide, AV.int false IntKind.i64 d.high, AV.bool false d.turn, AV.slz (0 : Nat) (0 :
    Nat) d.ps.n (Cap.of (0 : Nat))]), ((0 : Nat), Blk.frz [CK.int IntKind.i64, CK.int IntKind.i64, CK.int IntKind.i64, CK.int IntKind.i64, CK.int IntKind.i64, CK.int IntKind.i64, CK.int
    IntKind.i64, CK.int IntKind.i64, CK.int IntKind.i64, CK.int IntKind.i64, CK.int IntKind.i64, CK.int IntKind.i64, CK.int IntKind.i64, CK.int IntKind.i64, CK.int IntKind.i64, CK.int
    IntKind.i64, CK.int IntKind.i64, CK.int IntKind.i64, CK.int IntKind.i64, CK.int IntKind.i64, CK.int IntKind.i64, CK.int IntKind.i64, CK.int IntKind.i64, CK.int IntKind.i64, CK.int
    IntKind.i64, CK.int IntKind.i64, CK.int IntKind.i64, CK.int IntKind.i64] d.ps.n fun i => RowT.enc (d.ps.get i))]))) (Tree.need (decide ((0 : Int) ≤ besF d.wide d.high (↑c : Int) (3
    : Int) ∧ besF d.wide d.high (↑c : Int) (3 : Int) < (↑d.ps.n : Int)) && decide (d.ps.n ≤ d.ps.n)) (Tree.need (decide ((besF d.wide d.high (↑c : Int) (3 : Int)).toNat < d.ps.n))
    (Tree.need (true) (Tree.br ((FitF d.play (d.ps.get c).left (d.ps.get (besF d.wide d.high (↑c : Int) (3 : Int)).toNat).right).1 != (2 : Int)) (Tree.leaf (AV.tup [AV.nili, AV.ptr (62
    : Nat) (0 : Nat) (0 : Nat), AV.int false IntKind.i64 (↑c : Int), AV.int true IntKind.i64 (3 : Int), AV.int true IntKind.i64 (0 : Int)]) ([])) (Tree.leaf (AV.tup [AV.nilp, AV.ptr (62
    : Nat) (0 : Nat) (0 : Nat), AV.ptr (8 : Nat) (0 : Nat) (0 : Nat), AV.slz (0 : Nat) (0 : Nat) d.ps.n (Cap.of (0 : Nat)), AV.int false IntKind.i64 (↑d.ps.n : Int), AV.int false
    IntKind.i64 (IntKind.i64.wrap ((↑c : Int) + (1 : Int)))]) ([((8 : Nat), Blk.cells (0 : Nat) (28 : Nat) [AV.int false IntKind.i64 d.play.length, AV.int false IntKind.i64
    d.play.slack, AV.int false IntKind.i64 d.play.loose, AV.int false IntKind.i64 d.play.damp.lo, AV.int false IntKind.i64 d.play.damp.hi, AV.int false IntKind.i64 d.wide, AV.int false
    IntKind.i64 d.high, AV.bool false d.turn, AV.slz (0 : Nat) (0 : Nat) d.ps.n (Cap.of (0 : Nat))]), ((0 : Nat), Blk.frz [CK.int IntKind.i64, CK.int IntKind.i64, CK.int IntKind.i64,
    CK.int IntKind.i64, CK.int IntKind.i64, CK.int IntKind.i64, CK.int IntKind.i64, CK.int IntKind.i64, CK.int IntKind.i64, CK.int IntKind.i64, CK.int IntKind.i64, CK.int IntKind.i64,
    CK.int IntKind.i64, CK.int IntKind.i64, CK.int IntKind.i64, CK.int IntKind.i64, CK.int IntKind.i64, CK.int IntKind.i64, CK.int IntKind.i64, CK.int IntKind.i64, CK.int IntKind.i64,
    CK.int IntKind.i64, CK.int IntKind.i64, CK.int IntKind.i64, CK.int IntKind.i64, CK.int IntKind.i64, CK.int IntKind.i64, CK.int IntKind.i64] d.ps.n fun i => RowT.enc (d.ps.get
    i))]))))))))) (Tree.need (decide ((0 : Int) ≤ besF d.wide d.high (↑c : Int) (2 : Int) ∧ besF d.wide d.high (↑c : Int) (2 : Int) < (↑d.ps.n : Int)) && decide (d.ps.n ≤ d.ps.n))
    (Tree.need (decide ((besF d.wide d.high (↑c : Int) (2 : Int)).toNat < d.ps.n)) (Tree.need (true) (Tree.br ((FitF d.play (d.ps.get c).down (d.ps.get (besF d.wide d.high (↑c : Int) (2
    : Int)).toNat).up).1 != (2 : Int)) (Tree.leaf (AV.tup [AV.nili, AV.ptr (62 : Nat) (0 : Nat) (0 : Nat), AV.int false IntKind.i64 (↑c : Int), AV.int true IntKind.i64 (2 : Int), AV.int
    true IntKind.i64 (0 : Int)]) ([])) (Tree.need (decide (d.ps.n ≤ d.ps.n) && (true && (true && true)) && decide (((1 : Int) ≤ d.wide ∧ d.wide ≤ (100 : Int)) ∧ ((1 : Int) ≤ d.high ∧
    d.high ≤ (100 : Int)) ∧ (0 : Int) ≤ (↑c : Int) ∧ (↑c : Int) ≤ (100 : Int))) (Tree.br (besF d.wide d.high (↑c : Int) (3 : Int) == (-1 : Int)) (Tree.br ((d.ps.get c).left.kind != (0 :
    Int)) (Tree.leaf (AV.tup [AV.nili, AV.ptr (62 : Nat) (0 : Nat) (0 : Nat), AV.int false IntKind.i64 (↑c : Int), AV.int true IntKind.i64 (3 : Int), AV.int true IntKind.i64 (0 : Int)])
    ([])) (Tree.leaf (AV.tup [AV.nilp, AV.ptr (62 : Nat) (0 : Nat) (0 : Nat), AV.ptr (8 : Nat) (0 : Nat) (0 : Nat), AV.slz (0 : Nat) (0 : Nat) d.ps.n (Cap.of (0 : Nat)), AV.int false
    IntKind.i64 (↑d.ps.n : Int), AV.int false IntKind.i64 (IntKind.i64.wrap ((↑c : Int) + (1 : Int)))]) ([((8 : Nat), Blk.cells (0 : Nat) (28 : Nat) [AV.int false IntKind.i64
    d.play.length, AV.int false IntKind.i64 d.play.slack, AV.int false IntKind.i64 d.play.loose, AV.int false IntKind.i64 d.play.damp.lo, AV.int false IntKind.i64 d.play.damp.hi, AV.int
    false IntKind.i64 d.wide, AV.int false IntKind.i64 d.high, AV.bool false d.turn, AV.slz (0 : Nat) (0 : Nat) d.ps.n (Cap.of (0 : Nat))]), ((0 : Nat), Blk.frz [CK.int IntKind.i64,
    CK.int IntKind.i64, CK.int IntKind.i64, CK.int IntKind.i64, CK.int IntKind.i64, CK.int IntKind.i64, CK.int IntKind.i64, CK.int IntKind.i64, CK.int IntKind.i64, CK.int IntKind.i64,
    CK.int IntKind.i64, CK.int IntKind.i64, CK.int IntKind.i64, CK.int IntKind.i64, CK.int IntKind.i64, CK.int IntKind.i64, CK.int IntKind.i64, CK.int IntKind.i64, CK.int IntKind.i64,
    CK.int IntKind.i64, CK.int IntKind.i64, CK.int IntKind.i64, CK.int IntKind.i64, CK.int IntKind.i64, CK.int IntKind.i64, CK.int IntKind.i64, CK.int IntKind.i64, CK.int IntKind.i64]
    d.ps.n fun i => RowT.enc (d.ps.get i))]))) (Tree.need (decide ((0 : Int) ≤ besF d.wide d.high (↑c : Int) (3 : Int) ∧ besF d.wide d.high (↑c : Int) (3 : Int) < (↑d.ps.n : Int)) &&
    decide (d.ps.n ≤ d.ps.n)) (Tree.need (decide ((besF d.wide d.high (↑c : Int) (3 : Int)).toNat < d.ps.n)) (Tree.need (true) (Tree.br ((FitF d.play (d.ps.get c).left (d.ps.get (besF
    d.wide d.high (↑c : Int) (3 : Int)).toNat).right).1 != (2 : Int)) (Tree.leaf (AV.tup [AV.nili, AV.ptr (62 : Nat) (0 : Nat) (0 : Nat), AV.int false IntKind.i64 (↑c : Int), AV.int
    true IntKind.i64 (3 : Int), AV.int true IntKind.i64 (0 : Int)]) ([])) (Tree.leaf (AV.tup [AV.nilp, AV.ptr (62 : Nat) (0 : Nat) (0 : Nat), AV.ptr (8 : Nat) (0 : Nat) (0 : Nat),
    AV.slz (0 : Nat) (0 : Nat) d.ps.n (Cap.of (0 : Nat)), AV.int false IntKind.i64 (↑d.ps.n : Int), AV.int false IntKind.i64 (IntKind.i64.wrap ((↑c : Int) + (1 : Int)))]) ([((8 : Nat),
    Blk.cells (0 : Nat) (28 : Nat) [AV.int false IntKind.i64 d.play.length, AV.int false IntKind.i64 d.play.slack, AV.int false IntKind.i64 d.play.loose, AV.int false IntKind.i64
    d.play.damp.lo, AV.int false IntKind.i64 d.play.damp.hi, AV.int false IntKind.i64 d.wide, AV.int false IntKind.i64 d.high, AV.bool false d.turn, AV.slz (0 : Nat) (0 : Nat) d.ps.n
    (Cap.of (0 : Nat))]), ((0 : Nat), Blk.frz [CK.int IntKind.i64, CK.int IntKind.i64, CK.int IntKind.i64, CK.int IntKind.i64, CK.int IntKind.i64, CK.int IntKind.i64, CK.int
    IntKind.i64, CK.int IntKind.i64, CK.int IntKind.i64, CK.int IntKind.i64, CK.int IntKind.i64, CK.int IntKind.i64, CK.int IntKind.i64, CK.int IntKind.i64, CK.int IntKind.i64, CK.int
    IntKind.i64, CK.int IntKind.i64, CK.int IntKind.i64, CK.int IntKind.i64, CK.int IntKind.i64, CK.int IntKind.i64, CK.int IntKind.i64, CK.int IntKind.i64, CK.int IntKind.i64, CK.int
    IntKind.i64, CK.int IntKind.i64, CK.int IntKind.i64, CK.int IntKind.i64] d.ps.n fun i => RowT.enc (d.ps.get i))]))))))))))))))) (Tree.need (decide ((0 : Int) ≤ besF d.wide d.high
    (↑c : Int) (1 : Int) ∧ besF d.wide d.high (↑c : Int) (1 : Int) < (↑d.ps.n : Int)) && decide (d.ps.n ≤ d.ps.n)) (Tree.need (decide ((besF d.wide d.high (↑c : Int) (1 : Int)).toNat <
    d.ps.n)) (Tree.need (true) (Tree.br ((FitF d.play (d.ps.get c).right (d.ps.get (besF d.wide d.high (↑c : Int) (1 : Int)).toNat).left).1 != (2 : Int)) (Tree.leaf (AV.tup [AV.nili,
    AV.ptr (62 : Nat) (0 : Nat) (0 : Nat), AV.int false IntKind.i64 (↑c : Int), AV.int true IntKind.i64 (1 : Int), AV.int true IntKind.i64 (0 : Int)]) ([])) (Tree.need (decide (d.ps.n ≤
    d.ps.n) && (true && (true && true)) && decide (((1 : Int) ≤ d.wide ∧ d.wide ≤ (100 : Int)) ∧ ((1 : Int) ≤ d.high ∧ d.high ≤ (100 : Int)) ∧ (0 : Int) ≤ (↑c : Int) ∧ (↑c : Int) ≤ (100
    : Int))) (Tree.br (besF d.wide d.high (↑c : Int) (2 : Int) == (-1 : Int)) (Tree.br ((d.ps.get c).down.kind != (0 : Int)) (Tree.leaf (AV.tup [AV.nili, AV.ptr (62 : Nat) (0 : Nat) (0
    : Nat), AV.int false IntKind.i64 (↑c : Int), AV.int true IntKind.i64 (2 : Int), AV.int true IntKind.i64 (0 : Int)]) ([])) (Tree.need (decide (d.ps.n ≤ d.ps.n) && (true && (true &&
    true)) && decide (((1 : Int) ≤ d.wide ∧ d.wide ≤ (100 : Int)) ∧ ((1 : Int) ≤ d.high ∧ d.high ≤ (100 : Int)) ∧ (0 : Int) ≤ (↑c : Int) ∧ (↑c : Int) ≤ (100 : Int))) (Tree.br (besF
    d.wide d.high (↑c : Int) (3 : Int) == (-1 : Int)) (Tree.br ((d.ps.get c).left.kind != (0 : Int)) (Tree.leaf (AV.tup [AV.nili, AV.ptr (62 : Nat) (0 : Nat) (0 : Nat), AV.int false
    IntKind.i64 (↑c : Int), AV.int true IntKind.i64 (3 : Int), AV.int true IntKind.i64 (0 : Int)]) ([])) (Tree.leaf (AV.tup [AV.nilp, AV.ptr (62 : Nat) (0 : Nat) (0 : Nat), AV.ptr (8 :
    Nat) (0 : Nat) (0 : Nat), AV.slz (0 : Nat) (0 : Nat) d.ps.n (Cap.of (0 : Nat)), AV.int false IntKind.i64 (↑d.ps.n : Int), AV.int false IntKind.i64 (IntKind.i64.wrap ((↑c : Int) + (1
    : Int)))]) ([((8 : Nat), Blk.cells (0 : Nat) (28 : Nat) [AV.int false IntKind.i64 d.play.length, AV.int false IntKind.i64 d.play.slack, AV.int false IntKind.i64 d.play.loose, AV.int
    false IntKind.i64 d.play.damp.lo, AV.int false IntKind.i64 d.play.damp.hi, AV.int false IntKind.i64 d.wide, AV.int false IntKind.i64 d.high, AV.bool false d.turn, AV.slz (0 : Nat)
    (0 : Nat) d.ps.n (Cap.of (0 : Nat))]), ((0 : Nat), Blk.frz [CK.int IntKind.i64, CK.int IntKind.i64, CK.int IntKind.i64, CK.int IntKind.i64, CK.int IntKind.i64, CK.int IntKind.i64,
    CK.int IntKind.i64, CK.int IntKind.i64, CK.int IntKind.i64, CK.int IntKind.i64, CK.int IntKind.i64, CK.int IntKind.i64, CK.int IntKind.i64, CK.int IntKind.i64, CK.int IntKind.i64,
    CK.int IntKind.i64, CK.int IntKind.i64, CK.int IntKind.i64, CK.int IntKind.i64, CK.int IntKind.i64, CK.int IntKind.i64, CK.int IntKind.i64, CK.int IntKind.i64, CK.int IntKind.i64,
    CK.int IntKind.i64, CK.int IntKind.i64, CK.int IntKind.i64, CK.int IntKind.i64] d.ps.n fun i => RowT.enc (d.ps.get i))]))) (Tree.need (decide ((0 : Int) ≤ besF d.wide d.high (↑c :
    Int) (3 : Int) ∧ besF d.wide d.high (↑c : Int) (3 : Int) < (↑d.ps.n : Int)) && decide (d.ps.n ≤ d.ps.n)) (Tree.need (decide ((besF d.wide d.high (↑c : Int) (3 : Int)).toNat <
    d.ps.n)) (Tree.need (true) (Tree.br ((FitF d.play (d.ps.get c).left (d.ps.get (besF d.wide d.high (↑c : Int) (3 : Int)).toNat).right).1 != (2 : Int)) (Tree.leaf (AV.tup [AV.nili,
    AV.ptr (62 : Nat) (0 : Nat) (0 : Nat), AV.int false IntKind.i64 (↑c : Int), AV.int true IntKind.i64 (3 : Int), AV.int true IntKind.i64 (0 : Int)]) ([])) (Tree.leaf (AV.tup [AV.nilp,
    AV.ptr (62 : Nat) (0 : Nat) (0 : Nat), AV.ptr (8 : Nat) (0 : Nat) (0 : Nat), AV.slz (0 : Nat) (0 : Nat) d.ps.n (Cap.of (0 : Nat)), AV.int false IntKind.i64 (↑d.ps.n : Int), AV.int
    false IntKind.i64 (IntKind.i64.wrap ((↑c : Int) + (1 : Int)))]) ([((8 : Nat), Blk.cells (0 : Nat) (28 : Nat) [AV.int false IntKind.i64 d.play.length, AV.int false IntKind.i64
    d.play.slack, AV.int false IntKind.i64 d.play.loose, AV.int false IntKind.i64 d.play.damp.lo, AV.int false IntKind.i64 d.play.damp.hi, AV.int false IntKind.i64 d.wide, AV.int false
    IntKind.i64 d.high, AV.bool false d.turn, AV.slz (0 : Nat) (0 : Nat) d.ps.n (Cap.of (0 : Nat))]), ((0 : Nat), Blk.frz [CK.int IntKind.i64, CK.int IntKind.i64, CK.int IntKind.i64,
    CK.int IntKind.i64, CK.int IntKind.i64, CK.int IntKind.i64, CK.int IntKind.i64, CK.int IntKind.i64, CK.int IntKind.i64, CK.int IntKind.i64, CK.int IntKind.i64, CK.int IntKind.i64,
    CK.int IntKind.i64, CK.int IntKind.i64, CK.int IntKind.i64, CK.int IntKind.i64, CK.int IntKind.i64, CK.int IntKind.i64, CK.int IntKind.i64, CK.int IntKind.i64, CK.int IntKind.i64,
    CK.int IntKind.i64, CK.int IntKind.i64, CK.int IntKind.i64, CK.int IntKind.i64, CK.int IntKind.i64, CK.int IntKind.i64, CK.int IntKind.i64] d.ps.n fun i => RowT.enc (d.ps.get
    i))]))))))))) (Tree.need (decide ((0 : Int) ≤ besF d.wide d.high (↑c : Int) (2 : Int) ∧ besF d.wide d.high (↑c : Int) (2 : Int) < (↑d.ps.n : Int)) && decide (d.ps.n ≤ d.ps.n))
    (Tree.need (decide ((besF d.wide d.high (↑c : Int) (2 : Int)).toNat < d.ps.n)) (Tree.need (true) (Tree.br ((FitF d.play (d.ps.get c).down (d.ps.get (besF d.wide d.high (↑c : Int) (2
    : Int)).toNat).up).1 != (2 : Int)) (Tree.leaf (AV.tup [AV.nili, AV.ptr (62 : Nat) (0 : Nat) (0 : Nat), AV.int false IntKind.i64 (↑c : Int), AV.int true IntKind.i64 (2 : Int), AV.int
    true IntKind.i64 (0 : Int)]) ([])) (Tree.need (decide (d.ps.n ≤ d.ps.n) && (true && (true && true)) && decide (((1 : Int) ≤ d.wide ∧ d.wide ≤ (100 : Int)) ∧ ((1 : Int) ≤ d.high ∧
    d.high ≤ (100 : Int)) ∧ (0 : Int) ≤ (↑c : Int) ∧ (↑c : Int) ≤ (100 : Int))) (Tree.br (besF d.wide d.high (↑c : Int) (3 : Int) == (-1 : Int)) (Tree.br ((d.ps.get c).left.kind != (0 :
    Int)) (Tree.leaf (AV.tup [AV.nili, AV.ptr (62 : Nat) (0 : Nat) (0 : Nat), AV.int false IntKind.i64 (↑c : Int), AV.int true IntKind.i64 (3 : Int), AV.int true IntKind.i64 (0 : Int)])
    ([])) (Tree.leaf (AV.tup [AV.nilp, AV.ptr (62 : Nat) (0 : Nat) (0 : Nat), AV.ptr (8 : Nat) (0 : Nat) (0 : Nat), AV.slz (0 : Nat) (0 : Nat) d.ps.n (Cap.of (0 : Nat)), AV.int false
    IntKind.i64 (↑d.ps.n : Int), AV.int false IntKind.i64 (IntKind.i64.wrap ((↑c : Int) + (1 : Int)))]) ([((8 : Nat), Blk.cells (0 : Nat) (28 : Nat) [AV.int false IntKind.i64
    d.play.length, AV.int false IntKind.i64 d.play.slack, AV.int false IntKind.i64 d.play.loose, AV.int false IntKind.i64 d.play.damp.lo, AV.int false IntKind.i64 d.play.damp.hi, AV.int
    false IntKind.i64 d.wide, AV.int false IntKind.i64 d.high, AV.bool false d.turn, AV.slz (0 : Nat) (0 : Nat) d.ps.n (Cap.of (0 : Nat))]), ((0 : Nat), Blk.frz [CK.int IntKind.i64,
    CK.int IntKind.i64, CK.int IntKind.i64, CK.int IntKind.i64, CK.int IntKind.i64, CK.int IntKind.i64, CK.int IntKind.i64, CK.int IntKind.i64, CK.int IntKind.i64, CK.int IntKind.i64,
    CK.int IntKind.i64, CK.int IntKind.i64, CK.int IntKind.i64, CK.int IntKind.i64, CK.int IntKind.i64, CK.int IntKind.i64, CK.int IntKind.i64, CK.int IntKind.i64, CK.int IntKind.i64,
    CK.int IntKind.i64, CK.int IntKind.i64, CK.int IntKind.i64, CK.int IntKind.i64, CK.int IntKind.i64, CK.int IntKind.i64, CK.int IntKind.i64, CK.int IntKind.i64, CK.int IntKind.i64]
    d.ps.n fun i => RowT.enc (d.ps.get i))]))) (Tree.need (decide ((0 : Int) ≤ besF d.wide d.high (↑c : Int) (3 : Int) ∧ besF d.wide d.high (↑c : Int) (3 : Int) < (↑d.ps.n : Int)) &&
    decide (d.ps.n ≤ d.ps.n)) (Tree.need (decide ((besF d.wide d.high (↑c : Int) (3 : Int)).toNat < d.ps.n)) (Tree.need (true) (Tree.br ((FitF d.play (d.ps.get c).left (d.ps.get (besF
    d.wide d.high (↑c : Int) (3 : Int)).toNat).right).1 != (2 : Int)) (Tree.leaf (AV.tup [AV.nili, AV.ptr (62 : Nat) (0 : Nat) (0 : Nat), AV.int false IntKind.i64 (↑c : Int), AV.int
    true IntKind.i64 (3 : Int), AV.int true IntKind.i64 (0 : Int)]) ([])) (Tree.leaf (AV.tup [AV.nilp, AV.ptr (62 : Nat) (0 : Nat) (0 : Nat), AV.ptr (8 : Nat) (0 : Nat) (0 : Nat),
    AV.slz (0 : Nat) (0 : Nat) d.ps.n (Cap.of (0 : Nat)), AV.int false IntKind.i64 (↑d.ps.n : Int), AV.int false IntKind.i64 (IntKind.i64.wrap ((↑c : Int) + (1 : Int)))]) ([((8 : Nat),
    Blk.cells (0 : Nat) (28 : Nat) [AV.int false IntKind.i64 d.play.length, AV.int false IntKind.i64 d.play.slack, AV.int false IntKind.i64 d.play.loose, AV.int false IntKind.i64
    d.play.damp.lo, AV.int false IntKind.i64 d.play.damp.hi, AV.int false IntKind.i64 d.wide, AV.int false IntKind.i64 d.high, AV.bool false d.turn, AV.slz (0 : Nat) (0 : Nat) d.ps.n
    (Cap.of (0 : Nat))]), ((0 : Nat), Blk.frz [CK.int IntKind.i64, CK.int IntKind.i64, CK.int IntKind.i64, CK.int IntKind.i64, CK.int IntKind.i64, CK.int IntKind.i64, CK.int
    IntKind.i64, CK.int IntKind.i64, CK.int IntKind.i64, CK.int IntKind.i64, CK.int IntKind.i64, CK.int IntKind.i64, CK.int IntKind.i64, CK.int IntKind.i64, CK.int IntKind.i64, CK.int
    IntKind.i64, CK.int IntKind.i64, CK.int IntKind.i64, CK.int IntKind.i64, CK.int IntKind.i64, CK.int IntKind.i64, CK.int IntKind.i64, CK.int IntKind.i64, CK.int IntKind.i64, CK.int
    IntKind.i64, CK.int IntKind.i64, CK.int IntKind.i64, CK.int IntKind.i64] d.ps.n fun i => RowT.enc (d.ps.get i))])))))))))))))))))))))))))))) (Tree.leaf (AV.tup [AV.ptr (0 : Nat) (0
    : Nat) (0 : Nat), AV.ptr (62 : Nat) (0 : Nat) (0 : Nat)]) ([])) := by kernel_rfl
def chkRet (c s : Nat) : JSt := ⟨62, [(2, .int false .i64 c), (3, .int false .i64 s), (4, .int false .i64 0)], [], 96⟩
def chkEnd : JSt := ⟨62, [], [], 96⟩
set_option maxRecDepth 100000 in
theorem chk_r0 (c c' s' : Nat) : subE 8 [AV.int false IntKind.i64 (↑c : Int), AV.int true IntKind.i64 (0 : Int), AV.int true IntKind.i64 (0 : Int)] ([]) (chkRet c' s') = (
    some [(↑c : Int) = (↑c' : Int), (0 : Int) = (↑s' : Int), (0 : Int) = (0 : Int)]) := by kernel_rfl
set_option maxRecDepth 100000 in
theorem chk_r1 (c c' s' : Nat) : subE 8 [AV.int false IntKind.i64 (↑c : Int), AV.int true IntKind.i64 (1 : Int), AV.int true IntKind.i64 (0 : Int)] ([]) (chkRet c' s') = (
    some [(↑c : Int) = (↑c' : Int), (1 : Int) = (↑s' : Int), (0 : Int) = (0 : Int)]) := by kernel_rfl
set_option maxRecDepth 100000 in
theorem chk_r2 (c c' s' : Nat) : subE 8 [AV.int false IntKind.i64 (↑c : Int), AV.int true IntKind.i64 (2 : Int), AV.int true IntKind.i64 (0 : Int)] ([]) (chkRet c' s') = (
    some [(↑c : Int) = (↑c' : Int), (2 : Int) = (↑s' : Int), (0 : Int) = (0 : Int)]) := by kernel_rfl
set_option maxRecDepth 100000 in
theorem chk_r3 (c c' s' : Nat) : subE 8 [AV.int false IntKind.i64 (↑c : Int), AV.int true IntKind.i64 (3 : Int), AV.int true IntKind.i64 (0 : Int)] ([]) (chkRet c' s') = (
    some [(↑c : Int) = (↑c' : Int), (3 : Int) = (↑s' : Int), (0 : Int) = (0 : Int)]) := by kernel_rfl
set_option maxRecDepth 100000 in
theorem chk_go (d : Puz) (c c' : Nat) : subE 8 [AV.ptr (8 : Nat) (0 : Nat) (0 : Nat), AV.slz (0 : Nat) (0 : Nat) d.ps.n (Cap.of (0 : Nat)), AV.int false IntKind.i64 (↑d.ps.n : Int), AV.int false IntKind.i64 (IntKind.i64.wrap ((↑c : Int) + (1 : Int)))] ([((8 : Nat), Blk.cells (0 : Nat) (28 : Nat) [AV.int false IntKind.i64 d.play.length, AV.int false IntKind.i64 d.play.slack, AV.int false IntKind.i64 d.play.loose, AV.int false IntKind.i64 d.play.damp.lo, AV.int false IntKind.i64 d.play.damp.hi, AV.int false IntKind.i64 d.wide, AV.int false IntKind.i64 d.high, AV.bool false d.turn, AV.slz (0 : Nat) (0 : Nat) d.ps.n (Cap.of (0 : Nat))]), ((0 : Nat), Blk.frz [CK.int IntKind.i64, CK.int IntKind.i64, CK.int IntKind.i64, CK.int IntKind.i64, CK.int IntKind.i64, CK.int IntKind.i64, CK.int IntKind.i64, CK.int IntKind.i64, CK.int IntKind.i64, CK.int IntKind.i64, CK.int IntKind.i64, CK.int IntKind.i64, CK.int IntKind.i64, CK.int IntKind.i64, CK.int IntKind.i64, CK.int IntKind.i64, CK.int IntKind.i64, CK.int IntKind.i64, CK.int IntKind.i64, CK.int IntKind.i64, CK.int IntKind.i64, CK.int IntKind.i64, CK.int IntKind.i64, CK.int IntKind.i64, CK.int IntKind.i64, CK.int IntKind.i64, CK.int IntKind.i64, CK.int IntKind.i64] d.ps.n fun i => RowT.enc (d.ps.get i))]) (chkJ d c') = (
    some [(0 : Nat) = (0 : Nat), (0 : Nat) = (0 : Nat), (0 : Nat) = (0 : Nat), d.ps.n = d.ps.n, Cap.of (0 : Nat) = Cap.of (0 : Nat), (↑d.ps.n : Int) = (↑d.ps.n : Int), IntKind.i64.wrap
    ((↑c : Int) + (1 : Int)) = (↑c' : Int), d.play.length = d.play.length, d.play.slack = d.play.slack, d.play.loose = d.play.loose, d.play.damp.lo = d.play.damp.lo, d.play.damp.hi =
    d.play.damp.hi, d.wide = d.wide, d.high = d.high, d.turn = d.turn, (0 : Nat) = (0 : Nat), d.ps.n = d.ps.n, Cap.of (0 : Nat) = Cap.of (0 : Nat), d.ps.n ≤ d.ps.n, RowsEq (28 : Nat)
    d.ps.n (fun i => RowT.enc (d.ps.get i)) fun i => RowT.enc (d.ps.get i)]) := by kernel_rfl
set_option maxRecDepth 100000 in
theorem chk_end  : subE 8 [] ([]) chkEnd = (
    some []) := by kernel_rfl
end Go.Proofs.Ytbpffdkemeoajaa
/- Check: its contract (layer 7). -/
namespace Go.SX
open Go Go.RowKit Go.Proofs.Ytbpffdkemeoajaa
theorem side_den {Q : AV → List (Nat × Blk) → Prop} {A b1 b2 b3 n1 n2 x : Bool} {L K : Tree} (hA : A = true) (hn : b1 = false → n1 = true ∧ n2 = true) (hx : x = cond b1 b2 b3) (hr : x = true → L.den Q) (hk : x = false → K.den Q) :
    (Tree.need A (.br b1 (.br b2 L K) (.need n1 (.need n2 (.need true (.br b3 L K)))))).den Q := by
  refine den_need hA (den_br (fun h1 => ?_) (fun h1 => ?_))
  · rw [h1] at hx
    exact den_br (fun h => hr (by rw [hx, h]; rfl)) (fun h => hk (by rw [hx, h]; rfl))
  · rw [h1] at hx
    exact den_need (hn h1).1 (den_need (hn h1).2 (den_need rfl (den_br (fun h => hr (by rw [hx, h]; rfl)) (fun h => hk (by rw [hx, h]; rfl)))))
end Go.SX
namespace Go.Proofs.Ytbpffdkemeoajaa
open Go.SX
def edgeI (x : Piece) : Nat → Edge
  | 0 => x.up
  | 1 => x.right
  | 2 => x.down
  | _ => x.left
/-- Is a side of a cell wrong? -/
def badSd (d : Puz) (c s : Nat) : Bool := cond (besF d.wide d.high c s == -1) ((edgeI (d.ps.get c) s).kind != 0) ((FitF d.play (edgeI (d.ps.get c) s) (edgeI (d.ps.get (besF d.wide d.high c s).toNat) ((s + 2) % 4))).1 != 2)
def chkQ (d : Puz) (i : Nat) : Bool := badSd d (i / 4) (i % 4)
structure DrawB (d : Puz) : Prop where
  n9 : d.ps.n ≤ 9
  w1 : 1 ≤ d.wide
  wn : d.wide ≤ d.ps.n
  h1 : 1 ≤ d.high
  hn : d.high ≤ d.ps.n
  wh : d.wide * d.high = d.ps.n
theorem drawB_of {d : Puz} (h : d.ok = true) : DrawB d := by
  simp only [Puz.ok, Puz.okN, within, Bool.and_eq_true, decide_eq_true_eq, beq_iff_eq] at h
  obtain ⟨⟨⟨a1, a2⟩, ⟨b1, b2⟩, ⟨c1, c2⟩, e⟩, _⟩ := h
  have hw : d.wide ≤ 9 := by omega
  have hh : d.high ≤ 9 := by omega
  have hm : d.wide * d.high ≤ 9 * 9 := Int.mul_le_mul hw hh (by omega) (by omega)
  have hm0 : 0 ≤ d.wide * d.high := Int.mul_nonneg (by omega) (by omega)
  rw [w64 (by omega) (by omega)] at e
  exact ⟨by omega, b1, b2, c1, c2, e⟩
theorem besF_in {d : Puz} (h : DrawB d) {c s : Nat} (hc : c < d.ps.n) (hb : (besF d.wide d.high c s == -1) = false) : 0 ≤ besF d.wide d.high c s ∧ besF d.wide d.high c s < d.ps.n := by
  have w1 := h.w1
  have m0 : 0 ≤ (c : Int).tmod d.wide := Int.tmod_nonneg _ (by omega)
  have m1 : (c : Int).tmod d.wide < d.wide := Int.tmod_lt_of_pos _ (by omega)
  have q0 : 0 ≤ (c : Int).tdiv d.wide := Int.tdiv_nonneg (by omega) (by omega)
  have e := Int.tmod_def (c : Int) d.wide
  have wh := h.wh
  simp only [besF] at hb ⊢
  generalize (c : Int).tdiv d.wide = q at *
  generalize (c : Int).tmod d.wide = m at *
  have hq : q < d.high := by
    rcases Int.lt_or_le q d.high with g | g
    · exact g
    · have := Int.mul_le_mul_of_nonneg_left g (show 0 ≤ d.wide by omega)
      omega
  have p0 : 0 ≤ d.wide * q := Int.mul_nonneg (by omega) q0
  have a1 : d.wide * (q + 1) ≤ d.wide * d.high := Int.mul_le_mul_of_nonneg_left (by omega) (by omega)
  have e1 : d.wide * (q + 1) = d.wide * q + d.wide := by rw [Int.mul_add, Int.mul_one]
  cases x0 : ((s : Int) == 0 && decide (0 < q)) with
  | true =>
    simp only [cond_true]
    simp only [Bool.and_eq_true, decide_eq_true_eq] at x0
    have := Int.mul_le_mul_of_nonneg_left (show 1 ≤ q by omega) (show 0 ≤ d.wide by omega)
    omega
  | false =>
    simp only [x0, cond_false] at hb ⊢
    cases x1 : ((s : Int) == 1 && decide (m < d.wide - 1)) with
    | true =>
      simp only [cond_true]
      simp only [Bool.and_eq_true, decide_eq_true_eq] at x1
      omega
    | false =>
      simp only [x1, cond_false] at hb ⊢
      cases x2 : ((s : Int) == 2 && decide (q < d.high - 1)) with
      | true =>
        simp only [cond_true]
        simp only [Bool.and_eq_true, decide_eq_true_eq] at x2
        have a2 : d.wide * (q + 2) ≤ d.wide * d.high := Int.mul_le_mul_of_nonneg_left (by omega) (by omega)
        have e2 : d.wide * (q + 2) = d.wide * q + d.wide * 2 := by rw [Int.mul_add]
        omega
      | false =>
        simp only [x2, cond_false] at hb ⊢
        cases x3 : ((s : Int) == 3 && decide (0 < m)) with
        | true =>
          simp only [cond_true]
          simp only [Bool.and_eq_true, decide_eq_true_eq] at x3
          omega
        | false =>
          simp only [x3, cond_false] at hb
          exact absurd hb (by decide)
def chkR (d : Puz) (c : Nat) (e : Ex) (J : JSt) : Prop := (∃ i, e = .ret ∧ firstN (chkQ d) (4 * (d.ps.n - c)) (4 * c) = some i ∧ J = chkRet (i / 4) (i % 4)) ∨ (e = .exit 0 ∧ firstN (chkQ d) (4 * (d.ps.n - c)) (4 * c) = none ∧ J = chkEnd)
set_option maxRecDepth 100000 in
theorem chk_round (d : Puz) (hd : DrawB d) : RoundW (chkJ d) (fun c => c ≤ d.ps.n) (fun c => d.ps.n - c) (chkR d) 8 chkLs [] (mkE Try.prog tab_beside) (fun _ => hnd (mkE Try.prog tab_beside) 6) (bodyK Try.f13 0) := by
  refine ⟨fun c g hk => ⟨den_of (chk_r d c g) ?_⟩⟩
  have n9 := hd.n9
  refine den_br (fun h => ?_) (fun h => ?_)
  · have h : c < d.ps.n := by have := of_decide_eq_true h; omega
    have hw := hd.w1
    have hwn := hd.wn
    have hh := hd.h1
    have hhn := hd.hn
    have hA : (decide (d.ps.n ≤ d.ps.n) && (true && (true && true)) && decide (((1 : Int) ≤ d.wide ∧ d.wide ≤ (100 : Int)) ∧ ((1 : Int) ≤ d.high ∧ d.high ≤ (100 : Int)) ∧ (0 : Int) ≤ (c : Int) ∧ (c : Int) ≤ (100 : Int))) = true := by
      simp only [Nat.le_refl, decide_true, Bool.true_and, decide_eq_true_eq]; omega
    have hn : ∀ s : Nat, (besF d.wide d.high c s == -1) = false → (decide (0 ≤ besF d.wide d.high c s ∧ besF d.wide d.high c s < (d.ps.n : Int)) && decide (d.ps.n ≤ d.ps.n)) = true ∧ decide ((besF d.wide d.high c s).toNat < d.ps.n) = true := fun s hb => by
      have := besF_in hd h hb
      simp only [Nat.le_refl, decide_true, Bool.and_true, decide_eq_true_eq]; omega
    obtain ⟨m, hm⟩ : ∃ m, 4 * (d.ps.n - c) = m + 1 + 1 + 1 + 1 := ⟨4 * (d.ps.n - c) - 4, by omega⟩
    have hm' : 4 * (d.ps.n - (c + 1)) = m := by omega
    have q0 : chkQ d (4 * c) = badSd d c 0 := by unfold chkQ; rw [show 4 * c / 4 = c by omega, show 4 * c % 4 = 0 by omega]
    have q1 : chkQ d (4 * c + 1) = badSd d c 1 := by unfold chkQ; rw [show (4 * c + 1) / 4 = c by omega, show (4 * c + 1) % 4 = 1 by omega]
    have q2 : chkQ d (4 * c + 1 + 1) = badSd d c 2 := by unfold chkQ; rw [show (4 * c + 1 + 1) / 4 = c by omega, show (4 * c + 1 + 1) % 4 = 2 by omega]
    have q3 : chkQ d (4 * c + 1 + 1 + 1) = badSd d c 3 := by unfold chkQ; rw [show (4 * c + 1 + 1 + 1) / 4 = c by omega, show (4 * c + 1 + 1 + 1) % 4 = 3 by omega]
    refine den_need (by simp; omega) (den_need (by simp; omega) ?_)
    refine side_den (x := badSd d c 0) hA (hn 0) rfl (fun b0 => ?_) (fun b0 => ?_)
    · refine ⟨_, .inl ⟨4 * c, rfl, by rw [hm, firstN, q0, b0], rfl⟩, rfl, rfl, _, chk_r0 c _ _, ?_⟩
      exact ⟨by omega, by omega, rfl, trivial⟩
    refine side_den (x := badSd d c 1) hA (hn 1) rfl (fun b1 => ?_) (fun b1 => ?_)
    · refine ⟨_, .inl ⟨4 * c + 1, rfl, by rw [hm, firstN, q0, b0, firstN, q1, b1], rfl⟩, rfl, rfl, _, chk_r1 c _ _, ?_⟩
      exact ⟨by omega, by omega, rfl, trivial⟩
    refine side_den (x := badSd d c 2) hA (hn 2) rfl (fun b2 => ?_) (fun b2 => ?_)
    · refine ⟨_, .inl ⟨4 * c + 1 + 1, rfl, by rw [hm, firstN, q0, b0, firstN, q1, b1, firstN, q2, b2], rfl⟩, rfl, rfl, _, chk_r2 c _ _, ?_⟩
      exact ⟨by omega, by omega, rfl, trivial⟩
    refine side_den (x := badSd d c 3) hA (hn 3) rfl (fun b3 => ?_) (fun b3 => ?_)
    · refine ⟨_, .inl ⟨4 * c + 1 + 1 + 1, rfl, by rw [hm, firstN, q0, b0, firstN, q1, b1, firstN, q2, b2, firstN, q3, b3], rfl⟩, rfl, rfl, _, chk_r3 c _ _, ?_⟩
      exact ⟨by omega, by omega, rfl, trivial⟩
    have hf : firstN (chkQ d) (4 * (d.ps.n - c)) (4 * c) = firstN (chkQ d) (4 * (d.ps.n - (c + 1))) (4 * (c + 1)) := by
      rw [hm, hm', firstN, q0, b0, firstN, q1, b1, firstN, q2, b2, firstN, q3, b3, show 4 * (c + 1) = 4 * c + 1 + 1 + 1 + 1 by omega]
    refine ⟨c + 1, h, by show d.ps.n - (c + 1) < d.ps.n - c; omega, fun e J h => by unfold chkR at h ⊢; rw [hf]; exact h, rfl, rfl, _, chk_go d c (c + 1), ?_⟩
    have hw : IntKind.i64.wrap ((c : Int) + 1) = ((c + 1 : Nat) : Int) := (w64 (by omega) (by omega)).trans (by omega)
    repeat' first | exact trivial | with_reducible rfl | exact Nat.le_refl _ | exact hw | exact RowsEq.refl _ _ _ | refine And.intro ?_ ?_
  · have h : d.ps.n ≤ c := by have := of_decide_eq_false h; omega
    exact ⟨_, .inr ⟨rfl, by rw [show 4 * (d.ps.n - c) = 0 by omega]; rfl, rfl⟩, rfl, rfl, _, chk_end, trivial⟩
end Go.Proofs.Ytbpffdkemeoajaa
