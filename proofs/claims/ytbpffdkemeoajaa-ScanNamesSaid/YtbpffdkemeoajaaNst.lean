/- Are the sides of pieces valid? (layer 7) -/
import Derived.Test.YtbpffdkemeoajaaNss
namespace Go.Proofs.Ytbpffdkemeoajaa
open Go.SX
abbrev PlayK : Type := FnC Play 71 25
def zeroE : Edge := ⟨0, ⟨0, 0⟩, ⟨0, 0⟩, ⟨0, 0⟩⟩
def edges (x : Piece) : Rw Edge := ⟨4, fun i => match i with | 0 => x.up | 1 => x.right | 2 => x.down | _ => x.left⟩
def badP (m : PlayK) (l : Rw Piece) (i : Nat) : Bool := !(m.x.ok && (l.get i).ok)
theorem mat_piece (p : Play) (x : Piece) (L : Rw Edge) (hn : L.n = 4) (h0 : L.get 0 = x.up) (h1 : L.get 1 = x.right) (h2 : L.get 2 = x.down) (h3 : L.get 3 = x.left) : (matE p zeroE L != 0) = !(p.ok && x.ok) := by
  have z : zeroE.ok = true := by decide
  have e : matO p zeroE L = (p.ok && x.ok) := by
    simp only [matO, z, allN, firstN, hn, h0, h1, h2, h3, Piece.ok, Bool.true_and]
    cases p.ok <;> cases x.up.ok <;> cases x.right.ok <;> cases x.down.ok <;> cases x.left.ok <;> rfl
  have d : decide (L.n > 40) = false := by rw [hn]; rfl
  simp only [matE, e, d]
  cases p.ok && x.ok <;> rfl
def idp (l : Rw Piece) (m : PlayK) : List (Nat × Blk) := ArgE.blk 0 l ++ ArgE.blk 1 m
def idpJ (l : Rw Piece) (m : PlayK) (k : Nat) : JSt := ⟨19, [(0, .slz 0 0 l.n (.of 0)), (1, ArgE.val 1 m), (7, .int false .i64 l.n), (8, .int false .i64 k)], idp l m, 8⟩
set_option maxRecDepth 100000 in
theorem idp_r (l : Rw Piece) (m : PlayK) (k : Nat) (g : Nat → Value) : exec (mkE Try.prog tab_isB) (hnd (mkE Try.prog tab_isB) 4) (bodyK Try.f90 0) (JSt.inst (idpJ l m k) g) (leafW [] idxLs) =
    Tree.br (decide ((↑k : Int) < (↑l.n : Int))) (Tree.need (decide ((0 : Int) ≤ (↑k : Int) ∧ (↑k : Int) < (↑l.n : Int)) && decide (l.n ≤ l.n)) (Tree.need (decide (k < l.n)) (Tree.need
    (true && (true && (true && true)) && decide ((4 : Nat) ≤ (1000 : Nat))) (Tree.br (matE m.x (Edge.mk (0 : Int) (Sp.mk (0 : Int) (0 : Int)) (Sp.mk (0 : Int) (0 : Int)) (Sp.mk (0 :
    Int) (0 : Int))) (Rw.mk (4 : Nat) fun i => Edge.mk (rowI [[AV.int false IntKind.i64 (l.get k).up.kind, AV.int false IntKind.i64 (l.get k).up.at_.lo, AV.int false IntKind.i64 (l.get
    k).up.at_.hi, AV.int false IntKind.i64 (l.get k).up.wide.lo, AV.int false IntKind.i64 (l.get k).up.wide.hi, AV.int false IntKind.i64 (l.get k).up.deep.lo, AV.int false IntKind.i64
    (l.get k).up.deep.hi], [AV.int false IntKind.i64 (l.get k).right.kind, AV.int false IntKind.i64 (l.get k).right.at_.lo, AV.int false IntKind.i64 (l.get k).right.at_.hi, AV.int false
    IntKind.i64 (l.get k).right.wide.lo, AV.int false IntKind.i64 (l.get k).right.wide.hi, AV.int false IntKind.i64 (l.get k).right.deep.lo, AV.int false IntKind.i64 (l.get
    k).right.deep.hi], [AV.int false IntKind.i64 (l.get k).down.kind, AV.int false IntKind.i64 (l.get k).down.at_.lo, AV.int false IntKind.i64 (l.get k).down.at_.hi, AV.int false
    IntKind.i64 (l.get k).down.wide.lo, AV.int false IntKind.i64 (l.get k).down.wide.hi, AV.int false IntKind.i64 (l.get k).down.deep.lo, AV.int false IntKind.i64 (l.get
    k).down.deep.hi], [AV.int false IntKind.i64 (l.get k).left.kind, AV.int false IntKind.i64 (l.get k).left.at_.lo, AV.int false IntKind.i64 (l.get k).left.at_.hi, AV.int false
    IntKind.i64 (l.get k).left.wide.lo, AV.int false IntKind.i64 (l.get k).left.wide.hi, AV.int false IntKind.i64 (l.get k).left.deep.lo, AV.int false IntKind.i64 (l.get
    k).left.deep.hi]] (0 : Nat) i (0 : Nat)) (Sp.mk (rowI [[AV.int false IntKind.i64 (l.get k).up.kind, AV.int false IntKind.i64 (l.get k).up.at_.lo, AV.int false IntKind.i64 (l.get
    k).up.at_.hi, AV.int false IntKind.i64 (l.get k).up.wide.lo, AV.int false IntKind.i64 (l.get k).up.wide.hi, AV.int false IntKind.i64 (l.get k).up.deep.lo, AV.int false IntKind.i64
    (l.get k).up.deep.hi], [AV.int false IntKind.i64 (l.get k).right.kind, AV.int false IntKind.i64 (l.get k).right.at_.lo, AV.int false IntKind.i64 (l.get k).right.at_.hi, AV.int false
    IntKind.i64 (l.get k).right.wide.lo, AV.int false IntKind.i64 (l.get k).right.wide.hi, AV.int false IntKind.i64 (l.get k).right.deep.lo, AV.int false IntKind.i64 (l.get
    k).right.deep.hi], [AV.int false IntKind.i64 (l.get k).down.kind, AV.int false IntKind.i64 (l.get k).down.at_.lo, AV.int false IntKind.i64 (l.get k).down.at_.hi, AV.int false
    IntKind.i64 (l.get k).down.wide.lo, AV.int false IntKind.i64 (l.get k).down.wide.hi, AV.int false IntKind.i64 (l.get k).down.deep.lo, AV.int false IntKind.i64 (l.get
    k).down.deep.hi], [AV.int false IntKind.i64 (l.get k).left.kind, AV.int false IntKind.i64 (l.get k).left.at_.lo, AV.int false IntKind.i64 (l.get k).left.at_.hi, AV.int false
    IntKind.i64 (l.get k).left.wide.lo, AV.int false IntKind.i64 (l.get k).left.wide.hi, AV.int false IntKind.i64 (l.get k).left.deep.lo, AV.int false IntKind.i64 (l.get
    k).left.deep.hi]] (0 : Nat) i (1 : Nat)) (rowI [[AV.int false IntKind.i64 (l.get k).up.kind, AV.int false IntKind.i64 (l.get k).up.at_.lo, AV.int false IntKind.i64 (l.get
    k).up.at_.hi, AV.int false IntKind.i64 (l.get k).up.wide.lo, AV.int false IntKind.i64 (l.get k).up.wide.hi, AV.int false IntKind.i64 (l.get k).up.deep.lo, AV.int false IntKind.i64
    (l.get k).up.deep.hi], [AV.int false IntKind.i64 (l.get k).right.kind, AV.int false IntKind.i64 (l.get k).right.at_.lo, AV.int false IntKind.i64 (l.get k).right.at_.hi, AV.int false
    IntKind.i64 (l.get k).right.wide.lo, AV.int false IntKind.i64 (l.get k).right.wide.hi, AV.int false IntKind.i64 (l.get k).right.deep.lo, AV.int false IntKind.i64 (l.get
    k).right.deep.hi], [AV.int false IntKind.i64 (l.get k).down.kind, AV.int false IntKind.i64 (l.get k).down.at_.lo, AV.int false IntKind.i64 (l.get k).down.at_.hi, AV.int false
    IntKind.i64 (l.get k).down.wide.lo, AV.int false IntKind.i64 (l.get k).down.wide.hi, AV.int false IntKind.i64 (l.get k).down.deep.lo, AV.int false IntKind.i64 (l.get
    k).down.deep.hi], [AV.int false IntKind.i64 (l.get k).left.kind, AV.int false IntKind.i64 (l.get k).left.at_.lo, AV.int false IntKind.i64 (l.get k).left.at_.hi, AV.int false
    IntKind.i64 (l.get k).left.wide.lo, AV.int false IntKind.i64 (l.get k).left.wide.hi, AV.int false IntKind.i64 (l.get k).left.deep.lo, AV.int false IntKind.i64 (l.get
    k).left.deep.hi]] (0 : Nat) i (2 : Nat))) (Sp.mk (rowI [[AV.int false IntKind.i64 (l.get k).up.kind, AV.int false IntKind.i64 (l.get k).up.at_.lo, AV.int false IntKind.i64 (l.get
    k).up.at_.hi, AV.int false IntKind.i64 (l.get k).up.wide.lo, AV.int false IntKind.i64 (l.get k).up.wide.hi, AV.int false IntKind.i64 (l.get k).up.deep.lo, AV.int false IntKind.i64
    (l.get k).up.deep.hi], [AV.int false IntKind.i64 (l.get k).right.kind, AV.int false IntKind.i64 (l.get k).right.at_.lo, AV.int false IntKind.i64 (l.get k).right.at_.hi, AV.int false
    IntKind.i64 (l.get k).right.wide.lo, AV.int false IntKind.i64 (l.get k).right.wide.hi, AV.int false IntKind.i64 (l.get k).right.deep.lo, AV.int false IntKind.i64 (l.get
    k).right.deep.hi], [AV.int false IntKind.i64 (l.get k).down.kind, AV.int false IntKind.i64 (l.get k).down.at_.lo, AV.int false IntKind.i64 (l.get k).down.at_.hi, AV.int false
    IntKind.i64 (l.get k).down.wide.lo, AV.int false IntKind.i64 (l.get k).down.wide.hi, AV.int false IntKind.i64 (l.get k).down.deep.lo, AV.int false IntKind.i64 (l.get
    k).down.deep.hi], [AV.int false IntKind.i64 (l.get k).left.kind, AV.int false IntKind.i64 (l.get k).left.at_.lo, AV.int false IntKind.i64 (l.get k).left.at_.hi, AV.int false
    IntKind.i64 (l.get k).left.wide.lo, AV.int false IntKind.i64 (l.get k).left.wide.hi, AV.int false IntKind.i64 (l.get k).left.deep.lo, AV.int false IntKind.i64 (l.get
    k).left.deep.hi]] (0 : Nat) i (3 : Nat)) (rowI [[AV.int false IntKind.i64 (l.get k).up.kind, AV.int false IntKind.i64 (l.get k).up.at_.lo, AV.int false IntKind.i64 (l.get
    k).up.at_.hi, AV.int false IntKind.i64 (l.get k).up.wide.lo, AV.int false IntKind.i64 (l.get k).up.wide.hi, AV.int false IntKind.i64 (l.get k).up.deep.lo, AV.int false IntKind.i64
    (l.get k).up.deep.hi], [AV.int false IntKind.i64 (l.get k).right.kind, AV.int false IntKind.i64 (l.get k).right.at_.lo, AV.int false IntKind.i64 (l.get k).right.at_.hi, AV.int false
    IntKind.i64 (l.get k).right.wide.lo, AV.int false IntKind.i64 (l.get k).right.wide.hi, AV.int false IntKind.i64 (l.get k).right.deep.lo, AV.int false IntKind.i64 (l.get
    k).right.deep.hi], [AV.int false IntKind.i64 (l.get k).down.kind, AV.int false IntKind.i64 (l.get k).down.at_.lo, AV.int false IntKind.i64 (l.get k).down.at_.hi, AV.int false
    IntKind.i64 (l.get k).down.wide.lo, AV.int false IntKind.i64 (l.get k).down.wide.hi, AV.int false IntKind.i64 (l.get k).down.deep.lo, AV.int false IntKind.i64 (l.get
    k).down.deep.hi], [AV.int false IntKind.i64 (l.get k).left.kind, AV.int false IntKind.i64 (l.get k).left.at_.lo, AV.int false IntKind.i64 (l.get k).left.at_.hi, AV.int false
    IntKind.i64 (l.get k).left.wide.lo, AV.int false IntKind.i64 (l.get k).left.wide.hi, AV.int false IntKind.i64 (l.get k).left.deep.lo, AV.int false IntKind.i64 (l.get
    k).left.deep.hi]] (0 : Nat) i (4 : Nat))) (Sp.mk (rowI [[AV.int false IntKind.i64 (l.get k).up.kind, AV.int false IntKind.i64 (l.get k).up.at_.lo, AV.int false IntKind.i64 (l.get
    k).up.at_.hi, AV.int false IntKind.i64 (l.get k).up.wide.lo, AV.int false IntKind.i64 (l.get k).up.wide.hi, AV.int false IntKind.i64 (l.get k).up.deep.lo, AV.int false IntKind.i64
    (l.get k).up.deep.hi], [AV.int false IntKind.i64 (l.get k).right.kind, AV.int false IntKind.i64 (l.get k).right.at_.lo, AV.int false IntKind.i64 (l.get k).right.at_.hi, AV.int false
    IntKind.i64 (l.get k).right.wide.lo, AV.int false IntKind.i64 (l.get k).right.wide.hi, AV.int false IntKind.i64 (l.get k).right.deep.lo, AV.int false IntKind.i64 (l.get
    k).right.deep.hi], [AV.int false IntKind.i64 (l.get k).down.kind, AV.int false IntKind.i64 (l.get k).down.at_.lo, AV.int false IntKind.i64 (l.get k).down.at_.hi, AV.int false
    IntKind.i64 (l.get k).down.wide.lo, AV.int false IntKind.i64 (l.get k).down.wide.hi, AV.int false IntKind.i64 (l.get k).down.deep.lo, AV.int false IntKind.i64 (l.get
    k).down.deep.hi], [AV.int false IntKind.i64 (l.get k).left.kind, AV.int false IntKind.i64 (l.get k).left.at_.lo, AV.int false IntKind.i64 (l.get k).left.at_.hi, AV.int false
    IntKind.i64 (l.get k).left.wide.lo, AV.int false IntKind.i64 (l.get k).left.wide.hi, AV.int false IntKind.i64 (l.get k).left.deep.lo, AV.int false IntKind.i64 (l.get
    k).left.deep.hi]] (0 : Nat) i (5 : Nat)) (rowI [[AV.int false IntKind.i64 (l.get k).up.kind, AV.int false IntKind.i64 (l.get k).up.at_.lo, AV.int false IntKind.i64 (l.get
    k).up.at_.hi, AV.int false IntKind.i64 (l.get k).up.wide.lo, AV.int false IntKind.i64 (l.get k).up.wide.hi, AV.int false IntKind.i64 (l.get k).up.deep.lo, AV.int false IntKind.i64
    (l.get k).up.deep.hi], [AV.int false IntKind.i64 (l.get k).right.kind, AV.int false IntKind.i64 (l.get k).right.at_.lo, AV.int false IntKind.i64 (l.get k).right.at_.hi, AV.int false
    IntKind.i64 (l.get k).right.wide.lo, AV.int false IntKind.i64 (l.get k).right.wide.hi, AV.int false IntKind.i64 (l.get k).right.deep.lo, AV.int false IntKind.i64 (l.get
    k).right.deep.hi], [AV.int false IntKind.i64 (l.get k).down.kind, AV.int false IntKind.i64 (l.get k).down.at_.lo, AV.int false IntKind.i64 (l.get k).down.at_.hi, AV.int false
    IntKind.i64 (l.get k).down.wide.lo, AV.int false IntKind.i64 (l.get k).down.wide.hi, AV.int false IntKind.i64 (l.get k).down.deep.lo, AV.int false IntKind.i64 (l.get
    k).down.deep.hi], [AV.int false IntKind.i64 (l.get k).left.kind, AV.int false IntKind.i64 (l.get k).left.at_.lo, AV.int false IntKind.i64 (l.get k).left.at_.hi, AV.int false
    IntKind.i64 (l.get k).left.wide.lo, AV.int false IntKind.i64 (l.get k).left.wide.hi, AV.int false IntKind.i64 (l.get k).left.deep.lo, AV.int false IntKind.i64 (l.get
    k).left.deep.hi]] (0 : Nat) i (6 : Nat)))) != (0 : Int)) (Tree.leaf (AV.tup [AV.nili, AV.ptr (19 : Nat) (0 : Nat) (0 : Nat), AV.int false IntKind.i64 (↑k : Int)]) ([])) (Tree.leaf
    (AV.tup [AV.nilp, AV.ptr (19 : Nat) (0 : Nat) (0 : Nat), AV.slz (0 : Nat) (0 : Nat) l.n (Cap.of (0 : Nat)), AV.fn (Fn.func (71 : Nat)) [AV.ptr (1 : Nat) (0 : Nat) (0 : Nat)], AV.int
    false IntKind.i64 (↑l.n : Int), AV.int false IntKind.i64 (IntKind.i64.wrap ((↑k : Int) + (1 : Int)))]) ([((0 : Nat), Blk.frz [CK.int IntKind.i64, CK.int IntKind.i64, CK.int
    IntKind.i64, CK.int IntKind.i64, CK.int IntKind.i64, CK.int IntKind.i64, CK.int IntKind.i64, CK.int IntKind.i64, CK.int IntKind.i64, CK.int IntKind.i64, CK.int IntKind.i64, CK.int
    IntKind.i64, CK.int IntKind.i64, CK.int IntKind.i64, CK.int IntKind.i64, CK.int IntKind.i64, CK.int IntKind.i64, CK.int IntKind.i64, CK.int IntKind.i64, CK.int IntKind.i64, CK.int
    IntKind.i64, CK.int IntKind.i64, CK.int IntKind.i64, CK.int IntKind.i64, CK.int IntKind.i64, CK.int IntKind.i64, CK.int IntKind.i64, CK.int IntKind.i64] l.n fun i => RowT.enc (l.get
    i)), ((1 : Nat), Blk.cellsR (0 : Nat) (25 : Nat) [AV.int false IntKind.i64 m.x.length, AV.int false IntKind.i64 m.x.slack, AV.int false IntKind.i64 m.x.loose, AV.int false
    IntKind.i64 m.x.damp.lo, AV.int false IntKind.i64 m.x.damp.hi])])))))) (Tree.leaf (AV.tup [AV.ptr (0 : Nat) (0 : Nat) (0 : Nat), AV.ptr (19 : Nat) (0 : Nat) (0 : Nat)]) ([])) := by kernel_rfl
def idpR (l : Rw Piece) (m : PlayK) (k : Nat) (e : Ex) (J : JSt) : Prop := (e = .ret ∧ (firstN (badP m l) (l.n - k) k).isSome = true ∧ J = ⟨19, [(4, .int false .i64 (idxOf (firstN (badP m l) (l.n - k) k)))], [], 8⟩) ∨ (e = .exit 0 ∧ firstN (badP m l) (l.n - k) k = none ∧ J = ⟨19, [], [], 8⟩)
set_option maxRecDepth 100000 in
theorem idp_go (l : Rw Piece) (m : PlayK) (k : Nat) (i : Int) : subE 8 [.slz 0 0 l.n (.of 0), ArgE.val 1 m, .int false .i64 l.n, .int false .i64 i] (idp l m) (idpJ l m k) = (
    some [(0 : Nat) = (0 : Nat), l.n = l.n, Cap.of (0 : Nat) = Cap.of (0 : Nat), Fn.func (71 : Nat) = Fn.func (71 : Nat), (0 : Nat) = (0 : Nat), (0 : Nat) = (0 : Nat), (↑l.n : Int) =
    (↑l.n : Int), i = (↑k : Int), l.n ≤ l.n, RowsEq (28 : Nat) l.n (fun i => RowT.enc (l.get i)) fun i => RowT.enc (l.get i), m.x.length = m.x.length, m.x.slack = m.x.slack, m.x.loose =
    m.x.loose, m.x.damp.lo = m.x.damp.lo, m.x.damp.hi = m.x.damp.hi]) := by kernel_rfl
theorem idp_round (l : Rw Piece) (m : PlayK) (hl : l.n ≤ 1000) : RoundW (idpJ l m) (fun k => k ≤ l.n) (fun k => l.n - k) (idpR l m) 8 idxLs [] (mkE Try.prog tab_isB) (fun _ => hnd (mkE Try.prog tab_isB) 4) (bodyK Try.f90 0) := by
  refine ⟨fun k g hk => ⟨den_of (idp_r l m k g) ?_⟩⟩
  refine den_br (fun h => ?_) (fun h => ?_)
  · have h : k < l.n := by have := of_decide_eq_true h; omega
    obtain ⟨n, hm⟩ : ∃ n, l.n - k = n + 1 := ⟨l.n - k - 1, by omega⟩
    have hm' : l.n - (k + 1) = n := by omega
    refine den_need (by simp; omega) (den_need (by simp; omega) (den_need rfl (den_br (fun hb => ?_) (fun hb => ?_))))
    · have hf : firstN (badP m l) (l.n - k) k = some k := by rw [hm, firstN]; unfold badP; rw [(mat_piece m.x (l.get k) _ rfl rfl rfl rfl rfl).symm.trans hb]
      exact ⟨_, .inl ⟨rfl, by rw [hf]; rfl, rfl⟩, rfl, rfl, _, idx_ret _ _, by rw [hf]; exact ⟨rfl, trivial⟩⟩
    · have hf : firstN (badP m l) (l.n - k) k = firstN (badP m l) (l.n - (k + 1)) (k + 1) := by rw [hm, hm', firstN]; unfold badP; rw [(mat_piece m.x (l.get k) _ rfl rfl rfl rfl rfl).symm.trans hb]
      refine ⟨k + 1, by omega, by show l.n - (k + 1) < l.n - k; omega, fun e J h => by unfold idpR at h ⊢; rw [hf]; exact h, rfl, rfl, _, idp_go _ _ _ _, ?_⟩
      repeat' first | exact trivial | with_reducible rfl | exact Nat.le_refl _ | exact RowsEq.refl _ _ _ | exact (w64 (by omega) (by omega)).trans (by omega) | refine And.intro ?_ ?_
  · have h : l.n ≤ k := by have := of_decide_eq_false h; omega
    have hf : firstN (badP m l) (l.n - k) k = none := by rw [show l.n - k = 0 by omega]; rfl
    exact ⟨_, .inr ⟨rfl, hf, rfl⟩, rfl, rfl, _, idx_end, trivial⟩
def idpX (l : Rw Piece) (m : PlayK) : List (Prop × Ex × JSt) := [((firstN (badP m l) l.n 0).isSome = true, .ret, ⟨19, [(4, .int false .i64 (idxOf (firstN (badP m l) l.n 0)))], [], 8⟩), (firstN (badP m l) l.n 0 = none, .exit 0, ⟨19, [], [], 8⟩)]
abbrev idpL (l : Rw Piece) (m : PlayK) : Code → St → (Ex → St → Tree) → Tree := fun _ => loopT 8 [] (idpJ l m 0) (idpX l m)
theorem idp_hnd (l : Rw Piece) (m : PlayK) (hl : l.n ≤ 1000) (G : Ctx) (hrd : G.rd = none) (hG : G.n = 8) : HndOk (mkE Try.prog tab_isB) G { hnd (mkE Try.prog tab_isB) 1 with loop := idpL l m } (bodyOf Try.f90) := by
  refine one_loop (body := bodyK Try.f90 0) (mkE_ok tab_isB_ok) hrd (by kernel_rfl) ?_
  refine loopT_ok (n0 := 8) (mkE_ok tab_isB_ok) (by omega) (fun s hs => hnd_hndOk (mkE_ok tab_isB_ok) 4 G _ hrd) (fun s hs => Nat.le_refl _) ?_ (idp_round l m hl) (s0 := 0) (Nat.zero_le _) ?_
  · rintro s e J (⟨_, _, rfl⟩ | ⟨_, _, rfl⟩) <;> exact Nat.le_refl _
  · rintro e J (⟨rfl, h, rfl⟩ | ⟨rfl, h, rfl⟩)
    · exact ⟨_, List.mem_cons_self, h, rfl, rfl⟩
    · exact ⟨_, List.mem_cons_of_mem _ List.mem_cons_self, h, rfl, rfl⟩
def idpF : WF ((Rw Piece) × PlayK × Unit) := fun | (l, (m, _)) => (decide (l.n ≤ 1000), .int false .i64 (idxOf (firstN (badP m l) l.n 0)), [])
def idpC : FC := wFC idpF
set_option maxRecDepth 100000 in
theorem idp_t (l : (Rw Piece)) (m : PlayK) : execW (mkE Try.prog tab_isB) { hnd (mkE Try.prog tab_isB) 1 with loop := idpL l m } Try.f90 (ArgsE.vals 0 ((l, m, ()) : (Rw Piece) × PlayK × Unit)) (ArgsE.blks 0 ((l, m, ()) : (Rw Piece) × PlayK × Unit)) 8 =
    Tree.ask ((0 : Nat) = (0 : Nat)) (Tree.ask (l.n = l.n) (Tree.ask (Cap.of (0 : Nat) = Cap.of (0 : Nat)) (Tree.ask (Fn.func (71 : Nat) = Fn.func (71 : Nat)) (Tree.ask ((0 : Nat) = (0
    : Nat)) (Tree.ask ((0 : Nat) = (0 : Nat)) (Tree.ask ((↑l.n : Int) = (↑l.n : Int)) (Tree.ask ((0 : Int) = (0 : Int)) (Tree.ask (l.n ≤ l.n) (Tree.ask (RowsEq (28 : Nat) l.n (fun i =>
    RowT.enc (l.get i)) fun i => RowT.enc (l.get i)) (Tree.ask (m.x.length = m.x.length) (Tree.ask (m.x.slack = m.x.slack) (Tree.ask (m.x.loose = m.x.loose) (Tree.ask (m.x.damp.lo =
    m.x.damp.lo) (Tree.ask (m.x.damp.hi = m.x.damp.hi) (Tree.both (Tree.asm ((firstN (badP m l) l.n (0 : Nat)).isSome = true) (Tree.all (fun (g0 : Nat → Value) => Tree.leaf (AV.int
    false IntKind.i64 (idxOf (firstN (badP m l) l.n (0 : Nat)))) ([])))) (Tree.asm (firstN (badP m l) l.n (0 : Nat) = none) (Tree.all (fun (g1 : Nat → Value) => Tree.leaf (AV.int true
    IntKind.i64 (-1 : Int)) ([]))))))))))))))))))) := by kernel_rfl
theorem idp_hs : WHnd (mkE Try.prog tab_isB) (bodyOf Try.f90) 8 idpF (fun x_ => { hnd (mkE Try.prog tab_isB) 1 with loop := idpL x_.1 x_.2.1 }) := by
  refine ⟨?_⟩
  rintro ⟨l, ⟨m, ⟨⟩⟩⟩ hp G h1 h2
  exact idp_hnd l m (of_decide_eq_true hp) G h1 h2
theorem idp_run : WRun (mkE Try.prog tab_isB) Try.f90 8 idpF (fun x_ => { hnd (mkE Try.prog tab_isB) 1 with loop := idpL x_.1 x_.2.1 }) := by
  refine ⟨?_⟩
  rintro ⟨l, ⟨m, ⟨⟩⟩⟩ hp
  refine ⟨⟨rfl, by simp [idpF], rfl⟩, ⟨?_⟩⟩
  rw [idp_t l m]
  simp only [idpF] at hp
  repeat' first | refine den_ask (by with_reducible rfl) ?_ | refine den_ask (Nat.le_refl _) ?_ | refine den_ask (RowsEq.refl _ _ _) ?_ | refine den_ask (show _ = _ from rfl) ?_
  refine den_both (den_asm fun h => den_all fun g => ?_) (den_asm fun h => den_all fun g => ?_)
  · exact endOk_same ⟨rfl, rfl⟩ rfl
  · exact endOk_same ⟨rfl, by show (-1 : Int) = idxOf (firstN (badP m l) l.n 0); rw [h]; rfl⟩ rfl
theorem idp_s : FSound Try.prog 90 idpC :=
  fn_W (mkE_ok tab_isB_ok) Try.func90 (by kernel_rfl) (by kernel_rfl) (by decide) idp_hs idp_run
def tab_idp : Tab := addF tab_isB 90 idpC
theorem tab_idp_ok : TabOk tab_idp := tab_isB_ok.add idp_s
def conpF : WF ((Rw Piece) × PlayK × Unit) := fun | (l, (m, _)) => (decide (l.n ≤ 1000), .bool false (decide (idxOf (firstN (badP m l) l.n 0) ≥ 0)), [])
def conpC : FC := wFC conpF
set_option maxRecDepth 100000 in
theorem conp_t (l : (Rw Piece)) (m : PlayK) : execW (mkE Try.prog tab_idp) (hnd (mkE Try.prog tab_idp) 0) Try.f70 (ArgsE.vals 0 ((l, m, ()) : (Rw Piece) × PlayK × Unit)) (ArgsE.blks 0 ((l, m, ()) : (Rw Piece) × PlayK × Unit)) 8 =
    Tree.need (decide (l.n ≤ l.n) && (true && true) && decide (l.n ≤ (1000 : Nat))) (Tree.leaf (AV.bool false (decide (idxOf (firstN (badP m l) l.n (0 : Nat)) ≥ (0 : Int)))) ([])) := by kernel_rfl
theorem conp_hs : WHnd (mkE Try.prog tab_idp) (bodyOf Try.f70) 8 conpF (fun x_ => (hnd (mkE Try.prog tab_idp) 0)) := by
  refine ⟨?_⟩
  rintro ⟨l, ⟨m, ⟨⟩⟩⟩ hp G h1 h2
  exact hnd_hndOk (mkE_ok tab_idp_ok) 0 G _ h1
theorem conp_run : WRun (mkE Try.prog tab_idp) Try.f70 8 conpF (fun x_ => (hnd (mkE Try.prog tab_idp) 0)) := by
  refine ⟨?_⟩
  rintro ⟨l, ⟨m, ⟨⟩⟩⟩ hp
  refine ⟨⟨rfl, by simp [conpF], rfl⟩, ⟨?_⟩⟩
  rw [conp_t l m]
  simp only [conpF] at hp
  exact den_need (by simpa using hp) (endOk_same rfl rfl)
theorem conp_s : FSound Try.prog 70 conpC :=
  fn_W (mkE_ok tab_idp_ok) Try.func70 (by kernel_rfl) (by kernel_rfl) (by decide) conp_hs conp_run
def tab_conp : Tab := addF tab_idp 70 conpC
theorem tab_conp_ok : TabOk tab_conp := tab_idp_ok.add conp_s
end Go.Proofs.Ytbpffdkemeoajaa
/- Is a drawing valid? (layer 7) -/
namespace Go.Proofs.Ytbpffdkemeoajaa
open Go.SX
def okPs (p : Play) (l : Rw Piece) : Bool := (firstN (badP ⟨p⟩ l) l.n 0).isNone
def withinSF : Int × Int × Int × Unit → Bool × AV := fun | (n, (a, (b, _))) => (true, .bool false (within n a b))
def withinSC : FC := pureFC (pfOf withinSF)
set_option maxRecDepth 100000 in
theorem withinS_t (n : Int) (a : Int) (b : Int) : execFn (mkE Try.prog tab_conp) (hnd (mkE Try.prog tab_conp) 2) false Try.f66 (EncL.enc ((n, a, b, ()) : Int × Int × Int × Unit)) [] 0 =
    Tree.br (decide (a ≤ n)) (Tree.leaf (AV.bool false (decide (n ≤ b))) ([])) (Tree.leaf (AV.bool true false) ([])) := by kernel_rfl
theorem withinS_s : FSound Try.prog 66 withinSC := by
  refine plain_fn tab_conp_ok 2 Try.func66 (by kernel_rfl) (by kernel_rfl) ?_
  rintro ⟨n, a, b, ⟨⟩⟩ hp
  rw [withinS_t n a b]
  simp only [withinSF, Tree.den, AV.same, AV.sameL, and_true, true_and] at hp ⊢
  (repeat' (first | (refine And.intro ?_ ?_) | (intro _))) <;> simp_all [within] <;> omega
def tab_withinS : Tab := addF tab_conp 66 withinSC
theorem tab_withinS_ok : TabOk tab_withinS := tab_conp_ok.add withinS_s
def arePF : WF (Play × (Rw Piece) × Unit) := fun | (p, (l, _)) => (decide (l.n ≤ 1000), .bool false (okPs p l), [])
def arePC : FC := wFC arePF
set_option maxRecDepth 100000 in
theorem areP_t (p : Play) (l : (Rw Piece)) : execW (mkE Try.prog tab_withinS) (hnd (mkE Try.prog tab_withinS) 0) Try.f42 (ArgsE.vals 0 ((p, l, ()) : Play × (Rw Piece) × Unit)) (ArgsE.blks 0 ((p, l, ()) : Play × (Rw Piece) × Unit)) 8 =
    Tree.need (decide (l.n ≤ l.n) && (true && true) && decide (l.n ≤ (1000 : Nat))) (Tree.leaf (AV.bool false !decide (idxOf (firstN (badP (FnC.mk p) l) l.n (0 : Nat)) ≥ (0 : Int)))
    ([])) := by kernel_rfl
theorem areP_hs : WHnd (mkE Try.prog tab_withinS) (bodyOf Try.f42) 8 arePF (fun x_ => (hnd (mkE Try.prog tab_withinS) 0)) := by
  refine ⟨?_⟩
  rintro ⟨p, ⟨l, ⟨⟩⟩⟩ hp G h1 h2
  exact hnd_hndOk (mkE_ok tab_withinS_ok) 0 G _ h1
theorem areP_run : WRun (mkE Try.prog tab_withinS) Try.f42 8 arePF (fun x_ => (hnd (mkE Try.prog tab_withinS) 0)) := by
  refine ⟨?_⟩
  rintro ⟨p, ⟨l, ⟨⟩⟩⟩ hp
  refine ⟨⟨rfl, by simp [arePF], rfl⟩, ⟨?_⟩⟩
  rw [areP_t p l]
  simp only [arePF] at hp
  exact den_need (by simpa using hp) (endOk_same (idxOf_neg _) rfl)
theorem areP_s : FSound Try.prog 42 arePC :=
  fn_W (mkE_ok tab_withinS_ok) Try.func42 (by kernel_rfl) (by kernel_rfl) (by decide) areP_hs areP_run
def tab_areP : Tab := addF tab_withinS 42 arePC
theorem tab_areP_ok : TabOk tab_areP := tab_withinS_ok.add areP_s
def Puz.okN (d : Puz) : Bool := within (d.ps.n : Int) 1 9 && (within d.wide 1 d.ps.n && (within d.high 1 d.ps.n && IntKind.i64.wrap (d.wide * d.high) == (d.ps.n : Int)))
def Puz.ok (d : Puz) : Bool := d.okN && okPs d.play d.ps
def isDrF : WF (Puz × Unit) := fun | (d, _) => (decide (d.ps.n ≤ 1000), .bool false d.ok, [])
def isDrC : FC := wFC isDrF
set_option maxRecDepth 100000 in
theorem isDr_t (d : Puz) : execW (mkE Try.prog tab_areP) (hnd (mkE Try.prog tab_areP) 0) Try.f37 (ArgsE.vals 0 ((d, ()) : Puz × Unit)) (ArgsE.blks 0 ((d, ()) : Puz × Unit)) 8 =
    Tree.need (true) (Tree.br (within (↑d.ps.n : Int) (1 : Int) (9 : Int)) (Tree.need (true) (Tree.br (within d.wide (1 : Int) (↑d.ps.n : Int)) (Tree.need (true) (Tree.br (within d.high
    (1 : Int) (↑d.ps.n : Int)) (Tree.br (IntKind.i64.wrap (d.wide * d.high) == (↑d.ps.n : Int)) (Tree.need (true && (decide (d.ps.n ≤ d.ps.n) && true) && decide (d.ps.n ≤ (1000 : Nat)))
    (Tree.leaf (AV.bool false (okPs d.play d.ps)) ([]))) (Tree.leaf (AV.bool true false) ([]))) (Tree.leaf (AV.bool true false) ([])))) (Tree.leaf (AV.bool true false) ([]))))
    (Tree.leaf (AV.bool true false) ([]))) := by kernel_rfl
theorem isDr_hs : WHnd (mkE Try.prog tab_areP) (bodyOf Try.f37) 8 isDrF (fun x_ => (hnd (mkE Try.prog tab_areP) 0)) := by
  refine ⟨?_⟩
  rintro ⟨d, ⟨⟩⟩ hp G h1 h2
  exact hnd_hndOk (mkE_ok tab_areP_ok) 0 G _ h1
theorem isDr_run : WRun (mkE Try.prog tab_areP) Try.f37 8 isDrF (fun x_ => (hnd (mkE Try.prog tab_areP) 0)) := by
  refine ⟨?_⟩
  rintro ⟨d, ⟨⟩⟩ hp
  refine ⟨⟨rfl, by simp [isDrF], rfl⟩, ⟨?_⟩⟩
  rw [isDr_t d]
  simp only [isDrF] at hp
  have no : d.okN = false → (Tree.leaf (AV.bool true false) []).den (EndOk 8 (isDrF (d, ())).2.1 (isDrF (d, ())).2.2) := fun h => endOk_same (show false = d.ok by rw [Puz.ok, h]; rfl) rfl
  refine den_need rfl (den_br (fun h1 => den_need rfl (den_br (fun h2 => den_need rfl (den_br (fun h3 => den_br (fun h4 => den_need (by simpa using hp) (endOk_same (show okPs d.play d.ps = d.ok by rw [Puz.ok, Puz.okN, h1, h2, h3, h4]; rfl) rfl)) (fun h4 => no (by rw [Puz.okN, h1, h2, h3, h4]; rfl))) (fun h3 => no (by rw [Puz.okN, h1, h2, h3]; rfl)))) (fun h2 => no (by rw [Puz.okN, h1, h2]; rfl)))) (fun h1 => no (by rw [Puz.okN, h1]; rfl)))
theorem isDr_s : FSound Try.prog 37 isDrC :=
  fn_W (mkE_ok tab_areP_ok) Try.func37 (by kernel_rfl) (by kernel_rfl) (by decide) isDr_hs isDr_run
def tab_isDr : Tab := addF tab_areP 37 isDrC
theorem tab_isDr_ok : TabOk tab_isDr := tab_areP_ok.add isDr_s
end Go.Proofs.Ytbpffdkemeoajaa
/- What lies beside a cell (layer 7). -/
namespace Go.Proofs.Ytbpffdkemeoajaa
open Go.SX
def accF (s : Int) : Int := (s + 2).tmod 4
def acrossF : Int × Unit → Bool × AV := fun | (s, _) => (decide (0 ≤ s ∧ s ≤ 3), .int false .i64 (accF s))
def acrossC : FC := pureFC (pfOf acrossF)
set_option maxRecDepth 100000 in
theorem across_t (s : Int) : execFn (mkE Try.prog tab_isDr) (hnd (mkE Try.prog tab_isDr) 2) false Try.f39 (EncL.enc ((s, ()) : Int × Unit)) [] 0 =
    Tree.leaf (AV.int false IntKind.i64 ((IntKind.i64.wrap (s + (2 : Int))).tmod (4 : Int))) ([]) := by kernel_rfl
theorem across_s : FSound Try.prog 39 acrossC := by
  refine plain_fn tab_isDr_ok 2 Try.func39 (by kernel_rfl) (by kernel_rfl) ?_
  rintro ⟨s, ⟨⟩⟩ hp
  rw [across_t s]
  simp only [acrossF, Tree.den, AV.same, AV.sameL, and_true, true_and] at hp ⊢
  have hp := of_decide_eq_true hp
  show (IntKind.i64.wrap (s + 2)).tmod 4 = accF s
  rw [w64 (by omega) (by omega)]; rfl
def tab_across : Tab := addF tab_isDr 39 acrossC
theorem tab_across_ok : TabOk tab_across := tab_isDr_ok.add across_s
def besF (wide high cell side : Int) : Int :=
  cond (side == 0 && decide (0 < cell.tdiv wide)) (cell - wide) (cond (side == 1 && decide (cell.tmod wide < wide - 1)) (cell + 1)
    (cond (side == 2 && decide (cell.tdiv wide < high - 1)) (cell + wide) (cond (side == 3 && decide (0 < cell.tmod wide)) (cell - 1) (-1))))
def besideF : WF (Puz × Int × Int × Unit) := fun | (d, (c, (s, _))) => (decide ((1 ≤ d.wide ∧ d.wide ≤ 100) ∧ (1 ≤ d.high ∧ d.high ≤ 100) ∧ (0 ≤ c ∧ c ≤ 100)), .int false .i64 (besF d.wide d.high c s), [])
def besideC : FC := wFC besideF
set_option maxRecDepth 100000 in
theorem beside_t (d : Puz) (c : Int) (s : Int) : execW (mkE Try.prog tab_across) (hnd (mkE Try.prog tab_across) 0) Try.f38 (ArgsE.vals 0 ((d, c, s, ()) : Puz × Int × Int × Unit)) (ArgsE.blks 0 ((d, c, s, ()) : Puz × Int × Int × Unit)) 8 =
    Tree.need (!decide (d.wide = (0 : Int))) (Tree.need (!decide (d.wide = (0 : Int))) (Tree.br (s == (0 : Int)) (Tree.br (decide (IntKind.i64.wrap (c.tdiv d.wide) > (0 : Int)))
    (Tree.leaf (AV.int false IntKind.i64 (IntKind.i64.wrap (c - d.wide))) ([])) (Tree.br (s == (1 : Int)) (Tree.br (decide (c.tmod d.wide < IntKind.i64.wrap (d.wide - (1 : Int))))
    (Tree.leaf (AV.int false IntKind.i64 (IntKind.i64.wrap (c + (1 : Int)))) ([])) (Tree.br (s == (2 : Int)) (Tree.br (decide (IntKind.i64.wrap (c.tdiv d.wide) < IntKind.i64.wrap
    (d.high - (1 : Int)))) (Tree.leaf (AV.int false IntKind.i64 (IntKind.i64.wrap (c + d.wide))) ([])) (Tree.br (s == (3 : Int)) (Tree.br (decide (c.tmod d.wide > (0 : Int))) (Tree.leaf
    (AV.int false IntKind.i64 (IntKind.i64.wrap (c - (1 : Int)))) ([])) (Tree.leaf (AV.int true IntKind.i64 (-1 : Int)) ([]))) (Tree.leaf (AV.int true IntKind.i64 (-1 : Int)) ([]))))
    (Tree.br (s == (3 : Int)) (Tree.br (decide (c.tmod d.wide > (0 : Int))) (Tree.leaf (AV.int false IntKind.i64 (IntKind.i64.wrap (c - (1 : Int)))) ([])) (Tree.leaf (AV.int true
    IntKind.i64 (-1 : Int)) ([]))) (Tree.leaf (AV.int true IntKind.i64 (-1 : Int)) ([]))))) (Tree.br (s == (2 : Int)) (Tree.br (decide (IntKind.i64.wrap (c.tdiv d.wide) <
    IntKind.i64.wrap (d.high - (1 : Int)))) (Tree.leaf (AV.int false IntKind.i64 (IntKind.i64.wrap (c + d.wide))) ([])) (Tree.br (s == (3 : Int)) (Tree.br (decide (c.tmod d.wide > (0 :
    Int))) (Tree.leaf (AV.int false IntKind.i64 (IntKind.i64.wrap (c - (1 : Int)))) ([])) (Tree.leaf (AV.int true IntKind.i64 (-1 : Int)) ([]))) (Tree.leaf (AV.int true IntKind.i64 (-1
    : Int)) ([])))) (Tree.br (s == (3 : Int)) (Tree.br (decide (c.tmod d.wide > (0 : Int))) (Tree.leaf (AV.int false IntKind.i64 (IntKind.i64.wrap (c - (1 : Int)))) ([])) (Tree.leaf
    (AV.int true IntKind.i64 (-1 : Int)) ([]))) (Tree.leaf (AV.int true IntKind.i64 (-1 : Int)) ([])))))) (Tree.br (s == (1 : Int)) (Tree.br (decide (c.tmod d.wide < IntKind.i64.wrap
    (d.wide - (1 : Int)))) (Tree.leaf (AV.int false IntKind.i64 (IntKind.i64.wrap (c + (1 : Int)))) ([])) (Tree.br (s == (2 : Int)) (Tree.br (decide (IntKind.i64.wrap (c.tdiv d.wide) <
    IntKind.i64.wrap (d.high - (1 : Int)))) (Tree.leaf (AV.int false IntKind.i64 (IntKind.i64.wrap (c + d.wide))) ([])) (Tree.br (s == (3 : Int)) (Tree.br (decide (c.tmod d.wide > (0 :
    Int))) (Tree.leaf (AV.int false IntKind.i64 (IntKind.i64.wrap (c - (1 : Int)))) ([])) (Tree.leaf (AV.int true IntKind.i64 (-1 : Int)) ([]))) (Tree.leaf (AV.int true IntKind.i64 (-1
    : Int)) ([])))) (Tree.br (s == (3 : Int)) (Tree.br (decide (c.tmod d.wide > (0 : Int))) (Tree.leaf (AV.int false IntKind.i64 (IntKind.i64.wrap (c - (1 : Int)))) ([])) (Tree.leaf
    (AV.int true IntKind.i64 (-1 : Int)) ([]))) (Tree.leaf (AV.int true IntKind.i64 (-1 : Int)) ([]))))) (Tree.br (s == (2 : Int)) (Tree.br (decide (IntKind.i64.wrap (c.tdiv d.wide) <
    IntKind.i64.wrap (d.high - (1 : Int)))) (Tree.leaf (AV.int false IntKind.i64 (IntKind.i64.wrap (c + d.wide))) ([])) (Tree.br (s == (3 : Int)) (Tree.br (decide (c.tmod d.wide > (0 :
    Int))) (Tree.leaf (AV.int false IntKind.i64 (IntKind.i64.wrap (c - (1 : Int)))) ([])) (Tree.leaf (AV.int true IntKind.i64 (-1 : Int)) ([]))) (Tree.leaf (AV.int true IntKind.i64 (-1
    : Int)) ([])))) (Tree.br (s == (3 : Int)) (Tree.br (decide (c.tmod d.wide > (0 : Int))) (Tree.leaf (AV.int false IntKind.i64 (IntKind.i64.wrap (c - (1 : Int)))) ([])) (Tree.leaf
    (AV.int true IntKind.i64 (-1 : Int)) ([]))) (Tree.leaf (AV.int true IntKind.i64 (-1 : Int)) ([]))))))) := by kernel_rfl
theorem beside_hs : WHnd (mkE Try.prog tab_across) (bodyOf Try.f38) 8 besideF (fun x_ => (hnd (mkE Try.prog tab_across) 0)) := by
  refine ⟨?_⟩
  rintro ⟨d, ⟨c, ⟨s, ⟨⟩⟩⟩⟩ hp G h1 h2
  exact hnd_hndOk (mkE_ok tab_across_ok) 0 G _ h1
theorem beside_run : WRun (mkE Try.prog tab_across) Try.f38 8 besideF (fun x_ => (hnd (mkE Try.prog tab_across) 0)) := by
  refine ⟨?_⟩
  rintro ⟨d, ⟨c, ⟨s, ⟨⟩⟩⟩⟩ hp
  refine ⟨⟨rfl, by simp [besideF], rfl⟩, ⟨?_⟩⟩
  rw [beside_t d c s]
  simp only [besideF] at hp
  obtain ⟨⟨w1, w2⟩, ⟨h1, h2⟩, c1, c2⟩ := of_decide_eq_true hp
  have q0 : 0 ≤ c.tdiv d.wide := Int.tdiv_nonneg c1 (by omega)
  have q1 : c.tdiv d.wide ≤ c := by rw [Int.tdiv_eq_ediv_of_nonneg c1]; exact Int.ediv_le_self _ c1
  have m0 : 0 ≤ c.tmod d.wide := Int.tmod_nonneg _ c1
  have m1 : c.tmod d.wide < d.wide := Int.tmod_lt_of_pos _ (by omega)
  have e1 : IntKind.i64.wrap (c.tdiv d.wide) = c.tdiv d.wide := w64 (by omega) (by omega)
  have e2 : IntKind.i64.wrap (c - d.wide) = c - d.wide := w64 (by omega) (by omega)
  have e3 : IntKind.i64.wrap (d.wide - 1) = d.wide - 1 := w64 (by omega) (by omega)
  have e4 : IntKind.i64.wrap (c + 1) = c + 1 := w64 (by omega) (by omega)
  have e5 : IntKind.i64.wrap (d.high - 1) = d.high - 1 := w64 (by omega) (by omega)
  have e6 : IntKind.i64.wrap (c + d.wide) = c + d.wide := w64 (by omega) (by omega)
  have e7 : IntKind.i64.wrap (c - 1) = c - 1 := w64 (by omega) (by omega)
  have dz : (!decide (d.wide = 0)) = true := by simp; omega
  rw [e1, e2, e3, e4, e5, e6, e7]
  refine den_need dz (den_need dz ?_)
  have fin : ∀ v : AV, v.same (.int false .i64 (besF d.wide d.high c s)) → (Tree.leaf v []).den (EndOk 8 (besideF (d, c, s, ())).2.1 (besideF (d, c, s, ())).2.2) := fun v h => endOk_same h rfl
  repeat' refine den_br (fun _ => ?_) (fun _ => ?_)
  all_goals refine fin _ ?_
  all_goals simp only [AV.same, besF, true_and]
  all_goals grind
theorem beside_s : FSound Try.prog 38 besideC :=
  fn_W (mkE_ok tab_across_ok) Try.func38 (by kernel_rfl) (by kernel_rfl) (by decide) beside_hs beside_run
def tab_beside : Tab := addF tab_across 38 besideC
theorem tab_beside_ok : TabOk tab_beside := tab_across_ok.add beside_s
end Go.Proofs.Ytbpffdkemeoajaa
