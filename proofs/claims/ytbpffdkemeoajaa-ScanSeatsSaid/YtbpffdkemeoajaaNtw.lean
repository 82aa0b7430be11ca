/- scan.seats: the loop over the turns (layer 7). -/
import Derived.Test.YtbpffdkemeoajaaNtv
namespace Go.SX
open Go Go.RowKit Go.Proofs.Ytbpffdkemeoajaa
/-- Four sides, one after the other. -/
theorem turn_den {Q : AV → List (Nat × Blk) → Prop} {q0 q1 q2 q3 m0 m1 m2 m3 n0 n1 n2 n3 : Bool} {L0 L1 L2 L3 K : Tree} (hm0 : m0 = true) (hm1 : m1 = true) (hm2 : m2 = true) (hm3 : m3 = true) (h0 : n0 = true) (h1 : n1 = true) (h2 : n2 = true) (h3 : n3 = true)
    (hno : (q0 && (q1 && (q2 && q3))) = false → L0.den Q ∧ L1.den Q ∧ L2.den Q ∧ L3.den Q) (hyes : (q0 && (q1 && (q2 && q3))) = true → K.den Q) :
    (Tree.need m0 (.need n0 (.br (!q0) L0 (.need m1 (.need n1 (.br (!q1) L1 (.need m2 (.need n2 (.br (!q2) L2 (.need m3 (.need n3 (.br (!q3) L3 K)))))))))))).den Q := by
  subst hm0 hm1 hm2 hm3 h0 h1 h2 h3
  refine den_need rfl (den_need rfl (den_br (fun h => ?_) (fun h => den_need rfl (den_need rfl (den_br (fun h' => ?_) (fun h' => den_need rfl (den_need rfl (den_br (fun h'' => ?_) (fun h'' => den_need rfl (den_need rfl (den_br (fun h''' => ?_) (fun h''' => ?_)))))))))))) 
  · exact (hno (by cases q0 <;> simp_all)).1
  · exact (hno (by cases q0 <;> cases q1 <;> simp_all)).2.1
  · exact (hno (by cases q0 <;> cases q1 <;> cases q2 <;> simp_all)).2.2.1
  · exact (hno (by cases q0 <;> cases q1 <;> cases q2 <;> cases q3 <;> simp_all)).2.2.2
  · exact hyes (by cases q0 <;> cases q1 <;> cases q2 <;> cases q3 <;> simp_all)
theorem denOk_of {Q : AV → List (Nat × Blk) → Prop} {t t' : Tree} (e : t = t') (h : t'.den Q) : DenOk Q t := ⟨e ▸ h⟩
end Go.SX
namespace Go.Proofs.Ytbpffdkemeoajaa
open Go.SX
/-- Can side x of a scan be side y of a piece? -/
def isS (x y : Edge) : Bool := cond (x.kind == 0) (y.kind == 0) (isF x y)
/-- Can the scan be the piece, turned by t? -/
def seatQ (d : Puz) (s : Piece) (c t : Nat) : Bool := isS (edgeI s ((0 + 4 - t) % 4)) (edgeI (d.ps.get c) 0) && (isS (edgeI s ((1 + 4 - t) % 4)) (edgeI (d.ps.get c) 1) && (isS (edgeI s ((2 + 4 - t) % 4)) (edgeI (d.ps.get c) 2) && isS (edgeI s ((3 + 4 - t) % 4)) (edgeI (d.ps.get c) 3)))
def addS (q : Bool) (l : List Seat) (c t : Nat) : List Seat := match q with
  | true => l ++ [⟨c, t⟩]
  | false => l
/-- The seats of the first c cells, and the first t turns of the next one. -/
def turnL (d : Puz) (s : Piece) (l : List Seat) (c : Nat) : Nat → List Seat
  | 0 => l
  | t + 1 => addS (seatQ d s c t) (turnL d s l c t) c t
def seatL (d : Puz) (s : Piece) : Nat → List Seat
  | 0 => []
  | c + 1 => turnL d s (seatL d s c) c 4
theorem addS_len (q : Bool) (l : List Seat) (c t : Nat) : (addS q l c t).length ≤ l.length + 1 := by
  cases q <;> simp [addS]
theorem turnL_len (d : Puz) (s : Piece) (l : List Seat) (c : Nat) : ∀ t, (turnL d s l c t).length ≤ l.length + t
  | 0 => Nat.le_refl _
  | t + 1 => by
    have := turnL_len d s l c t
    have := addS_len (seatQ d s c t) (turnL d s l c t) c t
    simp only [turnL]; omega
theorem seatL_len (d : Puz) (s : Piece) : ∀ c, (seatL d s c).length ≤ 4 * c
  | 0 => Nat.le_refl _
  | c + 1 => by
    have := seatL_len d s c
    have := turnL_len d s (seatL d s c) c 4
    simp only [seatL]; omega
theorem rows_snocS (o : List Seat) (c t : Nat) : RowsEq 2 (o ++ [(⟨c, t⟩ : Seat)]).length (joinG o.length (fun i => RowT.enc (o.getD i ⟨0, 0⟩)) (rowI [[AV.int false IntKind.i64 c, AV.int true IntKind.i64 t]] 0)) (fun i => RowT.enc ((o ++ [(⟨c, t⟩ : Seat)]).getD i ⟨0, 0⟩)) := by
  intro i hi
  rw [List.length_append, List.length_singleton] at hi
  have key : ∀ j, joinG o.length (fun i => RowT.enc (o.getD i ⟨0, 0⟩)) (rowI [[AV.int false IntKind.i64 c, AV.int true IntKind.i64 t]] 0) i j = if i < o.length then RowT.enc (o.getD i ⟨0, 0⟩) j else nthC [AV.int false IntKind.i64 c, AV.int true IntKind.i64 t] j := by
    intro j
    rw [joinG_get]
    split
    · rfl
    · rename_i h
      have : i = o.length := by omega
      subst this
      simp [rowI]
  have e : i < o.length → (o ++ [(⟨c, t⟩ : Seat)]).getD i ⟨0, 0⟩ = o.getD i ⟨0, 0⟩ := fun h => by rw [List.getD_eq_getElem?_getD, List.getD_eq_getElem?_getD, List.getElem?_append_left h]
  have e2 : ¬ i < o.length → (o ++ [(⟨c, t⟩ : Seat)]).getD i ⟨0, 0⟩ = ⟨c, t⟩ := fun h => by
    have : i = o.length := by omega
    subst this
    simp
  refine ⟨?_, ?_, trivial⟩
  · show joinG _ _ _ i 0 = RowT.enc ((o ++ [(⟨c, t⟩ : Seat)]).getD i ⟨0, 0⟩) 0
    rw [key 0]
    split
    · rename_i h; rw [e h]
    · rename_i h; rw [e2 h]; rfl
  · show joinG _ _ _ i 1 = RowT.enc ((o ++ [(⟨c, t⟩ : Seat)]).getD i ⟨0, 0⟩) 1
    rw [key 1]
    split
    · rename_i h; rw [e h]
    · rename_i h; rw [e2 h]; rfl
set_option maxRecDepth 100000 in
theorem tur_round (d : Puz) (s : Piece) (o : List Seat) (c : Nat) (ho : o.length ≤ 4000) : RoundW (fun t => turJ d s (turnL d s o c t) c t) (fun t => t ≤ 4) (fun t => 4 - t) (fun _ e J => e = .exit 2 ∧ J = turE d s (turnL d s o c 4) c) 8 turLs [] (mkE Try.prog tab_shp) (fun _ => hnd (mkE Try.prog tab_shp) 6) (loopIn (bodyK Try.f43 0)) := by
  refine ⟨fun t g ht => ?_⟩
  have nd : ∀ b : Bool, (cond b true true) = true := fun b => by cases b <;> rfl
  have hlen := turnL_len d s o c t
  rcases (by have := ht; omega : t = 0 ∨ t = 1 ∨ t = 2 ∨ t = 3 ∨ t = 4) with rfl | rfl | rfl | rfl | rfl
  · refine denOk_of (sea_0 d s _ c g) (turn_den rfl rfl rfl rfl (nd _) (nd _) (nd _) (nd _) (fun hq => ?_) (fun hq => ?_))
    · have hq : seatQ d s c 0 = false := hq
      have e : turnL d s o c 1 = turnL d s o c 0 := by simp only [turnL, hq, addS]
      refine ⟨?_, ?_, ?_, ?_⟩ <;> (
        refine ⟨1, by decide, by decide, fun _ _ h => h, rfl, rfl, _, tur_f0 _ _ _ _ _, ?_⟩
        rw [e]
        repeat' first | exact trivial | with_reducible rfl | exact Nat.le_refl _ | exact RowsEq.refl _ _ _ | refine And.intro ?_ ?_)
    · have hq : seatQ d s c 0 = true := hq
      have e : turnL d s o c 1 = turnL d s o c 0 ++ [⟨(c : Nat), (0 : Nat)⟩] := by simp only [turnL, hq, addS]
      refine den_need (by simp; omega) ⟨1, by decide, by decide, fun _ _ h => h, rfl, rfl, _, tur_y0 _ _ _ _ _, ?_⟩
      rw [e]
      repeat' first | exact trivial | with_reducible rfl | exact Nat.le_refl _ | exact RowsEq.refl _ _ _ | refine And.intro ?_ ?_
      · simp
      · simp
      · exact rows_snocS _ c 0
  · refine denOk_of (sea_1 d s _ c g) (turn_den rfl rfl rfl rfl (nd _) (nd _) (nd _) (nd _) (fun hq => ?_) (fun hq => ?_))
    · have hq : seatQ d s c 1 = false := hq
      have e : turnL d s o c 2 = turnL d s o c 1 := by simp only [turnL, hq, addS]
      refine ⟨?_, ?_, ?_, ?_⟩ <;> (
        refine ⟨2, by decide, by decide, fun _ _ h => h, rfl, rfl, _, tur_f1 _ _ _ _ _, ?_⟩
        rw [e]
        repeat' first | exact trivial | with_reducible rfl | exact Nat.le_refl _ | exact RowsEq.refl _ _ _ | refine And.intro ?_ ?_)
    · have hq : seatQ d s c 1 = true := hq
      have e : turnL d s o c 2 = turnL d s o c 1 ++ [⟨(c : Nat), (1 : Nat)⟩] := by simp only [turnL, hq, addS]
      refine den_need (by simp; omega) ⟨2, by decide, by decide, fun _ _ h => h, rfl, rfl, _, tur_y1 _ _ _ _ _, ?_⟩
      rw [e]
      repeat' first | exact trivial | with_reducible rfl | exact Nat.le_refl _ | exact RowsEq.refl _ _ _ | refine And.intro ?_ ?_
      · simp
      · simp
      · exact rows_snocS _ c 1
  · refine denOk_of (sea_2 d s _ c g) (turn_den rfl rfl rfl rfl (nd _) (nd _) (nd _) (nd _) (fun hq => ?_) (fun hq => ?_))
    · have hq : seatQ d s c 2 = false := hq
      have e : turnL d s o c 3 = turnL d s o c 2 := by simp only [turnL, hq, addS]
      refine ⟨?_, ?_, ?_, ?_⟩ <;> (
        refine ⟨3, by decide, by decide, fun _ _ h => h, rfl, rfl, _, tur_f2 _ _ _ _ _, ?_⟩
        rw [e]
        repeat' first | exact trivial | with_reducible rfl | exact Nat.le_refl _ | exact RowsEq.refl _ _ _ | refine And.intro ?_ ?_)
    · have hq : seatQ d s c 2 = true := hq
      have e : turnL d s o c 3 = turnL d s o c 2 ++ [⟨(c : Nat), (2 : Nat)⟩] := by simp only [turnL, hq, addS]
      refine den_need (by simp; omega) ⟨3, by decide, by decide, fun _ _ h => h, rfl, rfl, _, tur_y2 _ _ _ _ _, ?_⟩
      rw [e]
      repeat' first | exact trivial | with_reducible rfl | exact Nat.le_refl _ | exact RowsEq.refl _ _ _ | refine And.intro ?_ ?_
      · simp
      · simp
      · exact rows_snocS _ c 2
  · refine denOk_of (sea_3 d s _ c g) (turn_den rfl rfl rfl rfl (nd _) (nd _) (nd _) (nd _) (fun hq => ?_) (fun hq => ?_))
    · have hq : seatQ d s c 3 = false := hq
      have e : turnL d s o c 4 = turnL d s o c 3 := by simp only [turnL, hq, addS]
      refine ⟨?_, ?_, ?_, ?_⟩ <;> (
        refine ⟨4, by decide, by decide, fun _ _ h => h, rfl, rfl, _, tur_f3 _ _ _ _ _, ?_⟩
        rw [e]
        repeat' first | exact trivial | with_reducible rfl | exact Nat.le_refl _ | exact RowsEq.refl _ _ _ | refine And.intro ?_ ?_)
    · have hq : seatQ d s c 3 = true := hq
      have e : turnL d s o c 4 = turnL d s o c 3 ++ [⟨(c : Nat), (3 : Nat)⟩] := by simp only [turnL, hq, addS]
      refine den_need (by simp; omega) ⟨4, by decide, by decide, fun _ _ h => h, rfl, rfl, _, tur_y3 _ _ _ _ _, ?_⟩
      rw [e]
      repeat' first | exact trivial | with_reducible rfl | exact Nat.le_refl _ | exact RowsEq.refl _ _ _ | refine And.intro ?_ ?_
      · simp
      · simp
      · exact rows_snocS _ c 3
  · refine denOk_of (sea_4 d s _ c g) ?_
    refine ⟨_, ⟨rfl, rfl⟩, rfl, rfl, _, tur_e _ _ _ _ _, ?_⟩
    repeat' first | exact trivial | with_reducible rfl | exact Nat.le_refl _ | exact RowsEq.refl _ _ _ | refine And.intro ?_ ?_
end Go.Proofs.Ytbpffdkemeoajaa
/- scan.seats: its trees (layer 7). -/
namespace Go.Proofs.Ytbpffdkemeoajaa
open Go.SX
def seaLs : Ex → List Nat
  | .normal => [3, 4, 11, 12, 13]
  | .exit _ => [4]
  | .ret => []
def seaE (o : List Seat) : JSt := ⟨49, [(4, .slz 24 0 o.length (.of 0))], [newL 56 24 o ⟨0, 0⟩], 32⟩
set_option maxRecDepth 100000 in
theorem sea_r (d : Puz) (s : Piece) (o o' : List Seat) (c : Nat) (g : Nat → Value) : exec (mkE Try.prog tab_shp) { hnd (mkE Try.prog tab_shp) 1 with loop := fun _ => loopT 8 [] (turJ d s o c 0) [(True, .exit 2, turE d s o' c)] } (bodyK Try.f43 0) (JSt.inst (seaJ d s o c) g) (leafW [] seaLs) =
    Tree.br (decide ((↑c : Int) < (↑d.ps.n : Int))) (Tree.need (decide ((0 : Int) ≤ (↑c : Int) ∧ (↑c : Int) < (↑d.ps.n : Int)) && decide (d.ps.n ≤ d.ps.n)) (Tree.need (decide (c <
    d.ps.n)) (Tree.ask ((0 : Nat) = (0 : Nat)) (Tree.ask ((0 : Nat) = (0 : Nat)) (Tree.ask ((0 : Nat) = (0 : Nat)) (Tree.ask (o.length = o.length) (Tree.ask (Cap.of (0 : Nat) = Cap.of
    (0 : Nat)) (Tree.ask ((↑c : Int) = (↑c : Int)) (Tree.ask ((0 : Nat) = (0 : Nat)) (Tree.ask ((0 : Nat) = (0 : Nat)) (Tree.ask ((0 : Nat) = (0 : Nat)) (Tree.ask (d.ps.n = d.ps.n)
    (Tree.ask (Cap.of (0 : Nat) = Cap.of (0 : Nat)) (Tree.ask ((↑d.ps.n : Int) = (↑d.ps.n : Int)) (Tree.ask ((↑c : Int) = (↑c : Int)) (Tree.ask ((0 : Int) = (0 : Int)) (Tree.ask
    (s.up.kind = s.up.kind) (Tree.ask (s.up.at_.lo = s.up.at_.lo) (Tree.ask (s.up.at_.hi = s.up.at_.hi) (Tree.ask (s.up.wide.lo = s.up.wide.lo) (Tree.ask (s.up.wide.hi = s.up.wide.hi)
    (Tree.ask (s.up.deep.lo = s.up.deep.lo) (Tree.ask (s.up.deep.hi = s.up.deep.hi) (Tree.ask (s.right.kind = s.right.kind) (Tree.ask (s.right.at_.lo = s.right.at_.lo) (Tree.ask
    (s.right.at_.hi = s.right.at_.hi) (Tree.ask (s.right.wide.lo = s.right.wide.lo) (Tree.ask (s.right.wide.hi = s.right.wide.hi) (Tree.ask (s.right.deep.lo = s.right.deep.lo) (Tree.ask
    (s.right.deep.hi = s.right.deep.hi) (Tree.ask (s.down.kind = s.down.kind) (Tree.ask (s.down.at_.lo = s.down.at_.lo) (Tree.ask (s.down.at_.hi = s.down.at_.hi) (Tree.ask
    (s.down.wide.lo = s.down.wide.lo) (Tree.ask (s.down.wide.hi = s.down.wide.hi) (Tree.ask (s.down.deep.lo = s.down.deep.lo) (Tree.ask (s.down.deep.hi = s.down.deep.hi) (Tree.ask
    (s.left.kind = s.left.kind) (Tree.ask (s.left.at_.lo = s.left.at_.lo) (Tree.ask (s.left.at_.hi = s.left.at_.hi) (Tree.ask (s.left.wide.lo = s.left.wide.lo) (Tree.ask (s.left.wide.hi
    = s.left.wide.hi) (Tree.ask (s.left.deep.lo = s.left.deep.lo) (Tree.ask (s.left.deep.hi = s.left.deep.hi) (Tree.ask (o.length ≤ o.length) (Tree.ask (RowsEq (2 : Nat) o.length (fun i
    => RowT.enc (o.getD i (Seat.mk (0 : Int) (0 : Int)))) fun i => RowT.enc (o.getD i (Seat.mk (0 : Int) (0 : Int)))) (Tree.ask ((d.ps.get c).up.kind = (d.ps.get c).up.kind) (Tree.ask
    ((d.ps.get c).up.at_.lo = (d.ps.get c).up.at_.lo) (Tree.ask ((d.ps.get c).up.at_.hi = (d.ps.get c).up.at_.hi) (Tree.ask ((d.ps.get c).up.wide.lo = (d.ps.get c).up.wide.lo) (Tree.ask
    ((d.ps.get c).up.wide.hi = (d.ps.get c).up.wide.hi) (Tree.ask ((d.ps.get c).up.deep.lo = (d.ps.get c).up.deep.lo) (Tree.ask ((d.ps.get c).up.deep.hi = (d.ps.get c).up.deep.hi)
    (Tree.ask ((d.ps.get c).right.kind = (d.ps.get c).right.kind) (Tree.ask ((d.ps.get c).right.at_.lo = (d.ps.get c).right.at_.lo) (Tree.ask ((d.ps.get c).right.at_.hi = (d.ps.get
    c).right.at_.hi) (Tree.ask ((d.ps.get c).right.wide.lo = (d.ps.get c).right.wide.lo) (Tree.ask ((d.ps.get c).right.wide.hi = (d.ps.get c).right.wide.hi) (Tree.ask ((d.ps.get
    c).right.deep.lo = (d.ps.get c).right.deep.lo) (Tree.ask ((d.ps.get c).right.deep.hi = (d.ps.get c).right.deep.hi) (Tree.ask ((d.ps.get c).down.kind = (d.ps.get c).down.kind)
    (Tree.ask ((d.ps.get c).down.at_.lo = (d.ps.get c).down.at_.lo) (Tree.ask ((d.ps.get c).down.at_.hi = (d.ps.get c).down.at_.hi) (Tree.ask ((d.ps.get c).down.wide.lo = (d.ps.get
    c).down.wide.lo) (Tree.ask ((d.ps.get c).down.wide.hi = (d.ps.get c).down.wide.hi) (Tree.ask ((d.ps.get c).down.deep.lo = (d.ps.get c).down.deep.lo) (Tree.ask ((d.ps.get
    c).down.deep.hi = (d.ps.get c).down.deep.hi) (Tree.ask ((d.ps.get c).left.kind = (d.ps.get c).left.kind) (Tree.ask ((d.ps.get c).left.at_.lo = (d.ps.get c).left.at_.lo) (Tree.ask
    ((d.ps.get c).left.at_.hi = (d.ps.get c).left.at_.hi) (Tree.ask ((d.ps.get c).left.wide.lo = (d.ps.get c).left.wide.lo) (Tree.ask ((d.ps.get c).left.wide.hi = (d.ps.get
    c).left.wide.hi) (Tree.ask ((d.ps.get c).left.deep.lo = (d.ps.get c).left.deep.lo) (Tree.ask ((d.ps.get c).left.deep.hi = (d.ps.get c).left.deep.hi) (Tree.ask (d.ps.n ≤ d.ps.n)
    (Tree.ask (RowsEq (28 : Nat) d.ps.n (fun i => RowT.enc (d.ps.get i)) fun i => RowT.enc (d.ps.get i)) (Tree.asm (True) (Tree.all (fun (g0 : Nat → Value) => Tree.leaf (AV.tup
    [AV.nilp, AV.ptr (49 : Nat) (0 : Nat) (0 : Nat), AV.ptr (16 : Nat) (0 : Nat) (0 : Nat), AV.slz (24 : Nat) (0 : Nat) o'.length (Cap.of (0 : Nat)), AV.slz (0 : Nat) (0 : Nat) d.ps.n
    (Cap.of (0 : Nat)), AV.int false IntKind.i64 (↑d.ps.n : Int), AV.int false IntKind.i64 (IntKind.i64.wrap ((↑c : Int) + (1 : Int)))]) ([((16 : Nat), Blk.cells (7 : Nat) (33 : Nat)
    [AV.int false IntKind.i64 s.up.kind, AV.int false IntKind.i64 s.up.at_.lo, AV.int false IntKind.i64 s.up.at_.hi, AV.int false IntKind.i64 s.up.wide.lo, AV.int false IntKind.i64
    s.up.wide.hi, AV.int false IntKind.i64 s.up.deep.lo, AV.int false IntKind.i64 s.up.deep.hi, AV.int false IntKind.i64 s.right.kind, AV.int false IntKind.i64 s.right.at_.lo, AV.int
    false IntKind.i64 s.right.at_.hi, AV.int false IntKind.i64 s.right.wide.lo, AV.int false IntKind.i64 s.right.wide.hi, AV.int false IntKind.i64 s.right.deep.lo, AV.int false
    IntKind.i64 s.right.deep.hi, AV.int false IntKind.i64 s.down.kind, AV.int false IntKind.i64 s.down.at_.lo, AV.int false IntKind.i64 s.down.at_.hi, AV.int false IntKind.i64
    s.down.wide.lo, AV.int false IntKind.i64 s.down.wide.hi, AV.int false IntKind.i64 s.down.deep.lo, AV.int false IntKind.i64 s.down.deep.hi, AV.int false IntKind.i64 s.left.kind,
    AV.int false IntKind.i64 s.left.at_.lo, AV.int false IntKind.i64 s.left.at_.hi, AV.int false IntKind.i64 s.left.wide.lo, AV.int false IntKind.i64 s.left.wide.hi, AV.int false
    IntKind.i64 s.left.deep.lo, AV.int false IntKind.i64 s.left.deep.hi]), ((24 : Nat), Blk.rowz true (56 : Nat) [CK.int IntKind.i64, CK.int IntKind.i64] o'.length fun i => RowT.enc
    (o'.getD i (Seat.mk (0 : Int) (0 : Int)))), ((0 : Nat), Blk.frz [CK.int IntKind.i64, CK.int IntKind.i64, CK.int IntKind.i64, CK.int IntKind.i64, CK.int IntKind.i64, CK.int
    IntKind.i64, CK.int IntKind.i64, CK.int IntKind.i64, CK.int IntKind.i64, CK.int IntKind.i64, CK.int IntKind.i64, CK.int IntKind.i64, CK.int IntKind.i64, CK.int IntKind.i64, CK.int
    IntKind.i64, CK.int IntKind.i64, CK.int IntKind.i64, CK.int IntKind.i64, CK.int IntKind.i64, CK.int IntKind.i64, CK.int IntKind.i64, CK.int IntKind.i64, CK.int IntKind.i64, CK.int
    IntKind.i64, CK.int IntKind.i64, CK.int IntKind.i64, CK.int IntKind.i64, CK.int IntKind.i64] d.ps.n fun i => RowT.enc (d.ps.get
    i))])))))))))))))))))))))))))))))))))))))))))))))))))))))))))))))))))))))))))))))))) (Tree.leaf (AV.tup [AV.ptr (0 : Nat) (0 : Nat) (0 : Nat), AV.ptr (49 : Nat) (0 : Nat) (0 : Nat),
    AV.slz (24 : Nat) (0 : Nat) o.length (Cap.of (0 : Nat))]) ([((24 : Nat), Blk.rowz true (56 : Nat) [CK.int IntKind.i64, CK.int IntKind.i64] o.length fun i => RowT.enc (o.getD i
    (Seat.mk (0 : Int) (0 : Int))))])) := by kernel_rfl
set_option maxRecDepth 100000 in
theorem sea_go (d : Puz) (s : Piece) (o' o2 : List Seat) (c c1 : Nat) : subE 8 [AV.ptr (16 : Nat) (0 : Nat) (0 : Nat), AV.slz (24 : Nat) (0 : Nat) o'.length (Cap.of (0 : Nat)), AV.slz (0 : Nat) (0 : Nat) d.ps.n (Cap.of (0 : Nat)), AV.int false IntKind.i64 (↑d.ps.n : Int), AV.int false IntKind.i64 (IntKind.i64.wrap ((↑c : Int) + (1 : Int)))] ([((16 : Nat), Blk.cells (7 : Nat) (33 : Nat) [AV.int false IntKind.i64 s.up.kind, AV.int false IntKind.i64 s.up.at_.lo, AV.int false IntKind.i64 s.up.at_.hi, AV.int false IntKind.i64 s.up.wide.lo, AV.int false IntKind.i64 s.up.wide.hi, AV.int false IntKind.i64 s.up.deep.lo, AV.int false IntKind.i64 s.up.deep.hi, AV.int false IntKind.i64 s.right.kind, AV.int false IntKind.i64 s.right.at_.lo, AV.int false IntKind.i64 s.right.at_.hi, AV.int false IntKind.i64 s.right.wide.lo, AV.int false IntKind.i64 s.right.wide.hi, AV.int false IntKind.i64 s.right.deep.lo, AV.int false IntKind.i64 s.right.deep.hi, AV.int false IntKind.i64 s.down.kind, AV.int false IntKind.i64 s.down.at_.lo, AV.int false IntKind.i64 s.down.at_.hi, AV.int false IntKind.i64 s.down.wide.lo, AV.int false IntKind.i64 s.down.wide.hi, AV.int false IntKind.i64 s.down.deep.lo, AV.int false IntKind.i64 s.down.deep.hi, AV.int false IntKind.i64 s.left.kind, AV.int false IntKind.i64 s.left.at_.lo, AV.int false IntKind.i64 s.left.at_.hi, AV.int false IntKind.i64 s.left.wide.lo, AV.int false IntKind.i64 s.left.wide.hi, AV.int false IntKind.i64 s.left.deep.lo, AV.int false IntKind.i64 s.left.deep.hi]), ((24 : Nat), Blk.rowz true (56 : Nat) [CK.int IntKind.i64, CK.int IntKind.i64] o'.length fun i => RowT.enc (o'.getD i (Seat.mk (0 : Int) (0 : Int)))), ((0 : Nat), Blk.frz [CK.int IntKind.i64, CK.int IntKind.i64, CK.int IntKind.i64, CK.int IntKind.i64, CK.int IntKind.i64, CK.int IntKind.i64, CK.int IntKind.i64, CK.int IntKind.i64, CK.int IntKind.i64, CK.int IntKind.i64, CK.int IntKind.i64, CK.int IntKind.i64, CK.int IntKind.i64, CK.int IntKind.i64, CK.int IntKind.i64, CK.int IntKind.i64, CK.int IntKind.i64, CK.int IntKind.i64, CK.int IntKind.i64, CK.int IntKind.i64, CK.int IntKind.i64, CK.int IntKind.i64, CK.int IntKind.i64, CK.int IntKind.i64, CK.int IntKind.i64, CK.int IntKind.i64, CK.int IntKind.i64, CK.int IntKind.i64] d.ps.n fun i => RowT.enc (d.ps.get i))]) (seaJ d s o2 c1) = (
    some [(0 : Nat) = (0 : Nat), (0 : Nat) = (0 : Nat), (0 : Nat) = (0 : Nat), o'.length = o2.length, Cap.of (0 : Nat) = Cap.of (0 : Nat), (0 : Nat) = (0 : Nat), d.ps.n = d.ps.n, Cap.of
    (0 : Nat) = Cap.of (0 : Nat), (↑d.ps.n : Int) = (↑d.ps.n : Int), IntKind.i64.wrap ((↑c : Int) + (1 : Int)) = (↑c1 : Int), s.up.kind = s.up.kind, s.up.at_.lo = s.up.at_.lo,
    s.up.at_.hi = s.up.at_.hi, s.up.wide.lo = s.up.wide.lo, s.up.wide.hi = s.up.wide.hi, s.up.deep.lo = s.up.deep.lo, s.up.deep.hi = s.up.deep.hi, s.right.kind = s.right.kind,
    s.right.at_.lo = s.right.at_.lo, s.right.at_.hi = s.right.at_.hi, s.right.wide.lo = s.right.wide.lo, s.right.wide.hi = s.right.wide.hi, s.right.deep.lo = s.right.deep.lo,
    s.right.deep.hi = s.right.deep.hi, s.down.kind = s.down.kind, s.down.at_.lo = s.down.at_.lo, s.down.at_.hi = s.down.at_.hi, s.down.wide.lo = s.down.wide.lo, s.down.wide.hi =
    s.down.wide.hi, s.down.deep.lo = s.down.deep.lo, s.down.deep.hi = s.down.deep.hi, s.left.kind = s.left.kind, s.left.at_.lo = s.left.at_.lo, s.left.at_.hi = s.left.at_.hi,
    s.left.wide.lo = s.left.wide.lo, s.left.wide.hi = s.left.wide.hi, s.left.deep.lo = s.left.deep.lo, s.left.deep.hi = s.left.deep.hi, o2.length ≤ o'.length, RowsEq (2 : Nat) o2.length
    (fun i => RowT.enc (o'.getD i (Seat.mk (0 : Int) (0 : Int)))) fun i => RowT.enc (o2.getD i (Seat.mk (0 : Int) (0 : Int))), d.ps.n ≤ d.ps.n, RowsEq (28 : Nat) d.ps.n (fun i =>
    RowT.enc (d.ps.get i)) fun i => RowT.enc (d.ps.get i)]) := by kernel_rfl
set_option maxRecDepth 100000 in
theorem sea_end (o o2 : List Seat) : subE 8 [AV.slz (24 : Nat) (0 : Nat) o.length (Cap.of (0 : Nat))] ([((24 : Nat), Blk.rowz true (56 : Nat) [CK.int IntKind.i64, CK.int IntKind.i64] o.length fun i => RowT.enc (o.getD i (Seat.mk (0 : Int) (0 : Int))))]) (seaE o2) = (
    some [(0 : Nat) = (0 : Nat), o.length = o2.length, Cap.of (0 : Nat) = Cap.of (0 : Nat), o2.length ≤ o.length, RowsEq (2 : Nat) o2.length (fun i => RowT.enc (o.getD i (Seat.mk (0 :
    Int) (0 : Int)))) fun i => RowT.enc (o2.getD i (Seat.mk (0 : Int) (0 : Int)))]) := by kernel_rfl
set_option maxRecDepth 100000 in
theorem sea_res (o : List Seat) : subE 8 [.slz 24 0 o.length (.of 0)] [(24, .rowz true 56 [.int .i64, .int .i64] o.length fun i => RowT.enc (o.getD i ⟨0, 0⟩))] (resJ 8 (.slz 0 0 o.length (.of 0)) [newL 56 0 o ⟨0, 0⟩]) = (
    some [(0 : Nat) = (0 : Nat), o.length = o.length, Cap.of (0 : Nat) = Cap.of (0 : Nat), o.length ≤ o.length, RowsEq (2 : Nat) o.length (fun i => RowT.enc (o.getD i (Seat.mk (0 : Int)
    (0 : Int)))) fun i => RowT.enc (o.getD i (Seat.mk (0 : Int) (0 : Int)))]) := by kernel_rfl
end Go.Proofs.Ytbpffdkemeoajaa
/- scan.seats: its contract (layer 7). -/
namespace Go.Proofs.Ytbpffdkemeoajaa
open Go.SX
set_option maxRecDepth 100000 in
theorem sea_in (d : Puz) (s : Piece) (o : List Seat) (c : Nat) (ho : o.length ≤ 4000) (G : Ctx) (hrd : G.rd = none) (hG : G.n = 8) : HndOk (mkE Try.prog tab_shp) G { hnd (mkE Try.prog tab_shp) 1 with loop := fun _ => loopT 8 [] (turJ d s o c 0) [(True, .exit 2, turE d s (turnL d s o c 4) c)] } (bodyK Try.f43 0) := by
  refine one_loop (body := loopIn (bodyK Try.f43 0)) (mkE_ok tab_shp_ok) hrd (by kernel_rfl) ?_
  refine loopT_ok (n0 := 8) (mkE_ok tab_shp_ok) (by omega) (fun t ht => hnd_hndOk (mkE_ok tab_shp_ok) 6 G _ hrd) (fun t ht => (by decide : 8 ≤ 40)) ?_ (tur_round d s o c ho) (s0 := 0) (Nat.zero_le _) ?_
  · rintro t e J ⟨_, rfl⟩; exact (by decide : 8 ≤ 40)
  · rintro e J ⟨rfl, rfl⟩
    exact ⟨_, List.mem_cons_self, trivial, rfl, rfl⟩
set_option maxRecDepth 100000 in
theorem sea_round (d : Puz) (s : Piece) (hn : d.ps.n ≤ 900) : RoundW (fun c => seaJ d s (seatL d s c) c) (fun c => c ≤ d.ps.n) (fun c => d.ps.n - c) (fun _ e J => e = .exit 0 ∧ J = seaE (seatL d s d.ps.n)) 8 seaLs [] (mkE Try.prog tab_shp) (fun c => { hnd (mkE Try.prog tab_shp) 1 with loop := fun _ => loopT 8 [] (turJ d s (seatL d s c) c 0) [(True, .exit 2, turE d s (turnL d s (seatL d s c) c 4) c)] }) (bodyK Try.f43 0) := by
  refine ⟨fun c g hc => denOk_of (sea_r d s _ _ c g) ?_⟩
  refine den_br (fun h => ?_) (fun h => ?_)
  · have h : c < d.ps.n := by have := of_decide_eq_true h; omega
    have hw : IntKind.i64.wrap ((c : Int) + 1) = ((c + 1 : Nat) : Int) := (w64 (by omega) (by omega)).trans (by omega)
    refine den_need (by simp; omega) (den_need (by simp; omega) ?_)
    repeat' first | refine den_ask (show _ = _ by with_reducible rfl) ?_ | refine den_ask (show _ ≤ _ from Nat.le_refl _) ?_ | refine den_ask (show RowsEq _ _ _ _ from RowsEq.refl _ _ _) ?_
    refine den_asm fun _ => den_all fun g => ?_
    refine ⟨c + 1, h, by show d.ps.n - (c + 1) < d.ps.n - c; omega, fun _ _ h => h, rfl, rfl, _, sea_go d s _ (seatL d s (c + 1)) c (c + 1), ?_⟩
    repeat' first | exact trivial | with_reducible rfl | exact Nat.le_refl _ | exact RowsEq.refl _ _ _ | exact hw | refine And.intro ?_ ?_
    rfl
  · have : c = d.ps.n := by have := of_decide_eq_false h; omega
    subst this
    refine ⟨_, ⟨rfl, rfl⟩, rfl, rfl, _, sea_end _ _, ?_⟩
    repeat' first | exact trivial | with_reducible rfl | exact Nat.le_refl _ | exact RowsEq.refl _ _ _ | refine And.intro ?_ ?_
set_option maxRecDepth 100000 in
theorem sea_hnd (d : Puz) (s : Piece) (hn : d.ps.n ≤ 900) (G : Ctx) (hrd : G.rd = none) (hG : G.n = 8) : HndOk (mkE Try.prog tab_shp) G { hnd (mkE Try.prog tab_shp) 1 with loop := fun _ => loopT 8 [] (seaJ d s [] (0 : Nat)) [(True, .exit 0, seaE (seatL d s d.ps.n))] } (bodyOf Try.f43) := by
  refine one_loop (body := bodyK Try.f43 0) (mkE_ok tab_shp_ok) hrd (by kernel_rfl) ?_
  refine loopT_ok (n0 := 8) (mkE_ok tab_shp_ok) (by omega) (fun c hc => sea_in d s (seatL d s c) c (by have := seatL_len d s c; have : c ≤ d.ps.n := hc; omega) G hrd hG) (fun c hc => (by decide : 8 ≤ 32)) ?_ (sea_round d s hn) (s0 := 0) (Nat.zero_le _) ?_
  · rintro t e J ⟨_, rfl⟩; exact (by decide : 8 ≤ 32)
  · rintro e J ⟨rfl, rfl⟩
    exact ⟨_, List.mem_cons_self, trivial, rfl, rfl⟩
def seatsF : WF (Puz × Piece × Unit) := fun | (d, (s, _)) => (decide (d.ps.n ≤ 900), .slz 0 0 (seatL d s d.ps.n).length (.of 0), [newL 56 0 (seatL d s d.ps.n) ⟨0, 0⟩])
def seatsC : FC := wFC seatsF
set_option maxRecDepth 100000 in
theorem seats_t (d : Puz) (s : Piece) : execW (mkE Try.prog tab_shp) { hnd (mkE Try.prog tab_shp) 1 with loop := fun _ => loopT 8 [] (seaJ d s [] (0 : Nat)) [(True, .exit 0, seaE (seatL d s d.ps.n))] } Try.f43 (ArgsE.vals 0 ((d, s, ()) : Puz × Piece × Unit)) (ArgsE.blks 0 ((d, s, ()) : Puz × Piece × Unit)) 8 =
    Tree.ask ((0 : Nat) = (0 : Nat)) (Tree.ask ((0 : Nat) = (0 : Nat)) (Tree.ask ((0 : Nat) = (0 : Nat)) (Tree.ask ((0 : Nat) = (0 : Nat)) (Tree.ask (d.ps.n = d.ps.n) (Tree.ask (Cap.of
    (0 : Nat) = Cap.of (0 : Nat)) (Tree.ask ((↑d.ps.n : Int) = (↑d.ps.n : Int)) (Tree.ask ((0 : Int) = (0 : Int)) (Tree.ask (s.up.kind = s.up.kind) (Tree.ask (s.up.at_.lo = s.up.at_.lo)
    (Tree.ask (s.up.at_.hi = s.up.at_.hi) (Tree.ask (s.up.wide.lo = s.up.wide.lo) (Tree.ask (s.up.wide.hi = s.up.wide.hi) (Tree.ask (s.up.deep.lo = s.up.deep.lo) (Tree.ask (s.up.deep.hi
    = s.up.deep.hi) (Tree.ask (s.right.kind = s.right.kind) (Tree.ask (s.right.at_.lo = s.right.at_.lo) (Tree.ask (s.right.at_.hi = s.right.at_.hi) (Tree.ask (s.right.wide.lo =
    s.right.wide.lo) (Tree.ask (s.right.wide.hi = s.right.wide.hi) (Tree.ask (s.right.deep.lo = s.right.deep.lo) (Tree.ask (s.right.deep.hi = s.right.deep.hi) (Tree.ask (s.down.kind =
    s.down.kind) (Tree.ask (s.down.at_.lo = s.down.at_.lo) (Tree.ask (s.down.at_.hi = s.down.at_.hi) (Tree.ask (s.down.wide.lo = s.down.wide.lo) (Tree.ask (s.down.wide.hi =
    s.down.wide.hi) (Tree.ask (s.down.deep.lo = s.down.deep.lo) (Tree.ask (s.down.deep.hi = s.down.deep.hi) (Tree.ask (s.left.kind = s.left.kind) (Tree.ask (s.left.at_.lo =
    s.left.at_.lo) (Tree.ask (s.left.at_.hi = s.left.at_.hi) (Tree.ask (s.left.wide.lo = s.left.wide.lo) (Tree.ask (s.left.wide.hi = s.left.wide.hi) (Tree.ask (s.left.deep.lo =
    s.left.deep.lo) (Tree.ask (s.left.deep.hi = s.left.deep.hi) (Tree.ask ((0 : Nat) = (0 : Nat)) (Tree.ask (d.ps.n ≤ d.ps.n) (Tree.ask (RowsEq (28 : Nat) d.ps.n (fun i => RowT.enc
    (d.ps.get i)) fun i => RowT.enc (d.ps.get i)) (Tree.asm (True) (Tree.all (fun (g0 : Nat → Value) => Tree.leaf (AV.slz (24 : Nat) (0 : Nat) (seatL d s d.ps.n).length (Cap.of (0 :
    Nat))) ([((24 : Nat), Blk.rowz true (56 : Nat) [CK.int IntKind.i64, CK.int IntKind.i64] (seatL d s d.ps.n).length fun i => RowT.enc ((seatL d s d.ps.n).getD i (Seat.mk (0 : Int) (0
    : Int))))])))))))))))))))))))))))))))))))))))))))))) := by kernel_rfl
theorem seats_hs : WHnd (mkE Try.prog tab_shp) (bodyOf Try.f43) 8 seatsF (fun x_ => { hnd (mkE Try.prog tab_shp) 1 with loop := fun _ => loopT 8 [] (seaJ x_.1 x_.2.1 [] (0 : Nat)) [(True, .exit 0, seaE (seatL x_.1 x_.2.1 x_.1.ps.n))] }) := by
  refine ⟨?_⟩
  rintro ⟨d, ⟨s, ⟨⟩⟩⟩ hp G h1 h2
  exact sea_hnd d s (of_decide_eq_true hp) G h1 h2
theorem seats_run : WRun (mkE Try.prog tab_shp) Try.f43 8 seatsF (fun x_ => { hnd (mkE Try.prog tab_shp) 1 with loop := fun _ => loopT 8 [] (seaJ x_.1 x_.2.1 [] (0 : Nat)) [(True, .exit 0, seaE (seatL x_.1 x_.2.1 x_.1.ps.n))] }) := by
  refine ⟨?_⟩
  rintro ⟨d, ⟨s, ⟨⟩⟩⟩ hp
  refine ⟨⟨rfl, by simp [seatsF, newL, Blk.own, Blk.all], rfl⟩, ⟨?_⟩⟩
  rw [seats_t d s]
  simp only [seatsF] at hp
  repeat' first | refine den_ask (show _ = _ by with_reducible rfl) ?_ | refine den_ask (show _ ≤ _ from Nat.le_refl _) ?_ | refine den_ask (show RowsEq _ _ _ _ from RowsEq.refl _ _ _) ?_
  refine den_asm fun _ => den_all fun g => ⟨rfl, rfl, _, sea_res _, ?_⟩
  repeat' first | exact trivial | with_reducible rfl | exact Nat.le_refl _ | exact RowsEq.refl _ _ _ | refine And.intro ?_ ?_
theorem seats_s : FSound Try.prog 43 seatsC :=
  fn_W (mkE_ok tab_shp_ok) Try.func43 (by kernel_rfl) (by kernel_rfl) (by decide) seats_hs seats_run
def tab_seats : Tab := addF tab_shp 43 seatsC
theorem tab_seats_ok : TabOk tab_seats := tab_shp_ok.add seats_s
end Go.Proofs.Ytbpffdkemeoajaa
/- scan.Seats: its contract (layer 7). -/
namespace Go.Proofs.Ytbpffdkemeoajaa
open Go.SX
/-- Is the drawing one, and the scan? -/
def stsO (d : Puz) (s : Piece) : Bool := d.ok && okPs d.play ⟨1, fun _ => s⟩
def stsL (d : Puz) (s : Piece) : List Seat := match stsO d s with
  | true => seatL d s d.ps.n
  | false => []
def stsE (d : Puz) (s : Piece) : Int := match stsO d s with
  | true => 0
  | false => 1
set_option maxRecDepth 100000 in
theorem sts_no (e f : Int) (o : List Seat) : subE 8 [.tup [.nils, .int true .i64 e]] [] (resJ 8 (.tup [.slz 0 0 o.length (.of 0), .int false .i64 f]) [newL 56 0 o ⟨0, 0⟩]) = (
    some [o.length = (0 : Nat), e = f, o.length = (0 : Nat)]) := by kernel_rfl
set_option maxRecDepth 100000 in
theorem sts_yes (n : Nat) (g : Nat → Nat → Int) (e f : Int) (o : List Seat) : subE 8 [.tup [.slz 144 0 n (.of 0), .int true .i64 e]] [(144, .rowz true 56 [.int .i64, .int .i64] n g)] (resJ 8 (.tup [.slz 0 0 o.length (.of 0), .int false .i64 f]) [newL 56 0 o ⟨0, 0⟩]) = (
    some [(0 : Nat) = (0 : Nat), n = o.length, Cap.of (0 : Nat) = Cap.of (0 : Nat), e = f, o.length ≤ n, RowsEq (2 : Nat) o.length g fun i => RowT.enc (o.getD i (Seat.mk (0 : Int) (0 :
    Int)))]) := by kernel_rfl
def stsF : WF (Puz × Piece × Unit) := fun | (d, (s, _)) => (decide (d.ps.n ≤ 900), .tup [.slz 0 0 (stsL d s).length (.of 0), .int false .i64 (stsE d s)], [newL 56 0 (stsL d s) ⟨0, 0⟩])
def stsC : FC := wFC stsF
set_option maxRecDepth 100000 in
theorem sts_t (d : Puz) (s : Piece) : execW (mkE Try.prog tab_seats) (hnd (mkE Try.prog tab_seats) 0) Try.f15 (ArgsE.vals 0 ((d, s, ()) : Puz × Piece × Unit)) (ArgsE.blks 0 ((d, s, ()) : Puz × Piece × Unit)) 8 =
    Tree.need (decide (d.ps.n ≤ d.ps.n) && true && decide (d.ps.n ≤ (1000 : Nat))) (Tree.br (!d.ok) (Tree.leaf (AV.tup [AV.nils, AV.int true IntKind.i64 (1 : Int)]) ([])) (Tree.need
    (true && (true && true) && decide ((1 : Nat) ≤ (1000 : Nat))) (Tree.br (!okPs d.play (Rw.mk (1 : Nat) fun i => Piece.mk (Edge.mk (rowI [[AV.int false IntKind.i64 s.up.kind, AV.int
    false IntKind.i64 s.up.at_.lo, AV.int false IntKind.i64 s.up.at_.hi, AV.int false IntKind.i64 s.up.wide.lo, AV.int false IntKind.i64 s.up.wide.hi, AV.int false IntKind.i64
    s.up.deep.lo, AV.int false IntKind.i64 s.up.deep.hi, AV.int false IntKind.i64 s.right.kind, AV.int false IntKind.i64 s.right.at_.lo, AV.int false IntKind.i64 s.right.at_.hi, AV.int
    false IntKind.i64 s.right.wide.lo, AV.int false IntKind.i64 s.right.wide.hi, AV.int false IntKind.i64 s.right.deep.lo, AV.int false IntKind.i64 s.right.deep.hi, AV.int false
    IntKind.i64 s.down.kind, AV.int false IntKind.i64 s.down.at_.lo, AV.int false IntKind.i64 s.down.at_.hi, AV.int false IntKind.i64 s.down.wide.lo, AV.int false IntKind.i64
    s.down.wide.hi, AV.int false IntKind.i64 s.down.deep.lo, AV.int false IntKind.i64 s.down.deep.hi, AV.int false IntKind.i64 s.left.kind, AV.int false IntKind.i64 s.left.at_.lo,
    AV.int false IntKind.i64 s.left.at_.hi, AV.int false IntKind.i64 s.left.wide.lo, AV.int false IntKind.i64 s.left.wide.hi, AV.int false IntKind.i64 s.left.deep.lo, AV.int false
    IntKind.i64 s.left.deep.hi]] (0 : Nat) i (0 : Nat)) (Sp.mk (rowI [[AV.int false IntKind.i64 s.up.kind, AV.int false IntKind.i64 s.up.at_.lo, AV.int false IntKind.i64 s.up.at_.hi,
    AV.int false IntKind.i64 s.up.wide.lo, AV.int false IntKind.i64 s.up.wide.hi, AV.int false IntKind.i64 s.up.deep.lo, AV.int false IntKind.i64 s.up.deep.hi, AV.int false IntKind.i64
    s.right.kind, AV.int false IntKind.i64 s.right.at_.lo, AV.int false IntKind.i64 s.right.at_.hi, AV.int false IntKind.i64 s.right.wide.lo, AV.int false IntKind.i64 s.right.wide.hi,
    AV.int false IntKind.i64 s.right.deep.lo, AV.int false IntKind.i64 s.right.deep.hi, AV.int false IntKind.i64 s.down.kind, AV.int false IntKind.i64 s.down.at_.lo, AV.int false
    IntKind.i64 s.down.at_.hi, AV.int false IntKind.i64 s.down.wide.lo, AV.int false IntKind.i64 s.down.wide.hi, AV.int false IntKind.i64 s.down.deep.lo, AV.int false IntKind.i64
    s.down.deep.hi, AV.int false IntKind.i64 s.left.kind, AV.int false IntKind.i64 s.left.at_.lo, AV.int false IntKind.i64 s.left.at_.hi, AV.int false IntKind.i64 s.left.wide.lo, AV.int
    false IntKind.i64 s.left.wide.hi, AV.int false IntKind.i64 s.left.deep.lo, AV.int false IntKind.i64 s.left.deep.hi]] (0 : Nat) i (1 : Nat)) (rowI [[AV.int false IntKind.i64
    s.up.kind, AV.int false IntKind.i64 s.up.at_.lo, AV.int false IntKind.i64 s.up.at_.hi, AV.int false IntKind.i64 s.up.wide.lo, AV.int false IntKind.i64 s.up.wide.hi, AV.int false
    IntKind.i64 s.up.deep.lo, AV.int false IntKind.i64 s.up.deep.hi, AV.int false IntKind.i64 s.right.kind, AV.int false IntKind.i64 s.right.at_.lo, AV.int false IntKind.i64
    s.right.at_.hi, AV.int false IntKind.i64 s.right.wide.lo, AV.int false IntKind.i64 s.right.wide.hi, AV.int false IntKind.i64 s.right.deep.lo, AV.int false IntKind.i64
    s.right.deep.hi, AV.int false IntKind.i64 s.down.kind, AV.int false IntKind.i64 s.down.at_.lo, AV.int false IntKind.i64 s.down.at_.hi, AV.int false IntKind.i64 s.down.wide.lo,
    AV.int false IntKind.i64 s.down.wide.hi, AV.int false IntKind.i64 s.down.deep.lo, AV.int false IntKind.i64 s.down.deep.hi, AV.int false IntKind.i64 s.left.kind, AV.int false
    IntKind.i64 s.left.at_.lo, AV.int false IntKind.i64 s.left.at_.hi, AV.int false IntKind.i64 s.left.wide.lo, AV.int false IntKind.i64 s.left.wide.hi, AV.int false IntKind.i64
    s.left.deep.lo, AV.int false IntKind.i64 s.left.deep.hi]] (0 : Nat) i (2 : Nat))) (Sp.mk (rowI [[AV.int false IntKind.i64 s.up.kind, AV.int false IntKind.i64 s.up.at_.lo, AV.int
    false IntKind.i64 s.up.at_.hi, AV.int false IntKind.i64 s.up.wide.lo, AV.int false IntKind.i64 s.up.wide.hi, AV.int false IntKind.i64 s.up.deep.lo, AV.int false IntKind.i64
    s.up.deep.hi, AV.int false IntKind.i64 s.right.kind, AV.int false IntKind.i64 s.right.at_.lo, AV.int false IntKind.i64 s.right.at_.hi, AV.int false IntKind.i64 s.right.wide.lo,
    AV.int false IntKind.i64 s.right.wide.hi, AV.int false IntKind.i64 s.right.deep.lo, AV.int false IntKind.i64 s.right.deep.hi, AV.int false IntKind.i64 s.down.kind, AV.int false
    IntKind.i64 s.down.at_.lo, AV.int false IntKind.i64 s.down.at_.hi, AV.int false IntKind.i64 s.down.wide.lo, AV.int false IntKind.i64 s.down.wide.hi, AV.int false IntKind.i64
    s.down.deep.lo, AV.int false IntKind.i64 s.down.deep.hi, AV.int false IntKind.i64 s.left.kind, AV.int false IntKind.i64 s.left.at_.lo, AV.int false IntKind.i64 s.left.at_.hi, AV.int
    false IntKind.i64 s.left.wide.lo, AV.int false IntKind.i64 s.left.wide.hi, AV.int false IntKind.i64 s.left.deep.lo, AV.int false IntKind.i64 s.left.deep.hi]] (0 : Nat) i (3 : Nat))
    (rowI [[AV.int false IntKind.i64 s.up.kind, AV.int false IntKind.i64 s.up.at_.lo, AV.int false IntKind.i64 s.up.at_.hi, AV.int false IntKind.i64 s.up.wide.lo, AV.int false
    IntKind.i64 s.up.wide.hi, AV.int false IntKind.i64 s.up.deep.lo, AV.int false IntKind.i64 s.up.deep.hi, AV.int false IntKind.i64 s.right.kind, AV.int false IntKind.i64
    s.right.at_.lo, AV.int false IntKind.i64 s.right.at_.hi, AV.int false IntKind.i64 s.right.wide.lo, AV.int false IntKind.i64 s.right.wide.hi, AV.int false IntKind.i64
    s.right.deep.lo, AV.int false IntKind.i64 s.right.deep.hi, AV.int false IntKind.i64 s.down.kind, AV.int false IntKind.i64 s.down.at_.lo, AV.int false IntKind.i64 s.down.at_.hi,
    AV.int false IntKind.i64 s.down.wide.lo, AV.int false IntKind.i64 s.down.wide.hi, AV.int false IntKind.i64 s.down.deep.lo, AV.int false IntKind.i64 s.down.deep.hi, AV.int false
    IntKind.i64 s.left.kind, AV.int false IntKind.i64 s.left.at_.lo, AV.int false IntKind.i64 s.left.at_.hi, AV.int false IntKind.i64 s.left.wide.lo, AV.int false IntKind.i64
    s.left.wide.hi, AV.int false IntKind.i64 s.left.deep.lo, AV.int false IntKind.i64 s.left.deep.hi]] (0 : Nat) i (4 : Nat))) (Sp.mk (rowI [[AV.int false IntKind.i64 s.up.kind, AV.int
    false IntKind.i64 s.up.at_.lo, AV.int false IntKind.i64 s.up.at_.hi, AV.int false IntKind.i64 s.up.wide.lo, AV.int false IntKind.i64 s.up.wide.hi, AV.int false IntKind.i64
    s.up.deep.lo, AV.int false IntKind.i64 s.up.deep.hi, AV.int false IntKind.i64 s.right.kind, AV.int false IntKind.i64 s.right.at_.lo, AV.int false IntKind.i64 s.right.at_.hi, AV.int
    false IntKind.i64 s.right.wide.lo, AV.int false IntKind.i64 s.right.wide.hi, AV.int false IntKind.i64 s.right.deep.lo, AV.int false IntKind.i64 s.right.deep.hi, AV.int false
    IntKind.i64 s.down.kind, AV.int false IntKind.i64 s.down.at_.lo, AV.int false IntKind.i64 s.down.at_.hi, AV.int false IntKind.i64 s.down.wide.lo, AV.int false IntKind.i64
    s.down.wide.hi, AV.int false IntKind.i64 s.down.deep.lo, AV.int false IntKind.i64 s.down.deep.hi, AV.int false IntKind.i64 s.left.kind, AV.int false IntKind.i64 s.left.at_.lo,
    AV.int false IntKind.i64 s.left.at_.hi, AV.int false IntKind.i64 s.left.wide.lo, AV.int false IntKind.i64 s.left.wide.hi, AV.int false IntKind.i64 s.left.deep.lo, AV.int false
    IntKind.i64 s.left.deep.hi]] (0 : Nat) i (5 : Nat)) (rowI [[AV.int false IntKind.i64 s.up.kind, AV.int false IntKind.i64 s.up.at_.lo, AV.int false IntKind.i64 s.up.at_.hi, AV.int
    false IntKind.i64 s.up.wide.lo, AV.int false IntKind.i64 s.up.wide.hi, AV.int false IntKind.i64 s.up.deep.lo, AV.int false IntKind.i64 s.up.deep.hi, AV.int false IntKind.i64
    s.right.kind, AV.int false IntKind.i64 s.right.at_.lo, AV.int false IntKind.i64 s.right.at_.hi, AV.int false IntKind.i64 s.right.wide.lo, AV.int false IntKind.i64 s.right.wide.hi,
    AV.int false IntKind.i64 s.right.deep.lo, AV.int false IntKind.i64 s.right.deep.hi, AV.int false IntKind.i64 s.down.kind, AV.int false IntKind.i64 s.down.at_.lo, AV.int false
    IntKind.i64 s.down.at_.hi, AV.int false IntKind.i64 s.down.wide.lo, AV.int false IntKind.i64 s.down.wide.hi, AV.int false IntKind.i64 s.down.deep.lo, AV.int false IntKind.i64
    s.down.deep.hi, AV.int false IntKind.i64 s.left.kind, AV.int false IntKind.i64 s.left.at_.lo, AV.int false IntKind.i64 s.left.at_.hi, AV.int false IntKind.i64 s.left.wide.lo, AV.int
    false IntKind.i64 s.left.wide.hi, AV.int false IntKind.i64 s.left.deep.lo, AV.int false IntKind.i64 s.left.deep.hi]] (0 : Nat) i (6 : Nat)))) (Edge.mk (rowI [[AV.int false
    IntKind.i64 s.up.kind, AV.int false IntKind.i64 s.up.at_.lo, AV.int false IntKind.i64 s.up.at_.hi, AV.int false IntKind.i64 s.up.wide.lo, AV.int false IntKind.i64 s.up.wide.hi,
    AV.int false IntKind.i64 s.up.deep.lo, AV.int false IntKind.i64 s.up.deep.hi, AV.int false IntKind.i64 s.right.kind, AV.int false IntKind.i64 s.right.at_.lo, AV.int false
    IntKind.i64 s.right.at_.hi, AV.int false IntKind.i64 s.right.wide.lo, AV.int false IntKind.i64 s.right.wide.hi, AV.int false IntKind.i64 s.right.deep.lo, AV.int false IntKind.i64
    s.right.deep.hi, AV.int false IntKind.i64 s.down.kind, AV.int false IntKind.i64 s.down.at_.lo, AV.int false IntKind.i64 s.down.at_.hi, AV.int false IntKind.i64 s.down.wide.lo,
    AV.int false IntKind.i64 s.down.wide.hi, AV.int false IntKind.i64 s.down.deep.lo, AV.int false IntKind.i64 s.down.deep.hi, AV.int false IntKind.i64 s.left.kind, AV.int false
    IntKind.i64 s.left.at_.lo, AV.int false IntKind.i64 s.left.at_.hi, AV.int false IntKind.i64 s.left.wide.lo, AV.int false IntKind.i64 s.left.wide.hi, AV.int false IntKind.i64
    s.left.deep.lo, AV.int false IntKind.i64 s.left.deep.hi]] (0 : Nat) i (7 : Nat)) (Sp.mk (rowI [[AV.int false IntKind.i64 s.up.kind, AV.int false IntKind.i64 s.up.at_.lo, AV.int
    false IntKind.i64 s.up.at_.hi, AV.int false IntKind.i64 s.up.wide.lo, AV.int false IntKind.i64 s.up.wide.hi, AV.int false IntKind.i64 s.up.deep.lo, AV.int false IntKind.i64
    s.up.deep.hi, AV.int false IntKind.i64 s.right.kind, AV.int false IntKind.i64 s.right.at_.lo, AV.int false IntKind.i64 s.right.at_.hi, AV.int false IntKind.i64 s.right.wide.lo,
    AV.int false IntKind.i64 s.right.wide.hi, AV.int false IntKind.i64 s.right.deep.lo, AV.int false IntKind.i64 s.right.deep.hi, AV.int false IntKind.i64 s.down.kind, AV.int false
    IntKind.i64 s.down.at_.lo, AV.int false IntKind.i64 s.down.at_.hi, AV.int false IntKind.i64 s.down.wide.lo, AV.int false IntKind.i64 s.down.wide.hi, AV.int false IntKind.i64
    s.down.deep.lo, AV.int false IntKind.i64 s.down.deep.hi, AV.int false IntKind.i64 s.left.kind, AV.int false IntKind.i64 s.left.at_.lo, AV.int false IntKind.i64 s.left.at_.hi, AV.int
    false IntKind.i64 s.left.wide.lo, AV.int false IntKind.i64 s.left.wide.hi, AV.int false IntKind.i64 s.left.deep.lo, AV.int false IntKind.i64 s.left.deep.hi]] (0 : Nat) i (8 : Nat))
    (rowI [[AV.int false IntKind.i64 s.up.kind, AV.int false IntKind.i64 s.up.at_.lo, AV.int false IntKind.i64 s.up.at_.hi, AV.int false IntKind.i64 s.up.wide.lo, AV.int false
    IntKind.i64 s.up.wide.hi, AV.int false IntKind.i64 s.up.deep.lo, AV.int false IntKind.i64 s.up.deep.hi, AV.int false IntKind.i64 s.right.kind, AV.int false IntKind.i64
    s.right.at_.lo, AV.int false IntKind.i64 s.right.at_.hi, AV.int false IntKind.i64 s.right.wide.lo, AV.int false IntKind.i64 s.right.wide.hi, AV.int false IntKind.i64
    s.right.deep.lo, AV.int false IntKind.i64 s.right.deep.hi, AV.int false IntKind.i64 s.down.kind, AV.int false IntKind.i64 s.down.at_.lo, AV.int false IntKind.i64 s.down.at_.hi,
    AV.int false IntKind.i64 s.down.wide.lo, AV.int false IntKind.i64 s.down.wide.hi, AV.int false IntKind.i64 s.down.deep.lo, AV.int false IntKind.i64 s.down.deep.hi, AV.int false
    IntKind.i64 s.left.kind, AV.int false IntKind.i64 s.left.at_.lo, AV.int false IntKind.i64 s.left.at_.hi, AV.int false IntKind.i64 s.left.wide.lo, AV.int false IntKind.i64
    s.left.wide.hi, AV.int false IntKind.i64 s.left.deep.lo, AV.int false IntKind.i64 s.left.deep.hi]] (0 : Nat) i (9 : Nat))) (Sp.mk (rowI [[AV.int false IntKind.i64 s.up.kind, AV.int
    false IntKind.i64 s.up.at_.lo, AV.int false IntKind.i64 s.up.at_.hi, AV.int false IntKind.i64 s.up.wide.lo, AV.int false IntKind.i64 s.up.wide.hi, AV.int false IntKind.i64
    s.up.deep.lo, AV.int false IntKind.i64 s.up.deep.hi, AV.int false IntKind.i64 s.right.kind, AV.int false IntKind.i64 s.right.at_.lo, AV.int false IntKind.i64 s.right.at_.hi, AV.int
    false IntKind.i64 s.right.wide.lo, AV.int false IntKind.i64 s.right.wide.hi, AV.int false IntKind.i64 s.right.deep.lo, AV.int false IntKind.i64 s.right.deep.hi, AV.int false
    IntKind.i64 s.down.kind, AV.int false IntKind.i64 s.down.at_.lo, AV.int false IntKind.i64 s.down.at_.hi, AV.int false IntKind.i64 s.down.wide.lo, AV.int false IntKind.i64
    s.down.wide.hi, AV.int false IntKind.i64 s.down.deep.lo, AV.int false IntKind.i64 s.down.deep.hi, AV.int false IntKind.i64 s.left.kind, AV.int false IntKind.i64 s.left.at_.lo,
    AV.int false IntKind.i64 s.left.at_.hi, AV.int false IntKind.i64 s.left.wide.lo, AV.int false IntKind.i64 s.left.wide.hi, AV.int false IntKind.i64 s.left.deep.lo, AV.int false
    IntKind.i64 s.left.deep.hi]] (0 : Nat) i (10 : Nat)) (rowI [[AV.int false IntKind.i64 s.up.kind, AV.int false IntKind.i64 s.up.at_.lo, AV.int false IntKind.i64 s.up.at_.hi, AV.int
    false IntKind.i64 s.up.wide.lo, AV.int false IntKind.i64 s.up.wide.hi, AV.int false IntKind.i64 s.up.deep.lo, AV.int false IntKind.i64 s.up.deep.hi, AV.int false IntKind.i64
    s.right.kind, AV.int false IntKind.i64 s.right.at_.lo, AV.int false IntKind.i64 s.right.at_.hi, AV.int false IntKind.i64 s.right.wide.lo, AV.int false IntKind.i64 s.right.wide.hi,
    AV.int false IntKind.i64 s.right.deep.lo, AV.int false IntKind.i64 s.right.deep.hi, AV.int false IntKind.i64 s.down.kind, AV.int false IntKind.i64 s.down.at_.lo, AV.int false
    IntKind.i64 s.down.at_.hi, AV.int false IntKind.i64 s.down.wide.lo, AV.int false IntKind.i64 s.down.wide.hi, AV.int false IntKind.i64 s.down.deep.lo, AV.int false IntKind.i64
    s.down.deep.hi, AV.int false IntKind.i64 s.left.kind, AV.int false IntKind.i64 s.left.at_.lo, AV.int false IntKind.i64 s.left.at_.hi, AV.int false IntKind.i64 s.left.wide.lo, AV.int
    false IntKind.i64 s.left.wide.hi, AV.int false IntKind.i64 s.left.deep.lo, AV.int false IntKind.i64 s.left.deep.hi]] (0 : Nat) i (11 : Nat))) (Sp.mk (rowI [[AV.int false IntKind.i64
    s.up.kind, AV.int false IntKind.i64 s.up.at_.lo, AV.int false IntKind.i64 s.up.at_.hi, AV.int false IntKind.i64 s.up.wide.lo, AV.int false IntKind.i64 s.up.wide.hi, AV.int false
    IntKind.i64 s.up.deep.lo, AV.int false IntKind.i64 s.up.deep.hi, AV.int false IntKind.i64 s.right.kind, AV.int false IntKind.i64 s.right.at_.lo, AV.int false IntKind.i64
    s.right.at_.hi, AV.int false IntKind.i64 s.right.wide.lo, AV.int false IntKind.i64 s.right.wide.hi, AV.int false IntKind.i64 s.right.deep.lo, AV.int false IntKind.i64
    s.right.deep.hi, AV.int false IntKind.i64 s.down.kind, AV.int false IntKind.i64 s.down.at_.lo, AV.int false IntKind.i64 s.down.at_.hi, AV.int false IntKind.i64 s.down.wide.lo,
    AV.int false IntKind.i64 s.down.wide.hi, AV.int false IntKind.i64 s.down.deep.lo, AV.int false IntKind.i64 s.down.deep.hi, AV.int false IntKind.i64 s.left.kind, AV.int false
    IntKind.i64 s.left.at_.lo, AV.int false IntKind.i64 s.left.at_.hi, AV.int false IntKind.i64 s.left.wide.lo, AV.int false IntKind.i64 s.left.wide.hi, AV.int false IntKind.i64
    s.left.deep.lo, AV.int false IntKind.i64 s.left.deep.hi]] (0 : Nat) i (12 : Nat)) (rowI [[AV.int false IntKind.i64 s.up.kind, AV.int false IntKind.i64 s.up.at_.lo, AV.int false
    IntKind.i64 s.up.at_.hi, AV.int false IntKind.i64 s.up.wide.lo, AV.int false IntKind.i64 s.up.wide.hi, AV.int false IntKind.i64 s.up.deep.lo, AV.int false IntKind.i64 s.up.deep.hi,
    AV.int false IntKind.i64 s.right.kind, AV.int false IntKind.i64 s.right.at_.lo, AV.int false IntKind.i64 s.right.at_.hi, AV.int false IntKind.i64 s.right.wide.lo, AV.int false
    IntKind.i64 s.right.wide.hi, AV.int false IntKind.i64 s.right.deep.lo, AV.int false IntKind.i64 s.right.deep.hi, AV.int false IntKind.i64 s.down.kind, AV.int false IntKind.i64
    s.down.at_.lo, AV.int false IntKind.i64 s.down.at_.hi, AV.int false IntKind.i64 s.down.wide.lo, AV.int false IntKind.i64 s.down.wide.hi, AV.int false IntKind.i64 s.down.deep.lo,
    AV.int false IntKind.i64 s.down.deep.hi, AV.int false IntKind.i64 s.left.kind, AV.int false IntKind.i64 s.left.at_.lo, AV.int false IntKind.i64 s.left.at_.hi, AV.int false
    IntKind.i64 s.left.wide.lo, AV.int false IntKind.i64 s.left.wide.hi, AV.int false IntKind.i64 s.left.deep.lo, AV.int false IntKind.i64 s.left.deep.hi]] (0 : Nat) i (13 : Nat))))
    (Edge.mk (rowI [[AV.int false IntKind.i64 s.up.kind, AV.int false IntKind.i64 s.up.at_.lo, AV.int false IntKind.i64 s.up.at_.hi, AV.int false IntKind.i64 s.up.wide.lo, AV.int false
    IntKind.i64 s.up.wide.hi, AV.int false IntKind.i64 s.up.deep.lo, AV.int false IntKind.i64 s.up.deep.hi, AV.int false IntKind.i64 s.right.kind, AV.int false IntKind.i64
    s.right.at_.lo, AV.int false IntKind.i64 s.right.at_.hi, AV.int false IntKind.i64 s.right.wide.lo, AV.int false IntKind.i64 s.right.wide.hi, AV.int false IntKind.i64
    s.right.deep.lo, AV.int false IntKind.i64 s.right.deep.hi, AV.int false IntKind.i64 s.down.kind, AV.int false IntKind.i64 s.down.at_.lo, AV.int false IntKind.i64 s.down.at_.hi,
    AV.int false IntKind.i64 s.down.wide.lo, AV.int false IntKind.i64 s.down.wide.hi, AV.int false IntKind.i64 s.down.deep.lo, AV.int false IntKind.i64 s.down.deep.hi, AV.int false
    IntKind.i64 s.left.kind, AV.int false IntKind.i64 s.left.at_.lo, AV.int false IntKind.i64 s.left.at_.hi, AV.int false IntKind.i64 s.left.wide.lo, AV.int false IntKind.i64
    s.left.wide.hi, AV.int false IntKind.i64 s.left.deep.lo, AV.int false IntKind.i64 s.left.deep.hi]] (0 : Nat) i (14 : Nat)) (Sp.mk (rowI [[AV.int false IntKind.i64 s.up.kind, AV.int
    false IntKind.i64 s.up.at_.lo, AV.int false IntKind.i64 s.up.at_.hi, AV.int false IntKind.i64 s.up.wide.lo, AV.int false IntKind.i64 s.up.wide.hi, AV.int false IntKind.i64
    s.up.deep.lo, AV.int false IntKind.i64 s.up.deep.hi, AV.int false IntKind.i64 s.right.kind, AV.int false IntKind.i64 s.right.at_.lo, AV.int false IntKind.i64 s.right.at_.hi, AV.int
    false IntKind.i64 s.right.wide.lo, AV.int false IntKind.i64 s.right.wide.hi, AV.int false IntKind.i64 s.right.deep.lo, AV.int false IntKind.i64 s.right.deep.hi, AV.int false
    IntKind.i64 s.down.kind, AV.int false IntKind.i64 s.down.at_.lo, AV.int false IntKind.i64 s.down.at_.hi, AV.int false IntKind.i64 s.down.wide.lo, AV.int false IntKind.i64
    s.down.wide.hi, AV.int false IntKind.i64 s.down.deep.lo, AV.int false IntKind.i64 s.down.deep.hi, AV.int false IntKind.i64 s.left.kind, AV.int false IntKind.i64 s.left.at_.lo,
    AV.int false IntKind.i64 s.left.at_.hi, AV.int false IntKind.i64 s.left.wide.lo, AV.int false IntKind.i64 s.left.wide.hi, AV.int false IntKind.i64 s.left.deep.lo, AV.int false
    IntKind.i64 s.left.deep.hi]] (0 : Nat) i (15 : Nat)) (rowI [[AV.int false IntKind.i64 s.up.kind, AV.int false IntKind.i64 s.up.at_.lo, AV.int false IntKind.i64 s.up.at_.hi, AV.int
    false IntKind.i64 s.up.wide.lo, AV.int false IntKind.i64 s.up.wide.hi, AV.int false IntKind.i64 s.up.deep.lo, AV.int false IntKind.i64 s.up.deep.hi, AV.int false IntKind.i64
    s.right.kind, AV.int false IntKind.i64 s.right.at_.lo, AV.int false IntKind.i64 s.right.at_.hi, AV.int false IntKind.i64 s.right.wide.lo, AV.int false IntKind.i64 s.right.wide.hi,
    AV.int false IntKind.i64 s.right.deep.lo, AV.int false IntKind.i64 s.right.deep.hi, AV.int false IntKind.i64 s.down.kind, AV.int false IntKind.i64 s.down.at_.lo, AV.int false
    IntKind.i64 s.down.at_.hi, AV.int false IntKind.i64 s.down.wide.lo, AV.int false IntKind.i64 s.down.wide.hi, AV.int false IntKind.i64 s.down.deep.lo, AV.int false IntKind.i64
    s.down.deep.hi, AV.int false IntKind.i64 s.left.kind, AV.int false IntKind.i64 s.left.at_.lo, AV.int false IntKind.i64 s.left.at_.hi, AV.int false IntKind.i64 s.left.wide.lo, AV.int
    false IntKind.i64 s.left.wide.hi, AV.int false IntKind.i64 s.left.deep.lo, AV.int false IntKind.i64 s.left.deep.hi]] (0 : Nat) i (16 : Nat))) (Sp.mk (rowI [[AV.int false IntKind.i64
    s.up.kind, AV.int false IntKind.i64 s.up.at_.lo, AV.int false IntKind.i64 s.up.at_.hi, AV.int false IntKind.i64 s.up.wide.lo, AV.int false IntKind.i64 s.up.wide.hi, AV.int false
    IntKind.i64 s.up.deep.lo, AV.int false IntKind.i64 s.up.deep.hi, AV.int false IntKind.i64 s.right.kind, AV.int false IntKind.i64 s.right.at_.lo, AV.int false IntKind.i64
    s.right.at_.hi, AV.int false IntKind.i64 s.right.wide.lo, AV.int false IntKind.i64 s.right.wide.hi, AV.int false IntKind.i64 s.right.deep.lo, AV.int false IntKind.i64
    s.right.deep.hi, AV.int false IntKind.i64 s.down.kind, AV.int false IntKind.i64 s.down.at_.lo, AV.int false IntKind.i64 s.down.at_.hi, AV.int false IntKind.i64 s.down.wide.lo,
    AV.int false IntKind.i64 s.down.wide.hi, AV.int false IntKind.i64 s.down.deep.lo, AV.int false IntKind.i64 s.down.deep.hi, AV.int false IntKind.i64 s.left.kind, AV.int false
    IntKind.i64 s.left.at_.lo, AV.int false IntKind.i64 s.left.at_.hi, AV.int false IntKind.i64 s.left.wide.lo, AV.int false IntKind.i64 s.left.wide.hi, AV.int false IntKind.i64
    s.left.deep.lo, AV.int false IntKind.i64 s.left.deep.hi]] (0 : Nat) i (17 : Nat)) (rowI [[AV.int false IntKind.i64 s.up.kind, AV.int false IntKind.i64 s.up.at_.lo, AV.int false
    IntKind.i64 s.up.at_.hi, AV.int false IntKind.i64 s.up.wide.lo, AV.int false IntKind.i64 s.up.wide.hi, AV.int false IntKind.i64 s.up.deep.lo, AV.int false IntKind.i64 s.up.deep.hi,
    AV.int false IntKind.i64 s.right.kind, AV.int false IntKind.i64 s.right.at_.lo, AV.int false IntKind.i64 s.right.at_.hi, AV.int false IntKind.i64 s.right.wide.lo, AV.int false
    IntKind.i64 s.right.wide.hi, AV.int false IntKind.i64 s.right.deep.lo, AV.int false IntKind.i64 s.right.deep.hi, AV.int false IntKind.i64 s.down.kind, AV.int false IntKind.i64
    s.down.at_.lo, AV.int false IntKind.i64 s.down.at_.hi, AV.int false IntKind.i64 s.down.wide.lo, AV.int false IntKind.i64 s.down.wide.hi, AV.int false IntKind.i64 s.down.deep.lo,
    AV.int false IntKind.i64 s.down.deep.hi, AV.int false IntKind.i64 s.left.kind, AV.int false IntKind.i64 s.left.at_.lo, AV.int false IntKind.i64 s.left.at_.hi, AV.int false
    IntKind.i64 s.left.wide.lo, AV.int false IntKind.i64 s.left.wide.hi, AV.int false IntKind.i64 s.left.deep.lo, AV.int false IntKind.i64 s.left.deep.hi]] (0 : Nat) i (18 : Nat)))
    (Sp.mk (rowI [[AV.int false IntKind.i64 s.up.kind, AV.int false IntKind.i64 s.up.at_.lo, AV.int false IntKind.i64 s.up.at_.hi, AV.int false IntKind.i64 s.up.wide.lo, AV.int false
    IntKind.i64 s.up.wide.hi, AV.int false IntKind.i64 s.up.deep.lo, AV.int false IntKind.i64 s.up.deep.hi, AV.int false IntKind.i64 s.right.kind, AV.int false IntKind.i64
    s.right.at_.lo, AV.int false IntKind.i64 s.right.at_.hi, AV.int false IntKind.i64 s.right.wide.lo, AV.int false IntKind.i64 s.right.wide.hi, AV.int false IntKind.i64
    s.right.deep.lo, AV.int false IntKind.i64 s.right.deep.hi, AV.int false IntKind.i64 s.down.kind, AV.int false IntKind.i64 s.down.at_.lo, AV.int false IntKind.i64 s.down.at_.hi,
    AV.int false IntKind.i64 s.down.wide.lo, AV.int false IntKind.i64 s.down.wide.hi, AV.int false IntKind.i64 s.down.deep.lo, AV.int false IntKind.i64 s.down.deep.hi, AV.int false
    IntKind.i64 s.left.kind, AV.int false IntKind.i64 s.left.at_.lo, AV.int false IntKind.i64 s.left.at_.hi, AV.int false IntKind.i64 s.left.wide.lo, AV.int false IntKind.i64
    s.left.wide.hi, AV.int false IntKind.i64 s.left.deep.lo, AV.int false IntKind.i64 s.left.deep.hi]] (0 : Nat) i (19 : Nat)) (rowI [[AV.int false IntKind.i64 s.up.kind, AV.int false
    IntKind.i64 s.up.at_.lo, AV.int false IntKind.i64 s.up.at_.hi, AV.int false IntKind.i64 s.up.wide.lo, AV.int false IntKind.i64 s.up.wide.hi, AV.int false IntKind.i64 s.up.deep.lo,
    AV.int false IntKind.i64 s.up.deep.hi, AV.int false IntKind.i64 s.right.kind, AV.int false IntKind.i64 s.right.at_.lo, AV.int false IntKind.i64 s.right.at_.hi, AV.int false
    IntKind.i64 s.right.wide.lo, AV.int false IntKind.i64 s.right.wide.hi, AV.int false IntKind.i64 s.right.deep.lo, AV.int false IntKind.i64 s.right.deep.hi, AV.int false IntKind.i64
    s.down.kind, AV.int false IntKind.i64 s.down.at_.lo, AV.int false IntKind.i64 s.down.at_.hi, AV.int false IntKind.i64 s.down.wide.lo, AV.int false IntKind.i64 s.down.wide.hi, AV.int
    false IntKind.i64 s.down.deep.lo, AV.int false IntKind.i64 s.down.deep.hi, AV.int false IntKind.i64 s.left.kind, AV.int false IntKind.i64 s.left.at_.lo, AV.int false IntKind.i64
    s.left.at_.hi, AV.int false IntKind.i64 s.left.wide.lo, AV.int false IntKind.i64 s.left.wide.hi, AV.int false IntKind.i64 s.left.deep.lo, AV.int false IntKind.i64 s.left.deep.hi]]
    (0 : Nat) i (20 : Nat)))) (Edge.mk (rowI [[AV.int false IntKind.i64 s.up.kind, AV.int false IntKind.i64 s.up.at_.lo, AV.int false IntKind.i64 s.up.at_.hi, AV.int false IntKind.i64
    s.up.wide.lo, AV.int false IntKind.i64 s.up.wide.hi, AV.int false IntKind.i64 s.up.deep.lo, AV.int false IntKind.i64 s.up.deep.hi, AV.int false IntKind.i64 s.right.kind, AV.int
    false IntKind.i64 s.right.at_.lo, AV.int false IntKind.i64 s.right.at_.hi, AV.int false IntKind.i64 s.right.wide.lo, AV.int false IntKind.i64 s.right.wide.hi, AV.int false
    IntKind.i64 s.right.deep.lo, AV.int false IntKind.i64 s.right.deep.hi, AV.int false IntKind.i64 s.down.kind, AV.int false IntKind.i64 s.down.at_.lo, AV.int false IntKind.i64
    s.down.at_.hi, AV.int false IntKind.i64 s.down.wide.lo, AV.int false IntKind.i64 s.down.wide.hi, AV.int false IntKind.i64 s.down.deep.lo, AV.int false IntKind.i64 s.down.deep.hi,
    AV.int false IntKind.i64 s.left.kind, AV.int false IntKind.i64 s.left.at_.lo, AV.int false IntKind.i64 s.left.at_.hi, AV.int false IntKind.i64 s.left.wide.lo, AV.int false
    IntKind.i64 s.left.wide.hi, AV.int false IntKind.i64 s.left.deep.lo, AV.int false IntKind.i64 s.left.deep.hi]] (0 : Nat) i (21 : Nat)) (Sp.mk (rowI [[AV.int false IntKind.i64
    s.up.kind, AV.int false IntKind.i64 s.up.at_.lo, AV.int false IntKind.i64 s.up.at_.hi, AV.int false IntKind.i64 s.up.wide.lo, AV.int false IntKind.i64 s.up.wide.hi, AV.int false
    IntKind.i64 s.up.deep.lo, AV.int false IntKind.i64 s.up.deep.hi, AV.int false IntKind.i64 s.right.kind, AV.int false IntKind.i64 s.right.at_.lo, AV.int false IntKind.i64
    s.right.at_.hi, AV.int false IntKind.i64 s.right.wide.lo, AV.int false IntKind.i64 s.right.wide.hi, AV.int false IntKind.i64 s.right.deep.lo, AV.int false IntKind.i64
    s.right.deep.hi, AV.int false IntKind.i64 s.down.kind, AV.int false IntKind.i64 s.down.at_.lo, AV.int false IntKind.i64 s.down.at_.hi, AV.int false IntKind.i64 s.down.wide.lo,
    AV.int false IntKind.i64 s.down.wide.hi, AV.int false IntKind.i64 s.down.deep.lo, AV.int false IntKind.i64 s.down.deep.hi, AV.int false IntKind.i64 s.left.kind, AV.int false
    IntKind.i64 s.left.at_.lo, AV.int false IntKind.i64 s.left.at_.hi, AV.int false IntKind.i64 s.left.wide.lo, AV.int false IntKind.i64 s.left.wide.hi, AV.int false IntKind.i64
    s.left.deep.lo, AV.int false IntKind.i64 s.left.deep.hi]] (0 : Nat) i (22 : Nat)) (rowI [[AV.int false IntKind.i64 s.up.kind, AV.int false IntKind.i64 s.up.at_.lo, AV.int false
    IntKind.i64 s.up.at_.hi, AV.int false IntKind.i64 s.up.wide.lo, AV.int false IntKind.i64 s.up.wide.hi, AV.int false IntKind.i64 s.up.deep.lo, AV.int false IntKind.i64 s.up.deep.hi,
    AV.int false IntKind.i64 s.right.kind, AV.int false IntKind.i64 s.right.at_.lo, AV.int false IntKind.i64 s.right.at_.hi, AV.int false IntKind.i64 s.right.wide.lo, AV.int false
    IntKind.i64 s.right.wide.hi, AV.int false IntKind.i64 s.right.deep.lo, AV.int false IntKind.i64 s.right.deep.hi, AV.int false IntKind.i64 s.down.kind, AV.int false IntKind.i64
    s.down.at_.lo, AV.int false IntKind.i64 s.down.at_.hi, AV.int false IntKind.i64 s.down.wide.lo, AV.int false IntKind.i64 s.down.wide.hi, AV.int false IntKind.i64 s.down.deep.lo,
    AV.int false IntKind.i64 s.down.deep.hi, AV.int false IntKind.i64 s.left.kind, AV.int false IntKind.i64 s.left.at_.lo, AV.int false IntKind.i64 s.left.at_.hi, AV.int false
    IntKind.i64 s.left.wide.lo, AV.int false IntKind.i64 s.left.wide.hi, AV.int false IntKind.i64 s.left.deep.lo, AV.int false IntKind.i64 s.left.deep.hi]] (0 : Nat) i (23 : Nat)))
    (Sp.mk (rowI [[AV.int false IntKind.i64 s.up.kind, AV.int false IntKind.i64 s.up.at_.lo, AV.int false IntKind.i64 s.up.at_.hi, AV.int false IntKind.i64 s.up.wide.lo, AV.int false
    IntKind.i64 s.up.wide.hi, AV.int false IntKind.i64 s.up.deep.lo, AV.int false IntKind.i64 s.up.deep.hi, AV.int false IntKind.i64 s.right.kind, AV.int false IntKind.i64
    s.right.at_.lo, AV.int false IntKind.i64 s.right.at_.hi, AV.int false IntKind.i64 s.right.wide.lo, AV.int false IntKind.i64 s.right.wide.hi, AV.int false IntKind.i64
    s.right.deep.lo, AV.int false IntKind.i64 s.right.deep.hi, AV.int false IntKind.i64 s.down.kind, AV.int false IntKind.i64 s.down.at_.lo, AV.int false IntKind.i64 s.down.at_.hi,
    AV.int false IntKind.i64 s.down.wide.lo, AV.int false IntKind.i64 s.down.wide.hi, AV.int false IntKind.i64 s.down.deep.lo, AV.int false IntKind.i64 s.down.deep.hi, AV.int false
    IntKind.i64 s.left.kind, AV.int false IntKind.i64 s.left.at_.lo, AV.int false IntKind.i64 s.left.at_.hi, AV.int false IntKind.i64 s.left.wide.lo, AV.int false IntKind.i64
    s.left.wide.hi, AV.int false IntKind.i64 s.left.deep.lo, AV.int false IntKind.i64 s.left.deep.hi]] (0 : Nat) i (24 : Nat)) (rowI [[AV.int false IntKind.i64 s.up.kind, AV.int false
    IntKind.i64 s.up.at_.lo, AV.int false IntKind.i64 s.up.at_.hi, AV.int false IntKind.i64 s.up.wide.lo, AV.int false IntKind.i64 s.up.wide.hi, AV.int false IntKind.i64 s.up.deep.lo,
    AV.int false IntKind.i64 s.up.deep.hi, AV.int false IntKind.i64 s.right.kind, AV.int false IntKind.i64 s.right.at_.lo, AV.int false IntKind.i64 s.right.at_.hi, AV.int false
    IntKind.i64 s.right.wide.lo, AV.int false IntKind.i64 s.right.wide.hi, AV.int false IntKind.i64 s.right.deep.lo, AV.int false IntKind.i64 s.right.deep.hi, AV.int false IntKind.i64
    s.down.kind, AV.int false IntKind.i64 s.down.at_.lo, AV.int false IntKind.i64 s.down.at_.hi, AV.int false IntKind.i64 s.down.wide.lo, AV.int false IntKind.i64 s.down.wide.hi, AV.int
    false IntKind.i64 s.down.deep.lo, AV.int false IntKind.i64 s.down.deep.hi, AV.int false IntKind.i64 s.left.kind, AV.int false IntKind.i64 s.left.at_.lo, AV.int false IntKind.i64
    s.left.at_.hi, AV.int false IntKind.i64 s.left.wide.lo, AV.int false IntKind.i64 s.left.wide.hi, AV.int false IntKind.i64 s.left.deep.lo, AV.int false IntKind.i64 s.left.deep.hi]]
    (0 : Nat) i (25 : Nat))) (Sp.mk (rowI [[AV.int false IntKind.i64 s.up.kind, AV.int false IntKind.i64 s.up.at_.lo, AV.int false IntKind.i64 s.up.at_.hi, AV.int false IntKind.i64
    s.up.wide.lo, AV.int false IntKind.i64 s.up.wide.hi, AV.int false IntKind.i64 s.up.deep.lo, AV.int false IntKind.i64 s.up.deep.hi, AV.int false IntKind.i64 s.right.kind, AV.int
    false IntKind.i64 s.right.at_.lo, AV.int false IntKind.i64 s.right.at_.hi, AV.int false IntKind.i64 s.right.wide.lo, AV.int false IntKind.i64 s.right.wide.hi, AV.int false
    IntKind.i64 s.right.deep.lo, AV.int false IntKind.i64 s.right.deep.hi, AV.int false IntKind.i64 s.down.kind, AV.int false IntKind.i64 s.down.at_.lo, AV.int false IntKind.i64
    s.down.at_.hi, AV.int false IntKind.i64 s.down.wide.lo, AV.int false IntKind.i64 s.down.wide.hi, AV.int false IntKind.i64 s.down.deep.lo, AV.int false IntKind.i64 s.down.deep.hi,
    AV.int false IntKind.i64 s.left.kind, AV.int false IntKind.i64 s.left.at_.lo, AV.int false IntKind.i64 s.left.at_.hi, AV.int false IntKind.i64 s.left.wide.lo, AV.int false
    IntKind.i64 s.left.wide.hi, AV.int false IntKind.i64 s.left.deep.lo, AV.int false IntKind.i64 s.left.deep.hi]] (0 : Nat) i (26 : Nat)) (rowI [[AV.int false IntKind.i64 s.up.kind,
    AV.int false IntKind.i64 s.up.at_.lo, AV.int false IntKind.i64 s.up.at_.hi, AV.int false IntKind.i64 s.up.wide.lo, AV.int false IntKind.i64 s.up.wide.hi, AV.int false IntKind.i64
    s.up.deep.lo, AV.int false IntKind.i64 s.up.deep.hi, AV.int false IntKind.i64 s.right.kind, AV.int false IntKind.i64 s.right.at_.lo, AV.int false IntKind.i64 s.right.at_.hi, AV.int
    false IntKind.i64 s.right.wide.lo, AV.int false IntKind.i64 s.right.wide.hi, AV.int false IntKind.i64 s.right.deep.lo, AV.int false IntKind.i64 s.right.deep.hi, AV.int false
    IntKind.i64 s.down.kind, AV.int false IntKind.i64 s.down.at_.lo, AV.int false IntKind.i64 s.down.at_.hi, AV.int false IntKind.i64 s.down.wide.lo, AV.int false IntKind.i64
    s.down.wide.hi, AV.int false IntKind.i64 s.down.deep.lo, AV.int false IntKind.i64 s.down.deep.hi, AV.int false IntKind.i64 s.left.kind, AV.int false IntKind.i64 s.left.at_.lo,
    AV.int false IntKind.i64 s.left.at_.hi, AV.int false IntKind.i64 s.left.wide.lo, AV.int false IntKind.i64 s.left.wide.hi, AV.int false IntKind.i64 s.left.deep.lo, AV.int false
    IntKind.i64 s.left.deep.hi]] (0 : Nat) i (27 : Nat)))))) (Tree.leaf (AV.tup [AV.nils, AV.int true IntKind.i64 (1 : Int)]) ([])) (Tree.need (decide (d.ps.n ≤ d.ps.n) && (true &&
    true) && decide (d.ps.n ≤ (900 : Nat))) (Tree.leaf (AV.tup [AV.slz (144 : Nat) (0 : Nat) (seatL d s d.ps.n).length (Cap.of (0 : Nat)), AV.int true IntKind.i64 (0 : Int)]) ([((144 :
    Nat), Blk.rowz true (56 : Nat) [CK.int IntKind.i64, CK.int IntKind.i64] (seatL d s d.ps.n).length fun i => RowT.enc ((seatL d s d.ps.n).getD i (Seat.mk (0 : Int) (0 : Int))))])))))) := by kernel_rfl
theorem sts_hs : WHnd (mkE Try.prog tab_seats) (bodyOf Try.f15) 8 stsF (fun x_ => (hnd (mkE Try.prog tab_seats) 0)) := by
  refine ⟨?_⟩
  rintro ⟨d, ⟨s, ⟨⟩⟩⟩ hp G h1 h2
  exact hnd_hndOk (mkE_ok tab_seats_ok) 0 G _ h1
theorem sts_run : WRun (mkE Try.prog tab_seats) Try.f15 8 stsF (fun x_ => (hnd (mkE Try.prog tab_seats) 0)) := by
  refine ⟨?_⟩
  rintro ⟨d, ⟨s, ⟨⟩⟩⟩ hp
  refine ⟨⟨rfl, by simp [stsF, newL, Blk.own, Blk.all], rfl⟩, ⟨?_⟩⟩
  rw [sts_t d s]
  simp only [stsF] at hp
  have hn : d.ps.n ≤ 900 := of_decide_eq_true hp
  have no : stsO d s = false → (Tree.leaf (AV.tup [AV.nils, AV.int true IntKind.i64 1]) []).den (EndOk 8 (stsF (d, s, ())).2.1 (stsF (d, s, ())).2.2) := by
    intro h
    have h1 : stsL d s = [] := by simp only [stsL, h]
    have h2 : stsE d s = 1 := by simp only [stsE, h]
    refine ⟨rfl, rfl, _, sts_no _ _ _, ?_⟩
    rw [h1, h2]
    repeat' first | exact trivial | with_reducible rfl | exact Nat.le_refl _ | exact RowsEq.refl _ _ _ | refine And.intro ?_ ?_
    all_goals rfl
  refine den_need (by simp; omega) (den_br (fun h => no ?_) (fun h => den_need rfl (den_br (fun h2 => no ?_) (fun h2 => den_need (by simp; omega) ?_))))
  · have h : d.ok = false := by simpa using h
    simp only [stsO, h, Bool.false_and]
  · have h2 : okPs d.play ⟨1, fun _ => s⟩ = false := by simpa using (show (!okPs d.play ⟨1, fun _ => s⟩) = true from h2)
    simp only [stsO, h2, Bool.and_false]
  · have h : d.ok = true := by simpa using h
    have h2 : okPs d.play ⟨1, fun _ => s⟩ = true := by simpa using (show (!okPs d.play ⟨1, fun _ => s⟩) = false from h2)
    have hO : stsO d s = true := by simp only [stsO, h, h2, Bool.and_self]
    have h3 : stsL d s = seatL d s d.ps.n := by simp only [stsL, hO]
    have h4 : stsE d s = 0 := by simp only [stsE, hO]
    refine ⟨rfl, rfl, _, sts_yes _ _ _ _ _, ?_⟩
    rw [h3, h4]
    repeat' first | exact trivial | with_reducible rfl | exact Nat.le_refl _ | exact RowsEq.refl _ _ _ | refine And.intro ?_ ?_
theorem sts_s : FSound Try.prog 15 stsC :=
  fn_W (mkE_ok tab_seats_ok) Try.func15 (by kernel_rfl) (by kernel_rfl) (by decide) sts_hs sts_run
def tab_sts : Tab := addF tab_seats 15 stsC
theorem tab_sts_ok : TabOk tab_sts := tab_seats_ok.add sts_s
end Go.Proofs.Ytbpffdkemeoajaa
