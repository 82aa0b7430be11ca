/- The law FitLists. -/
import Derived.Test.YtdaanchagjamfaaNpw
import Derived.Test.YtdaanchagjamfaaNpzc
namespace Go.Proofs.Ytdaanchagjamfaa
open Go.SX

/-- A short number, as it comes in. -/
structure U8n where
  n : Int
instance : Enc U8n where
  enc x := .int false .u8 x.n
  dec v := match v with
    | .int _ .u8 n => some ⟨n⟩
    | _ => none
  ok v x h := by
    split at h <;> (try (cases h; done))
    simp only [Option.some.injEq] at h; subst h; exact ⟨fun _ => rfl, rfl⟩
def frzL (k : Nat) (o : List Int) : Nat × Blk := (k, .frz [.int .i64] o.length fun i => RowT.enc (o.getD i 0))
def rot (l : Rw Edge) (t : U8n) (i : Nat) : Edge := l.get ((i + t.n.toNat) % l.n)
def ps16 (p : Play) (s : Edge) : List (Nat × Blk) := [(8, .cells 0 25 (Enc.enc p).cells), (16, .cells 0 27 (Enc.enc s).cells)]
def l1J (p : Play) (s : Edge) (l : Rw Edge) (t : U8n) (o q : List Int) (k : Nat) : JSt :=
  ⟨162, [(2, .slz 2 0 l.n (.of 0)), (3, Enc.enc t), (4, .ptr 8 0 0), (5, .ptr 16 0 0), (9, .slz 80 0 o.length (.of 0)), (10, .slz 81 0 q.length (.of 0)), (12, .slz 24 0 k (.of 0)), (58, .int false .i64 l.n), (59, .int false .i64 k)],
    ps16 p s ++ ([frzL 80 o, frzL 81 q, (24, .rowz true 27 (RowT.ks Edge) k fun i => RowT.enc (rot l t i))] ++ ArgE.blk 2 l), 96⟩
def l1Ls : Ex → List Nat
  | .normal => [2, 3, 4, 5, 9, 10, 12, 58, 59]
  | _ => [2, 4, 5, 9, 10, 12]
set_option maxRecDepth 100000 in
theorem l1_r (p : Play) (s : Edge) (l : Rw Edge) (t : U8n) (o q : List Int) (k : Nat) (g : Nat → Value) : exec (mkE Try.prog tab_mat) (hnd (mkE Try.prog tab_mat) 0) (bodyK Try.f13 0) (JSt.inst (l1J p s l t o q k) g) (leafW [] l1Ls) =
    Tree.br (decide ((↑k : Int) < (↑l.n : Int))) (Tree.need (!decide ((↑l.n : Int) = (0 : Int))) (Tree.need (decide ((0 : Int) ≤ (IntKind.i64.wrap ((↑k : Int) + IntKind.i64.wrap
    t.n)).tmod (↑l.n : Int) ∧ (IntKind.i64.wrap ((↑k : Int) + IntKind.i64.wrap t.n)).tmod (↑l.n : Int) < (↑l.n : Int)) && decide (l.n ≤ l.n)) (Tree.need (decide (((IntKind.i64.wrap ((↑k
    : Int) + IntKind.i64.wrap t.n)).tmod (↑l.n : Int)).toNat < l.n)) (Tree.need (decide (k ≤ k) && (true && decide ((k + (1 : Nat) + (k + (1 : Nat)) / (4 : Nat) + (192 : Nat)) * (56 :
    Nat) ≤ (281474976710656 : Nat) ∧ k + (1 : Nat) ≤ (9223372036854775807 : Nat)))) (Tree.leaf (AV.tup [AV.nilp, AV.ptr (162 : Nat) (0 : Nat) (0 : Nat), AV.slz (2 : Nat) (0 : Nat) l.n
    (Cap.of (0 : Nat)), AV.int false IntKind.u8 t.n, AV.ptr (8 : Nat) (0 : Nat) (0 : Nat), AV.ptr (16 : Nat) (0 : Nat) (0 : Nat), AV.slz (80 : Nat) (0 : Nat) o.length (Cap.of (0 :
    Nat)), AV.slz (81 : Nat) (0 : Nat) q.length (Cap.of (0 : Nat)), AV.slz (216 : Nat) (0 : Nat) (k + (1 : Nat)) (Cap.of (0 : Nat)), AV.int false IntKind.i64 (↑l.n : Int), AV.int false
    IntKind.i64 (IntKind.i64.wrap ((↑k : Int) + (1 : Int)))]) [((2 : Nat), Blk.frz [CK.int IntKind.i64, CK.int IntKind.i64, CK.int IntKind.i64, CK.int IntKind.i64, CK.int IntKind.i64,
    CK.int IntKind.i64, CK.int IntKind.i64] l.n fun i => RowT.enc (l.get i)), ((8 : Nat), Blk.cells (0 : Nat) (25 : Nat) [AV.int false IntKind.i64 p.length, AV.int false IntKind.i64
    p.slack, AV.int false IntKind.i64 p.loose, AV.int false IntKind.i64 p.damp.lo, AV.int false IntKind.i64 p.damp.hi]), ((16 : Nat), Blk.cells (0 : Nat) (27 : Nat) [AV.int false
    IntKind.i64 s.kind, AV.int false IntKind.i64 s.at_.lo, AV.int false IntKind.i64 s.at_.hi, AV.int false IntKind.i64 s.wide.lo, AV.int false IntKind.i64 s.wide.hi, AV.int false
    IntKind.i64 s.deep.lo, AV.int false IntKind.i64 s.deep.hi]), ((80 : Nat), Blk.frz [CK.int IntKind.i64] o.length fun i => RowT.enc (o.getD i (0 : Int))), ((81 : Nat), Blk.frz [CK.int
    IntKind.i64] q.length fun i => RowT.enc (q.getD i (0 : Int))), ((216 : Nat), Blk.rowz true (27 : Nat) [CK.int IntKind.i64, CK.int IntKind.i64, CK.int IntKind.i64, CK.int
    IntKind.i64, CK.int IntKind.i64, CK.int IntKind.i64, CK.int IntKind.i64] (k + (1 : Nat)) (joinG k (fun i => RowT.enc (rot l t i)) (rowI [[AV.int false IntKind.i64 (l.get
    ((IntKind.i64.wrap ((↑k : Int) + IntKind.i64.wrap t.n)).tmod (↑l.n : Int)).toNat).kind, AV.int false IntKind.i64 (l.get ((IntKind.i64.wrap ((↑k : Int) + IntKind.i64.wrap t.n)).tmod
    (↑l.n : Int)).toNat).at_.lo, AV.int false IntKind.i64 (l.get ((IntKind.i64.wrap ((↑k : Int) + IntKind.i64.wrap t.n)).tmod (↑l.n : Int)).toNat).at_.hi, AV.int false IntKind.i64
    (l.get ((IntKind.i64.wrap ((↑k : Int) + IntKind.i64.wrap t.n)).tmod (↑l.n : Int)).toNat).wide.lo, AV.int false IntKind.i64 (l.get ((IntKind.i64.wrap ((↑k : Int) + IntKind.i64.wrap
    t.n)).tmod (↑l.n : Int)).toNat).wide.hi, AV.int false IntKind.i64 (l.get ((IntKind.i64.wrap ((↑k : Int) + IntKind.i64.wrap t.n)).tmod (↑l.n : Int)).toNat).deep.lo, AV.int false
    IntKind.i64 (l.get ((IntKind.i64.wrap ((↑k : Int) + IntKind.i64.wrap t.n)).tmod (↑l.n : Int)).toNat).deep.hi]] (0 : Nat))))]))))) (Tree.leaf (AV.tup [AV.ptr (0 : Nat) (0 : Nat) (0 :
    Nat), AV.ptr (162 : Nat) (0 : Nat) (0 : Nat), AV.slz (2 : Nat) (0 : Nat) l.n (Cap.of (0 : Nat)), AV.ptr (8 : Nat) (0 : Nat) (0 : Nat), AV.ptr (16 : Nat) (0 : Nat) (0 : Nat), AV.slz
    (80 : Nat) (0 : Nat) o.length (Cap.of (0 : Nat)), AV.slz (81 : Nat) (0 : Nat) q.length (Cap.of (0 : Nat)), AV.slz (24 : Nat) (0 : Nat) k (Cap.of (0 : Nat))]) [((2 : Nat), Blk.frz
    [CK.int IntKind.i64, CK.int IntKind.i64, CK.int IntKind.i64, CK.int IntKind.i64, CK.int IntKind.i64, CK.int IntKind.i64, CK.int IntKind.i64] l.n fun i => RowT.enc (l.get i)), ((8 :
    Nat), Blk.cells (0 : Nat) (25 : Nat) [AV.int false IntKind.i64 p.length, AV.int false IntKind.i64 p.slack, AV.int false IntKind.i64 p.loose, AV.int false IntKind.i64 p.damp.lo,
    AV.int false IntKind.i64 p.damp.hi]), ((16 : Nat), Blk.cells (0 : Nat) (27 : Nat) [AV.int false IntKind.i64 s.kind, AV.int false IntKind.i64 s.at_.lo, AV.int false IntKind.i64
    s.at_.hi, AV.int false IntKind.i64 s.wide.lo, AV.int false IntKind.i64 s.wide.hi, AV.int false IntKind.i64 s.deep.lo, AV.int false IntKind.i64 s.deep.hi]), ((80 : Nat), Blk.frz
    [CK.int IntKind.i64] o.length fun i => RowT.enc (o.getD i (0 : Int))), ((81 : Nat), Blk.frz [CK.int IntKind.i64] q.length fun i => RowT.enc (q.getD i (0 : Int))), ((24 : Nat),
    Blk.rowz true (27 : Nat) [CK.int IntKind.i64, CK.int IntKind.i64, CK.int IntKind.i64, CK.int IntKind.i64, CK.int IntKind.i64, CK.int IntKind.i64, CK.int IntKind.i64] k fun i =>
    RowT.enc (rot l t i))]) := by kernel_rfl
def l1E (p : Play) (s : Edge) (l : Rw Edge) (t : U8n) (o q : List Int) : JSt :=
  ⟨162, [(2, .slz 2 0 l.n (.of 0)), (4, .ptr 8 0 0), (5, .ptr 16 0 0), (9, .slz 80 0 o.length (.of 0)), (10, .slz 81 0 q.length (.of 0)), (12, .slz 24 0 l.n (.of 0))],
    ps16 p s ++ ([frzL 80 o, frzL 81 q, (24, .rowz true 27 (RowT.ks Edge) l.n fun i => RowT.enc (rot l t i))] ++ ArgE.blk 2 l), 96⟩
set_option maxRecDepth 100000 in
theorem l1_go (p : Play) (s : Edge) (l : Rw Edge) (t : U8n) (o q : List Int) (k n : Nat) (g : Nat → Nat → Int) (i : Int) : subE 8 [.slz 2 0 l.n (.of 0), Enc.enc t, .ptr 8 0 0, .ptr 16 0 0, .slz 80 0 o.length (.of 0), .slz 81 0 q.length (.of 0), .slz 216 0 n (.of 0), .int false .i64 l.n, .int false .i64 i] (ArgE.blk 2 l ++ (ps16 p s ++ [frzL 80 o, frzL 81 q, (216, .rowz true 27 (RowT.ks Edge) n g)])) (l1J p s l t o q k) = (
    some [(0 : Nat) = (0 : Nat), l.n = l.n, Cap.of (0 : Nat) = Cap.of (0 : Nat), t.n = t.n, (0 : Nat) = (0 : Nat), (0 : Nat) = (0 : Nat), (0 : Nat) = (0 : Nat), (0 : Nat) = (0 : Nat),
    (0 : Nat) = (0 : Nat), o.length = o.length, Cap.of (0 : Nat) = Cap.of (0 : Nat), (0 : Nat) = (0 : Nat), q.length = q.length, Cap.of (0 : Nat) = Cap.of (0 : Nat), (0 : Nat) = (0 :
    Nat), n = k, Cap.of (0 : Nat) = Cap.of (0 : Nat), (↑l.n : Int) = (↑l.n : Int), i = (↑k : Int), p.length = p.length, p.slack = p.slack, p.loose = p.loose, p.damp.lo = p.damp.lo,
    p.damp.hi = p.damp.hi, s.kind = s.kind, s.at_.lo = s.at_.lo, s.at_.hi = s.at_.hi, s.wide.lo = s.wide.lo, s.wide.hi = s.wide.hi, s.deep.lo = s.deep.lo, s.deep.hi = s.deep.hi,
    o.length ≤ o.length, RowsEq (1 : Nat) o.length (fun i => RowT.enc (o.getD i (0 : Int))) fun i => RowT.enc (o.getD i (0 : Int)), q.length ≤ q.length, RowsEq (1 : Nat) q.length (fun i
    => RowT.enc (q.getD i (0 : Int))) fun i => RowT.enc (q.getD i (0 : Int)), k ≤ n, RowsEq (7 : Nat) k g fun i => RowT.enc (rot l t i), l.n ≤ l.n, RowsEq (7 : Nat) l.n (fun i =>
    RowT.enc (l.get i)) fun i => RowT.enc (l.get i)]) := by kernel_rfl
set_option maxRecDepth 100000 in
theorem l1_end (p : Play) (s : Edge) (l : Rw Edge) (t : U8n) (o q : List Int) (n : Nat) (g : Nat → Nat → Int) : subE 8 [.slz 2 0 l.n (.of 0), .ptr 8 0 0, .ptr 16 0 0, .slz 80 0 o.length (.of 0), .slz 81 0 q.length (.of 0), .slz 24 0 n (.of 0)] (ArgE.blk 2 l ++ (ps16 p s ++ [frzL 80 o, frzL 81 q, (24, .rowz true 27 (RowT.ks Edge) n g)])) (l1E p s l t o q) = (
    some [(0 : Nat) = (0 : Nat), l.n = l.n, Cap.of (0 : Nat) = Cap.of (0 : Nat), (0 : Nat) = (0 : Nat), (0 : Nat) = (0 : Nat), (0 : Nat) = (0 : Nat), (0 : Nat) = (0 : Nat), (0 : Nat) =
    (0 : Nat), o.length = o.length, Cap.of (0 : Nat) = Cap.of (0 : Nat), (0 : Nat) = (0 : Nat), q.length = q.length, Cap.of (0 : Nat) = Cap.of (0 : Nat), (0 : Nat) = (0 : Nat), n = l.n,
    Cap.of (0 : Nat) = Cap.of (0 : Nat), p.length = p.length, p.slack = p.slack, p.loose = p.loose, p.damp.lo = p.damp.lo, p.damp.hi = p.damp.hi, s.kind = s.kind, s.at_.lo = s.at_.lo,
    s.at_.hi = s.at_.hi, s.wide.lo = s.wide.lo, s.wide.hi = s.wide.hi, s.deep.lo = s.deep.lo, s.deep.hi = s.deep.hi, o.length ≤ o.length, RowsEq (1 : Nat) o.length (fun i => RowT.enc
    (o.getD i (0 : Int))) fun i => RowT.enc (o.getD i (0 : Int)), q.length ≤ q.length, RowsEq (1 : Nat) q.length (fun i => RowT.enc (q.getD i (0 : Int))) fun i => RowT.enc (q.getD i (0
    : Int)), l.n ≤ n, RowsEq (7 : Nat) l.n g fun i => RowT.enc (rot l t i), l.n ≤ l.n, RowsEq (7 : Nat) l.n (fun i => RowT.enc (l.get i)) fun i => RowT.enc (l.get i)]) := by kernel_rfl
theorem rot_idx {k n : Nat} {t : Int} (hk : k < n) (hn : n ≤ 40) (ht : 0 ≤ t ∧ t ≤ 255) : (IntKind.i64.wrap ((k : Int) + IntKind.i64.wrap t)).tmod (n : Int) = (((k + t.toNat) % n : Nat) : Int) := by
  rw [w64 (n := t) (by omega) (by omega), w64 (by omega) (by omega)]
  have e : (k : Int) + t = ((k + t.toNat : Nat) : Int) := by omega
  rw [e]; rfl
theorem rows_add {m k : Nat} {g : Nat → Nat → Int} {y : List AV} (h : eqF m 0 (nthC y) (g k)) : RowsEq m (k + 1) (joinG k g (rowI [y] 0)) g := by
  intro i hi
  by_cases h1 : i < k
  · have : joinG k g (rowI [y] 0) i = g i := by funext j; rw [joinG_get, if_pos h1]
    rw [this]; exact eqF_refl _ _ _
  · have e : i = k := by omega
    subst e
    have : joinG i g (rowI [y] 0) i = nthC y := by funext j; rw [joinG_get, if_neg h1]; rfl
    rw [this]; exact h
theorem l1_round (p : Play) (s : Edge) (l : Rw Edge) (t : U8n) (o q : List Int) (ht : 0 ≤ t.n ∧ t.n ≤ 255) (hl : l.n ≤ 40) : RoundW (l1J p s l t o q) (fun k => k ≤ l.n) (fun k => l.n - k) (fun _ e J => e = .exit 0 ∧ J = l1E p s l t o q) 8 l1Ls [] (mkE Try.prog tab_mat) (fun _ => hnd (mkE Try.prog tab_mat) 0) (bodyK Try.f13 0) := by
  refine ⟨fun k g hk => ⟨?_⟩⟩
  by_cases h : k < l.n
  · rw [l1_r, rot_idx h hl ht]
    have hm : (k + t.n.toNat) % l.n < l.n := Nat.mod_lt _ (by omega)
    have hr : rot l t k = l.get ((k + t.n.toNat) % l.n) := rfl
    generalize (k + t.n.toNat) % l.n = j at hm hr ⊢
    have hw : IntKind.i64.wrap ((k : Int) + 1) = ((k + 1 : Nat) : Int) := (w64 (by omega) (by omega)).trans (by omega)
    refine den_br (fun _ => ?_) (fun hn => absurd (of_decide_eq_false hn) (by omega))
    refine den_need (by simp; omega) (den_need (by simp; omega) (den_need (by simp; omega) (den_need (by simp; omega) ?_)))
    refine ⟨k + 1, h, by show l.n - (k + 1) < l.n - k; omega, fun _ _ h => h, rfl, rfl, _, l1_go _ _ _ _ _ _ _ _ _ _, ?_⟩
    repeat' first | exact trivial | with_reducible rfl | exact Nat.le_refl _ | exact RowsEq.refl _ _ _ | exact hw | refine And.intro ?_ ?_
    refine rows_add ?_
    rw [hr]
    exact ⟨rfl, rfl, rfl, rfl, rfl, rfl, rfl, trivial⟩
  · have e : k = l.n := by omega
    subst e
    rw [l1_r]
    refine den_br (fun hn => absurd (of_decide_eq_true hn) (by omega)) (fun _ => ?_)
    refine ⟨_, ⟨rfl, rfl⟩, rfl, rfl, _, l1_end _ _ _ _ _ _ _ _, ?_⟩
    repeat' first | exact trivial | with_reducible rfl | exact Nat.le_refl _ | exact RowsEq.refl _ _ _ | refine And.intro ?_ ?_
def l2J (p : Play) (s : Edge) (l : Rw Edge) (o q : List Int) (n m : Nat) (e : Int) (a b k : Nat) : JSt :=
  ⟨162, [(4, .ptr 8 0 0), (5, .ptr 16 0 0), (9, .slz 80 0 o.length (.of 0)), (10, .slz 81 0 q.length (.of 0)), (14, .slz 100 0 n (.of 0)), (15, .slz 101 0 m (.of 0)), (16, .int false .i64 e), (17, .int false .i64 a), (18, .int false .i64 b), (84, .slz 2 0 l.n (.of 0)), (85, .int false .i64 l.n), (86, .int false .i64 k)],
    ps16 p s ++ ([frzL 80 o, frzL 81 q] ++ ArgE.blk 2 l), 104⟩
def l2Ls : Ex → List Nat
  | .normal => [4, 5, 9, 10, 14, 15, 16, 17, 18, 84, 85, 86]
  | .exit _ => [9, 10, 14, 15, 16, 17, 18]
  | .ret => [8]
set_option maxRecDepth 100000 in
theorem l2_r (p : Play) (s : Edge) (l : Rw Edge) (o q : List Int) (n m : Nat) (e : Int) (a b k : Nat) (g : Nat → Value) : exec (mkE Try.prog tab_mat) (hnd (mkE Try.prog tab_mat) 0) (bodyK Try.f13 1) (JSt.inst (l2J p s l o q n m e a b k) g) (leafW [] l2Ls) =
    Tree.br (decide ((↑k : Int) < (↑l.n : Int))) (Tree.need (decide ((0 : Int) ≤ (↑k : Int) ∧ (↑k : Int) < (↑l.n : Int)) && decide (l.n ≤ l.n)) (Tree.need (decide (k < l.n)) (Tree.need
    true (Tree.br ((FitF p s (l.get k)).2 != (0 : Int)) (Tree.leaf (AV.tup [AV.nili, AV.ptr (162 : Nat) (0 : Nat) (0 : Nat), AV.bool true false]) []) (Tree.br ((FitF p s (l.get k)).1 ==
    (2 : Int)) (Tree.br (decide ((↑a : Int) ≥ (↑o.length : Int))) (Tree.leaf (AV.tup [AV.nili, AV.ptr (162 : Nat) (0 : Nat) (0 : Nat), AV.bool true false]) []) (Tree.need (decide ((0 :
    Int) ≤ (↑a : Int) ∧ (↑a : Int) < (↑o.length : Int)) && decide (o.length ≤ o.length)) (Tree.need (decide (a < o.length)) (Tree.br (o.getD a (0 : Int) != (↑k : Int)) (Tree.leaf
    (AV.tup [AV.nili, AV.ptr (162 : Nat) (0 : Nat) (0 : Nat), AV.bool true false]) []) (Tree.br ((FitF p s (l.get k)).1 != (0 : Int)) (Tree.br (decide ((↑b : Int) ≥ (↑q.length : Int)))
    (Tree.leaf (AV.tup [AV.nili, AV.ptr (162 : Nat) (0 : Nat) (0 : Nat), AV.bool true false]) []) (Tree.need (decide ((0 : Int) ≤ (↑b : Int) ∧ (↑b : Int) < (↑q.length : Int)) && decide
    (q.length ≤ q.length)) (Tree.need (decide (b < q.length)) (Tree.br (q.getD b (0 : Int) != (↑k : Int)) (Tree.leaf (AV.tup [AV.nili, AV.ptr (162 : Nat) (0 : Nat) (0 : Nat), AV.bool
    true false]) []) (Tree.leaf (AV.tup [AV.nilp, AV.ptr (162 : Nat) (0 : Nat) (0 : Nat), AV.ptr (8 : Nat) (0 : Nat) (0 : Nat), AV.ptr (16 : Nat) (0 : Nat) (0 : Nat), AV.slz (80 : Nat)
    (0 : Nat) o.length (Cap.of (0 : Nat)), AV.slz (81 : Nat) (0 : Nat) q.length (Cap.of (0 : Nat)), AV.slz (100 : Nat) (0 : Nat) n (Cap.of (0 : Nat)), AV.slz (101 : Nat) (0 : Nat) m
    (Cap.of (0 : Nat)), AV.int false IntKind.i64 e, AV.int false IntKind.i64 (IntKind.i64.wrap ((↑a : Int) + (1 : Int))), AV.int false IntKind.i64 (IntKind.i64.wrap ((↑b : Int) + (1 :
    Int))), AV.slz (2 : Nat) (0 : Nat) l.n (Cap.of (0 : Nat)), AV.int false IntKind.i64 (↑l.n : Int), AV.int false IntKind.i64 (IntKind.i64.wrap ((↑k : Int) + (1 : Int)))]) [((8 : Nat),
    Blk.cells (0 : Nat) (25 : Nat) [AV.int false IntKind.i64 p.length, AV.int false IntKind.i64 p.slack, AV.int false IntKind.i64 p.loose, AV.int false IntKind.i64 p.damp.lo, AV.int
    false IntKind.i64 p.damp.hi]), ((16 : Nat), Blk.cells (0 : Nat) (27 : Nat) [AV.int false IntKind.i64 s.kind, AV.int false IntKind.i64 s.at_.lo, AV.int false IntKind.i64 s.at_.hi,
    AV.int false IntKind.i64 s.wide.lo, AV.int false IntKind.i64 s.wide.hi, AV.int false IntKind.i64 s.deep.lo, AV.int false IntKind.i64 s.deep.hi]), ((80 : Nat), Blk.frz [CK.int
    IntKind.i64] o.length fun i => RowT.enc (o.getD i (0 : Int))), ((81 : Nat), Blk.frz [CK.int IntKind.i64] q.length fun i => RowT.enc (q.getD i (0 : Int))), ((2 : Nat), Blk.frz
    [CK.int IntKind.i64, CK.int IntKind.i64, CK.int IntKind.i64, CK.int IntKind.i64, CK.int IntKind.i64, CK.int IntKind.i64, CK.int IntKind.i64] l.n fun i => RowT.enc (l.get i))])))))
    (Tree.leaf (AV.tup [AV.nilp, AV.ptr (162 : Nat) (0 : Nat) (0 : Nat), AV.ptr (8 : Nat) (0 : Nat) (0 : Nat), AV.ptr (16 : Nat) (0 : Nat) (0 : Nat), AV.slz (80 : Nat) (0 : Nat)
    o.length (Cap.of (0 : Nat)), AV.slz (81 : Nat) (0 : Nat) q.length (Cap.of (0 : Nat)), AV.slz (100 : Nat) (0 : Nat) n (Cap.of (0 : Nat)), AV.slz (101 : Nat) (0 : Nat) m (Cap.of (0 :
    Nat)), AV.int false IntKind.i64 e, AV.int false IntKind.i64 (IntKind.i64.wrap ((↑a : Int) + (1 : Int))), AV.int false IntKind.i64 (↑b : Int), AV.slz (2 : Nat) (0 : Nat) l.n (Cap.of
    (0 : Nat)), AV.int false IntKind.i64 (↑l.n : Int), AV.int false IntKind.i64 (IntKind.i64.wrap ((↑k : Int) + (1 : Int)))]) [((8 : Nat), Blk.cells (0 : Nat) (25 : Nat) [AV.int false
    IntKind.i64 p.length, AV.int false IntKind.i64 p.slack, AV.int false IntKind.i64 p.loose, AV.int false IntKind.i64 p.damp.lo, AV.int false IntKind.i64 p.damp.hi]), ((16 : Nat),
    Blk.cells (0 : Nat) (27 : Nat) [AV.int false IntKind.i64 s.kind, AV.int false IntKind.i64 s.at_.lo, AV.int false IntKind.i64 s.at_.hi, AV.int false IntKind.i64 s.wide.lo, AV.int
    false IntKind.i64 s.wide.hi, AV.int false IntKind.i64 s.deep.lo, AV.int false IntKind.i64 s.deep.hi]), ((80 : Nat), Blk.frz [CK.int IntKind.i64] o.length fun i => RowT.enc (o.getD i
    (0 : Int))), ((81 : Nat), Blk.frz [CK.int IntKind.i64] q.length fun i => RowT.enc (q.getD i (0 : Int))), ((2 : Nat), Blk.frz [CK.int IntKind.i64, CK.int IntKind.i64, CK.int
    IntKind.i64, CK.int IntKind.i64, CK.int IntKind.i64, CK.int IntKind.i64, CK.int IntKind.i64] l.n fun i => RowT.enc (l.get i))])))))) (Tree.br ((FitF p s (l.get k)).1 != (0 : Int))
    (Tree.br (decide ((↑b : Int) ≥ (↑q.length : Int))) (Tree.leaf (AV.tup [AV.nili, AV.ptr (162 : Nat) (0 : Nat) (0 : Nat), AV.bool true false]) []) (Tree.need (decide ((0 : Int) ≤ (↑b
    : Int) ∧ (↑b : Int) < (↑q.length : Int)) && decide (q.length ≤ q.length)) (Tree.need (decide (b < q.length)) (Tree.br (q.getD b (0 : Int) != (↑k : Int)) (Tree.leaf (AV.tup [AV.nili,
    AV.ptr (162 : Nat) (0 : Nat) (0 : Nat), AV.bool true false]) []) (Tree.leaf (AV.tup [AV.nilp, AV.ptr (162 : Nat) (0 : Nat) (0 : Nat), AV.ptr (8 : Nat) (0 : Nat) (0 : Nat), AV.ptr
    (16 : Nat) (0 : Nat) (0 : Nat), AV.slz (80 : Nat) (0 : Nat) o.length (Cap.of (0 : Nat)), AV.slz (81 : Nat) (0 : Nat) q.length (Cap.of (0 : Nat)), AV.slz (100 : Nat) (0 : Nat) n
    (Cap.of (0 : Nat)), AV.slz (101 : Nat) (0 : Nat) m (Cap.of (0 : Nat)), AV.int false IntKind.i64 e, AV.int false IntKind.i64 (↑a : Int), AV.int false IntKind.i64 (IntKind.i64.wrap
    ((↑b : Int) + (1 : Int))), AV.slz (2 : Nat) (0 : Nat) l.n (Cap.of (0 : Nat)), AV.int false IntKind.i64 (↑l.n : Int), AV.int false IntKind.i64 (IntKind.i64.wrap ((↑k : Int) + (1 :
    Int)))]) [((8 : Nat), Blk.cells (0 : Nat) (25 : Nat) [AV.int false IntKind.i64 p.length, AV.int false IntKind.i64 p.slack, AV.int false IntKind.i64 p.loose, AV.int false IntKind.i64
    p.damp.lo, AV.int false IntKind.i64 p.damp.hi]), ((16 : Nat), Blk.cells (0 : Nat) (27 : Nat) [AV.int false IntKind.i64 s.kind, AV.int false IntKind.i64 s.at_.lo, AV.int false
    IntKind.i64 s.at_.hi, AV.int false IntKind.i64 s.wide.lo, AV.int false IntKind.i64 s.wide.hi, AV.int false IntKind.i64 s.deep.lo, AV.int false IntKind.i64 s.deep.hi]), ((80 : Nat),
    Blk.frz [CK.int IntKind.i64] o.length fun i => RowT.enc (o.getD i (0 : Int))), ((81 : Nat), Blk.frz [CK.int IntKind.i64] q.length fun i => RowT.enc (q.getD i (0 : Int))), ((2 :
    Nat), Blk.frz [CK.int IntKind.i64, CK.int IntKind.i64, CK.int IntKind.i64, CK.int IntKind.i64, CK.int IntKind.i64, CK.int IntKind.i64, CK.int IntKind.i64] l.n fun i => RowT.enc
    (l.get i))]))))) (Tree.leaf (AV.tup [AV.nilp, AV.ptr (162 : Nat) (0 : Nat) (0 : Nat), AV.ptr (8 : Nat) (0 : Nat) (0 : Nat), AV.ptr (16 : Nat) (0 : Nat) (0 : Nat), AV.slz (80 : Nat)
    (0 : Nat) o.length (Cap.of (0 : Nat)), AV.slz (81 : Nat) (0 : Nat) q.length (Cap.of (0 : Nat)), AV.slz (100 : Nat) (0 : Nat) n (Cap.of (0 : Nat)), AV.slz (101 : Nat) (0 : Nat) m
    (Cap.of (0 : Nat)), AV.int false IntKind.i64 e, AV.int false IntKind.i64 (↑a : Int), AV.int false IntKind.i64 (↑b : Int), AV.slz (2 : Nat) (0 : Nat) l.n (Cap.of (0 : Nat)), AV.int
    false IntKind.i64 (↑l.n : Int), AV.int false IntKind.i64 (IntKind.i64.wrap ((↑k : Int) + (1 : Int)))]) [((8 : Nat), Blk.cells (0 : Nat) (25 : Nat) [AV.int false IntKind.i64
    p.length, AV.int false IntKind.i64 p.slack, AV.int false IntKind.i64 p.loose, AV.int false IntKind.i64 p.damp.lo, AV.int false IntKind.i64 p.damp.hi]), ((16 : Nat), Blk.cells (0 :
    Nat) (27 : Nat) [AV.int false IntKind.i64 s.kind, AV.int false IntKind.i64 s.at_.lo, AV.int false IntKind.i64 s.at_.hi, AV.int false IntKind.i64 s.wide.lo, AV.int false IntKind.i64
    s.wide.hi, AV.int false IntKind.i64 s.deep.lo, AV.int false IntKind.i64 s.deep.hi]), ((80 : Nat), Blk.frz [CK.int IntKind.i64] o.length fun i => RowT.enc (o.getD i (0 : Int))), ((81
    : Nat), Blk.frz [CK.int IntKind.i64] q.length fun i => RowT.enc (q.getD i (0 : Int))), ((2 : Nat), Blk.frz [CK.int IntKind.i64, CK.int IntKind.i64, CK.int IntKind.i64, CK.int
    IntKind.i64, CK.int IntKind.i64, CK.int IntKind.i64, CK.int IntKind.i64] l.n fun i => RowT.enc (l.get i))]))))))) (Tree.leaf (AV.tup [AV.ptr (2 : Nat) (0 : Nat) (0 : Nat), AV.ptr
    (162 : Nat) (0 : Nat) (0 : Nat), AV.slz (80 : Nat) (0 : Nat) o.length (Cap.of (0 : Nat)), AV.slz (81 : Nat) (0 : Nat) q.length (Cap.of (0 : Nat)), AV.slz (100 : Nat) (0 : Nat) n
    (Cap.of (0 : Nat)), AV.slz (101 : Nat) (0 : Nat) m (Cap.of (0 : Nat)), AV.int false IntKind.i64 e, AV.int false IntKind.i64 (↑a : Int), AV.int false IntKind.i64 (↑b : Int)]) [((80 :
    Nat), Blk.frz [CK.int IntKind.i64] o.length fun i => RowT.enc (o.getD i (0 : Int))), ((81 : Nat), Blk.frz [CK.int IntKind.i64] q.length fun i => RowT.enc (q.getD i (0 : Int)))]) := by kernel_rfl
def l2E (o q : List Int) (n m : Nat) (e : Int) : JSt :=
  ⟨162, [(9, .slz 80 0 o.length (.of 0)), (10, .slz 81 0 q.length (.of 0)), (14, .slz 100 0 n (.of 0)), (15, .slz 101 0 m (.of 0)), (16, .int false .i64 e), (17, .int false .i64 o.length), (18, .int false .i64 q.length)], [frzL 80 o, frzL 81 q], 104⟩
set_option maxRecDepth 100000 in
theorem l2_go (p : Play) (s : Edge) (l : Rw Edge) (o q : List Int) (n m : Nat) (e : Int) (a b k : Nat) (i j x : Int) : subE 8 [.ptr 8 0 0, .ptr 16 0 0, .slz 80 0 o.length (.of 0), .slz 81 0 q.length (.of 0), .slz 100 0 n (.of 0), .slz 101 0 m (.of 0), .int false .i64 e, .int false .i64 i, .int false .i64 j, .slz 2 0 l.n (.of 0), .int false .i64 l.n, .int false .i64 x] (ps16 p s ++ ([frzL 80 o, frzL 81 q] ++ ArgE.blk 2 l)) (l2J p s l o q n m e a b k) = (
    some [(0 : Nat) = (0 : Nat), (0 : Nat) = (0 : Nat), (0 : Nat) = (0 : Nat), (0 : Nat) = (0 : Nat), (0 : Nat) = (0 : Nat), o.length = o.length, Cap.of (0 : Nat) = Cap.of (0 : Nat), (0
    : Nat) = (0 : Nat), q.length = q.length, Cap.of (0 : Nat) = Cap.of (0 : Nat), (0 : Nat) = (0 : Nat), n = n, Cap.of (0 : Nat) = Cap.of (0 : Nat), (0 : Nat) = (0 : Nat), m = m, Cap.of
    (0 : Nat) = Cap.of (0 : Nat), e = e, i = (↑a : Int), j = (↑b : Int), (0 : Nat) = (0 : Nat), l.n = l.n, Cap.of (0 : Nat) = Cap.of (0 : Nat), (↑l.n : Int) = (↑l.n : Int), x = (↑k :
    Int), p.length = p.length, p.slack = p.slack, p.loose = p.loose, p.damp.lo = p.damp.lo, p.damp.hi = p.damp.hi, s.kind = s.kind, s.at_.lo = s.at_.lo, s.at_.hi = s.at_.hi, s.wide.lo =
    s.wide.lo, s.wide.hi = s.wide.hi, s.deep.lo = s.deep.lo, s.deep.hi = s.deep.hi, o.length ≤ o.length, RowsEq (1 : Nat) o.length (fun i => RowT.enc (o.getD i (0 : Int))) fun i =>
    RowT.enc (o.getD i (0 : Int)), q.length ≤ q.length, RowsEq (1 : Nat) q.length (fun i => RowT.enc (q.getD i (0 : Int))) fun i => RowT.enc (q.getD i (0 : Int)), l.n ≤ l.n, RowsEq (7 :
    Nat) l.n (fun i => RowT.enc (l.get i)) fun i => RowT.enc (l.get i)]) := by kernel_rfl
set_option maxRecDepth 100000 in
theorem l2_end (o q : List Int) (n m : Nat) (e : Int) (i j : Int) : subE 8 [.slz 80 0 o.length (.of 0), .slz 81 0 q.length (.of 0), .slz 100 0 n (.of 0), .slz 101 0 m (.of 0), .int false .i64 e, .int false .i64 i, .int false .i64 j] [frzL 80 o, frzL 81 q] (l2E o q n m e) = (
    some [(0 : Nat) = (0 : Nat), o.length = o.length, Cap.of (0 : Nat) = Cap.of (0 : Nat), (0 : Nat) = (0 : Nat), q.length = q.length, Cap.of (0 : Nat) = Cap.of (0 : Nat), (0 : Nat) =
    (0 : Nat), n = n, Cap.of (0 : Nat) = Cap.of (0 : Nat), (0 : Nat) = (0 : Nat), m = m, Cap.of (0 : Nat) = Cap.of (0 : Nat), e = e, i = (↑o.length : Int), j = (↑q.length : Int),
    o.length ≤ o.length, RowsEq (1 : Nat) o.length (fun i => RowT.enc (o.getD i (0 : Int))) fun i => RowT.enc (o.getD i (0 : Int)), q.length ≤ q.length, RowsEq (1 : Nat) q.length (fun i
    => RowT.enc (q.getD i (0 : Int))) fun i => RowT.enc (q.getD i (0 : Int))]) := by kernel_rfl
theorem picks_le (q : Nat → Bool) {k : Nat} : ∀ {n : Nat}, k ≤ n → (picks q k).length ≤ (picks q n).length
  | 0, h => by have : k = 0 := by omega
               subst this; exact Nat.le_refl _
  | n + 1, h => by
    rcases Nat.eq_or_lt_of_le h with rfl | h
    · exact Nat.le_refl _
    · have := picks_le q (k := k) (n := n) (by omega)
      simp only [picks]
      split <;> simp <;> omega
theorem picks_get (q : Nat → Bool) {k : Nat} (hq : q k = true) : ∀ {n : Nat}, k < n → (picks q k).length < (picks q n).length ∧ (picks q n).getD (picks q k).length 0 = (k : Int)
  | 0, h => by omega
  | n + 1, h => by
    rcases Nat.eq_or_lt_of_le (Nat.le_of_lt_succ h) with rfl | h
    · simp only [picks, hq]
      simp
    · obtain ⟨h1, h2⟩ := picks_get q hq (n := n) h
      simp only [picks]
      split
      · refine ⟨by simp; omega, ?_⟩
        rw [List.getD_eq_getElem?_getD, List.getElem?_append_left h1, ← List.getD_eq_getElem?_getD]; exact h2
      · exact ⟨h1, h2⟩
theorem fitsF_cases (p : Play) (a b : Edge) : fitsF p a b = 0 ∨ fitsF p a b = 1 ∨ fitsF p a b = 2 := by
  have v : ∀ t h, verd p t h = 0 ∨ verd p t h = 1 ∨ verd p t h = 2 := by
    intro t h
    rw [verd_eq]
    split
    · simp
    · split <;> simp
  unfold fitsF
  split
  · split
    · exact v _ _
    · simp
  · split
    · exact v _ _
    · simp
theorem l2_round (p : Play) (s : Edge) (l : Rw Edge) (n m : Nat) (e : Int) (hl : pickPre p s l) : RoundW (fun k : Nat => l2J p s l (picks (pickQ p s 2 l) l.n) (picks (pickQ p s 1 l) l.n) n m e (picks (pickQ p s 2 l) k).length (picks (pickQ p s 1 l) k).length k) (fun k => k ≤ l.n) (fun k => l.n - k) (fun _ x J => x = .exit 2 ∧ J = l2E (picks (pickQ p s 2 l) l.n) (picks (pickQ p s 1 l) l.n) n m e) 8 l2Ls [] (mkE Try.prog tab_mat) (fun _ => hnd (mkE Try.prog tab_mat) 0) (bodyK Try.f13 1) := by
  obtain ⟨h1, h2, h3, h4⟩ := hl
  refine ⟨fun k g hk => ⟨?_⟩⟩
  by_cases h : k < l.n
  · have hF : FitF p s (l.get k) = (fitsF p s (l.get k), 0) := by unfold FitF; rw [if_pos ⟨h1, h2, allN_get h3 h⟩]
    rw [l2_r, hF]
    have g2 := fun hq => picks_get (pickQ p s 2 l) (k := k) hq h
    have g1 := fun hq => picks_get (pickQ p s 1 l) (k := k) hq h
    have e2 : pickQ p s 2 l k = decide (fitsF p s (l.get k) ≥ 2) := rfl
    have e1 : pickQ p s 1 l k = decide (fitsF p s (l.get k) ≥ 1) := rfl
    have n2 := picks_len (pickQ p s 2 l) k
    have n1 := picks_len (pickQ p s 1 l) k
    have s2 : (picks (pickQ p s 2 l) (k + 1)) = (match pickQ p s 2 l k with | true => picks (pickQ p s 2 l) k ++ [(k : Int)] | false => picks (pickQ p s 2 l) k) := rfl
    have s1 : (picks (pickQ p s 1 l) (k + 1)) = (match pickQ p s 1 l k with | true => picks (pickQ p s 1 l) k ++ [(k : Int)] | false => picks (pickQ p s 1 l) k) := rfl
    have hw : IntKind.i64.wrap ((k : Int) + 1) = ((k + 1 : Nat) : Int) := (w64 (by omega) (by omega)).trans (by omega)
    have hv := fitsF_cases p s (l.get k)
    have fin : ∀ (i j : Int), i = ((picks (pickQ p s 2 l) (k + 1)).length : Int) → j = ((picks (pickQ p s 1 l) (k + 1)).length : Int) → GoesW (fun k : Nat => l2J p s l (picks (pickQ p s 2 l) l.n) (picks (pickQ p s 1 l) l.n) n m e (picks (pickQ p s 2 l) k).length (picks (pickQ p s 1 l) k).length k) (fun k => k ≤ l.n) (fun k => l.n - k) (fun _ x J => x = .exit 2 ∧ J = l2E (picks (pickQ p s 2 l) l.n) (picks (pickQ p s 1 l) l.n) n m e) 8 l2Ls k 162 [.ptr 8 0 0, .ptr 16 0 0, .slz 80 0 (picks (pickQ p s 2 l) l.n).length (.of 0), .slz 81 0 (picks (pickQ p s 1 l) l.n).length (.of 0), .slz 100 0 n (.of 0), .slz 101 0 m (.of 0), .int false .i64 e, .int false .i64 i, .int false .i64 j, .slz 2 0 l.n (.of 0), .int false .i64 l.n, .int false .i64 (IntKind.i64.wrap ((k : Int) + 1))] (ps16 p s ++ ([frzL 80 (picks (pickQ p s 2 l) l.n), frzL 81 (picks (pickQ p s 1 l) l.n)] ++ ArgE.blk 2 l)) := by
      intro i j hi hj
      refine ⟨k + 1, h, by show l.n - (k + 1) < l.n - k; omega, fun _ _ h => h, rfl, rfl, _, l2_go _ _ _ _ _ _ _ _ _ _ _ _ _ _, ?_⟩
      repeat' first | exact trivial | with_reducible rfl | exact Nat.le_refl _ | exact RowsEq.refl _ _ _ | exact hw | exact hi | exact hj | refine And.intro ?_ ?_
    generalize fitsF p s (l.get k) = v at e2 e1 hv ⊢
    refine den_br (fun _ => ?_) (fun hn => absurd (of_decide_eq_false hn) (by omega))
    refine den_need (by simp; omega) (den_need (by simp; omega) (den_need rfl (den_br (fun hn => by simp at hn) (fun _ => ?_))))
    rcases hv with rfl | rfl | rfl
    · refine den_br (fun hn => by simp at hn) (fun _ => den_br (fun hn => by simp at hn) (fun _ => ?_))
      exact fin _ _ (by rw [s2, e2]; rfl) (by rw [s1, e1]; rfl)
    · obtain ⟨a1, a2⟩ := g1 (by rw [e1]; rfl)
      refine den_br (fun hn => by simp at hn) (fun _ => den_br (fun _ => ?_) (fun hn => by simp at hn))
      refine den_br (fun hn => absurd (of_decide_eq_true hn) (by omega)) (fun _ => den_need (by simp; omega) (den_need (by simp; omega) (den_br (fun hn => by rw [a2] at hn; simp at hn) (fun _ => ?_))))
      exact fin _ _ (by rw [s2, e2]; rfl) (by rw [s1, e1]; simp; exact w64 (by omega) (by omega))
    · obtain ⟨a1, a2⟩ := g1 (by rw [e1]; rfl)
      obtain ⟨b1, b2⟩ := g2 (by rw [e2]; rfl)
      refine den_br (fun _ => ?_) (fun hn => by simp at hn)
      refine den_br (fun hn => absurd (of_decide_eq_true hn) (by omega)) (fun _ => den_need (by simp; omega) (den_need (by simp; omega) (den_br (fun hn => by rw [b2] at hn; simp at hn) (fun _ => ?_))))
      refine den_br (fun _ => ?_) (fun hn => by simp at hn)
      refine den_br (fun hn => absurd (of_decide_eq_true hn) (by omega)) (fun _ => den_need (by simp; omega) (den_need (by simp; omega) (den_br (fun hn => by rw [a2] at hn; simp at hn) (fun _ => ?_))))
      exact fin _ _ (by rw [s2, e2]; simp; exact w64 (by omega) (by omega)) (by rw [s1, e1]; simp; exact w64 (by omega) (by omega))
  · have ek : k = l.n := by omega
    subst ek
    rw [l2_r]
    refine den_br (fun hn => absurd (of_decide_eq_true hn) (by omega)) (fun _ => ?_)
    refine ⟨_, ⟨rfl, rfl⟩, rfl, rfl, _, l2_end _ _ _ _ _ _ _, ?_⟩
    repeat' first | exact trivial | with_reducible rfl | exact Nat.le_refl _ | exact RowsEq.refl _ _ _ | refine And.intro ?_ ?_
end Go.Proofs.Ytdaanchagjamfaa
/- The law FitLists, of the code. -/
namespace Go.SX
open Go Go.RowKit Go.Proofs.Ytdaanchagjamfaa

/-- The number of a code's first region. -/
def firstReg : Code → Option Nat
  | .region id _ _ => some id
  | .seq a b => (match firstReg a with
    | some x => some x
    | none => firstReg b)
  | .block _ a => firstReg a
  | .scope a => firstReg a
  | .loop a => firstReg a
  | _ => none
/-- By the loop's first region. -/
def byReg (l : List (Nat × (St → (Ex → St → Tree) → Tree))) (c : Code) : St → (Ex → St → Tree) → Tree := match firstReg c with
  | some r => (match l.find? (fun p => Nat.beq p.1 r) with
    | some p => p.2
    | none => fun _ _ => .fail "a loop that is not told")
  | none => fun _ _ => .fail "a loop without a region"
def askH (p : Prop) (L : St → (Ex → St → Tree) → Tree) (st : St) (K : Ex → St → Tree) : Tree := .ask p (L st K)
theorem askH_ok {E : Env} {G : Ctx} {c : Code} {p : Prop} {L : St → (Ex → St → Tree) → Tree} (h : p → CSound E G c L) : CSound E G c (askH p L) := by
  intro st K T Q a w hn hd hr hQ
  obtain ⟨h1, h2⟩ := (show p ∧ (L st K).den T from hd)
  exact h h1 st K T Q a w hn h2 hr hQ
theorem loops_ok {E : Env} (hE : E.Sound) {d : Nat} {G : Ctx} (hG : G.rd = none) {c : Code} {L : Code → St → (Ex → St → Tree) → Tree} (h : ∀ s ∈ loops c, CSound E G s (L s)) : HndOk E G { hnd E d with loop := L } c :=
  ⟨h, (hnd_hndOk hE d G c hG).call, (hnd_hndOk hE d G c hG).yield⟩
end Go.SX
namespace Go.Proofs.Ytdaanchagjamfaa
open Go.SX
def cnt (f : Nat → Bool) (n : Nat) : Nat := (picks f n).length
theorem cnt_succ (f : Nat → Bool) (n : Nat) : cnt f (n + 1) = cnt f n + (if f n = true then 1 else 0) := by
  unfold cnt
  simp only [picks]
  cases f n <;> simp
theorem cnt_congr {f g : Nat → Bool} : ∀ {n : Nat}, (∀ i, i < n → f i = g i) → cnt f n = cnt g n
  | 0, _ => rfl
  | n + 1, h => by rw [cnt_succ, cnt_succ, cnt_congr (fun i hi => h i (by omega)), h n (by omega)]
theorem cnt_shift (f : Nat → Bool) : ∀ m, cnt (fun i => f (i + 1)) m + (if f 0 = true then 1 else 0) = cnt f (m + 1)
  | 0 => by rw [cnt_succ]; simp [cnt, picks]
  | m + 1 => by
    rw [cnt_succ, cnt_succ f (m + 1), ← cnt_shift f m]
    omega
theorem cnt_rot1 (f : Nat → Bool) (n : Nat) : cnt (fun i => f ((i + 1) % n)) n = cnt f n := by
  cases n with
  | zero => rfl
  | succ m =>
    rw [cnt_succ, Nat.mod_self, ← cnt_shift f m]
    congr 1
    exact cnt_congr fun i hi => by rw [Nat.mod_eq_of_lt (by omega)]
theorem cnt_rot (f : Nat → Bool) (n : Nat) : ∀ t, cnt (fun i => f ((i + t) % n)) n = cnt f n
  | 0 => cnt_congr fun i hi => by rw [Nat.add_zero, Nat.mod_eq_of_lt hi]
  | t + 1 => by
    rw [← cnt_rot f n t, ← cnt_rot1 (fun i => f ((i + t) % n)) n]
    refine cnt_congr fun i _ => ?_
    congr 1
    rw [Nat.mod_add_mod]
    congr 1; omega
def turned (l : Rw Edge) (t : U8n) : Rw Edge := ⟨l.n, rot l t⟩
theorem turned_ok {p : Play} {s : Edge} {l : Rw Edge} {t : U8n} (h : matO p s l = true) : matO p s (turned l t) = true := by
  simp only [matO, Bool.and_eq_true] at h ⊢
  refine ⟨h.1, h.2.1, allN_of fun i hi => ?_⟩
  have hi : i < l.n := hi
  exact allN_get h.2.2 (Nat.mod_lt _ (by omega))
theorem turned_len (p : Play) (s : Edge) (j : Int) (l : Rw Edge) (t : U8n) : (picks (pickQ p s j (turned l t)) l.n).length = (picks (pickQ p s j l) l.n).length := cnt_rot (pickQ p s j l) l.n t.n.toNat
abbrev flL (p : Play) (s : Edge) (l : Rw Edge) (t : U8n) : Code → St → (Ex → St → Tree) → Tree := byReg [
  (8, askH (l.n ≤ 40) (loopT 8 [] (l1J p s l t (matL p s 2 l) (matL p s 1 l) 0) [(True, .exit 0, l1E p s l t (matL p s 2 l) (matL p s 1 l))])),
  (15, askH (pickPre p s l) (loopT 8 [] (l2J p s l (picks (pickQ p s 2 l) l.n) (picks (pickQ p s 1 l) l.n) (matL p s 2 (turned l t)).length (matL p s 1 (turned l t)).length (matE p s (turned l t)) 0 0 0) [(True, .exit 2, l2E (picks (pickQ p s 2 l) l.n) (picks (pickQ p s 1 l) l.n) (matL p s 2 (turned l t)).length (matL p s 1 (turned l t)).length (matE p s (turned l t)))]))]
theorem fl_hnd (p : Play) (s : Edge) (l : Rw Edge) (t : U8n) (ht : 0 ≤ t.n ∧ t.n ≤ 255) (G : Ctx) (hrd : G.rd = none) (hG : G.n = 8) : HndOk (mkE Try.prog tab_mat) G { hnd (mkE Try.prog tab_mat) 1 with loop := flL p s l t } (bodyOf Try.f13) := by
  refine loops_ok (mkE_ok tab_mat_ok) hrd fun c hc => ?_
  have e : loops (bodyOf Try.f13) = [.loop (bodyK Try.f13 0), .loop (bodyK Try.f13 1)] := by kernel_rfl
  rw [e] at hc
  simp only [List.mem_cons, List.not_mem_nil, or_false] at hc
  rcases hc with rfl | rfl
  · have e1 : flL p s l t (.loop (bodyK Try.f13 0)) = askH (l.n ≤ 40) (loopT 8 [] (l1J p s l t (matL p s 2 l) (matL p s 1 l) 0) [(True, .exit 0, l1E p s l t (matL p s 2 l) (matL p s 1 l))]) := by kernel_rfl
    rw [e1]
    refine askH_ok fun h40 => ?_
    refine loopT_ok (n0 := 8) (mkE_ok tab_mat_ok) (by omega) (fun s hs => hnd_hndOk (mkE_ok tab_mat_ok) 0 G _ hrd) (fun s hs => (by decide : 8 ≤ 96)) ?_ (l1_round p s l t _ _ ht h40) (s0 := 0) (Nat.zero_le _) ?_
    · rintro s e J ⟨_, rfl⟩; exact (by decide : 8 ≤ 96)
    · rintro e J ⟨rfl, rfl⟩
      exact ⟨_, List.mem_cons_self, trivial, rfl, rfl⟩
  · have e1 : flL p s l t (.loop (bodyK Try.f13 1)) = askH (pickPre p s l) (loopT 8 [] (l2J p s l (picks (pickQ p s 2 l) l.n) (picks (pickQ p s 1 l) l.n) (matL p s 2 (turned l t)).length (matL p s 1 (turned l t)).length (matE p s (turned l t)) 0 0 0) [(True, .exit 2, l2E (picks (pickQ p s 2 l) l.n) (picks (pickQ p s 1 l) l.n) (matL p s 2 (turned l t)).length (matL p s 1 (turned l t)).length (matE p s (turned l t)))]) := by kernel_rfl
    rw [e1]
    refine askH_ok fun hp => ?_
    refine loopT_ok (n0 := 8) (mkE_ok tab_mat_ok) (by omega) (fun s hs => hnd_hndOk (mkE_ok tab_mat_ok) 0 G _ hrd) (fun s hs => (by decide : 8 ≤ 104)) ?_ (l2_round p s l _ _ _ hp) (s0 := 0) (Nat.zero_le _) ?_
    · rintro s e J ⟨_, rfl⟩; exact (by decide : 8 ≤ 104)
    · rintro e J ⟨rfl, rfl⟩
      exact ⟨_, List.mem_cons_self, trivial, rfl, rfl⟩
def flF : WF (Play × Edge × (Rw Edge) × U8n × Unit) := fun | (p, (s, (l, (t, _)))) => (decide (0 ≤ t.n ∧ t.n ≤ 255), .bool false true, [])
def flC : FC := wFC flF
set_option maxRecDepth 100000 in
theorem fl_t (p : Play) (s : Edge) (l : (Rw Edge)) (t : U8n) : execW (mkE Try.prog tab_mat) { hnd (mkE Try.prog tab_mat) 1 with loop := flL p s l t } Try.f13 (ArgsE.vals 0 ((p, s, l, t, ()) : Play × Edge × (Rw Edge) × U8n × Unit)) (ArgsE.blks 0 ((p, s, l, t, ()) : Play × Edge × (Rw Edge) × U8n × Unit)) 8 =
    Tree.br (decide ((↑l.n : Int) > (50 : Int))) (Tree.leaf (AV.bool true true) []) (Tree.need (true && (true && (decide (l.n ≤ l.n) && true)) && decide (l.n ≤ (1000 : Nat))) (Tree.br
    (matE p s l != (0 : Int)) (Tree.br (matE p s l != (0 : Int)) (Tree.br ((↑(matL p s (2 : Int) l).length : Int) == (0 : Int)) (Tree.br ((↑(matL p s (1 : Int) l).length : Int) == (0 :
    Int)) (Tree.leaf (AV.bool true true) []) (Tree.leaf (AV.bool true false) [])) (Tree.leaf (AV.bool true false) [])) (Tree.leaf (AV.bool true false) [])) (Tree.br (decide ((↑l.n :
    Int) > (40 : Int))) (Tree.br (matE p s l != (0 : Int)) (Tree.br ((↑(matL p s (2 : Int) l).length : Int) == (0 : Int)) (Tree.br ((↑(matL p s (1 : Int) l).length : Int) == (0 : Int))
    (Tree.leaf (AV.bool true true) []) (Tree.leaf (AV.bool true false) [])) (Tree.leaf (AV.bool true false) [])) (Tree.leaf (AV.bool true false) [])) (Tree.ask (l.n ≤ (40 : Nat))
    (Tree.ask ((0 : Nat) = (0 : Nat)) (Tree.ask (l.n = l.n) (Tree.ask (Cap.of (0 : Nat) = Cap.of (0 : Nat)) (Tree.ask (t.n = t.n) (Tree.ask ((0 : Nat) = (0 : Nat)) (Tree.ask ((0 : Nat)
    = (0 : Nat)) (Tree.ask ((0 : Nat) = (0 : Nat)) (Tree.ask ((0 : Nat) = (0 : Nat)) (Tree.ask ((0 : Nat) = (0 : Nat)) (Tree.ask ((matL p s (2 : Int) l).length = (matL p s (2 : Int)
    l).length) (Tree.ask (Cap.of (0 : Nat) = Cap.of (0 : Nat)) (Tree.ask ((0 : Nat) = (0 : Nat)) (Tree.ask ((matL p s (1 : Int) l).length = (matL p s (1 : Int) l).length) (Tree.ask
    (Cap.of (0 : Nat) = Cap.of (0 : Nat)) (Tree.ask ((0 : Nat) = (0 : Nat)) (Tree.ask ((↑l.n : Int) = (↑l.n : Int)) (Tree.ask ((0 : Int) = (0 : Int)) (Tree.ask (p.length = p.length)
    (Tree.ask (p.slack = p.slack) (Tree.ask (p.loose = p.loose) (Tree.ask (p.damp.lo = p.damp.lo) (Tree.ask (p.damp.hi = p.damp.hi) (Tree.ask (s.kind = s.kind) (Tree.ask (s.at_.lo =
    s.at_.lo) (Tree.ask (s.at_.hi = s.at_.hi) (Tree.ask (s.wide.lo = s.wide.lo) (Tree.ask (s.wide.hi = s.wide.hi) (Tree.ask (s.deep.lo = s.deep.lo) (Tree.ask (s.deep.hi = s.deep.hi)
    (Tree.ask ((matL p s (2 : Int) l).length ≤ (matL p s (2 : Int) l).length) (Tree.ask (RowsEq (1 : Nat) (matL p s (2 : Int) l).length (fun i => RowT.enc ((matL p s (2 : Int) l).getD i
    (0 : Int))) fun i => RowT.enc ((matL p s (2 : Int) l).getD i (0 : Int))) (Tree.ask ((matL p s (1 : Int) l).length ≤ (matL p s (1 : Int) l).length) (Tree.ask (RowsEq (1 : Nat) (matL
    p s (1 : Int) l).length (fun i => RowT.enc ((matL p s (1 : Int) l).getD i (0 : Int))) fun i => RowT.enc ((matL p s (1 : Int) l).getD i (0 : Int))) (Tree.ask ((0 : Nat) = (0 : Nat))
    (Tree.ask (l.n ≤ l.n) (Tree.ask (RowsEq (7 : Nat) l.n (fun i => RowT.enc (l.get i)) fun i => RowT.enc (l.get i)) (Tree.asm True (Tree.all fun g0 => Tree.need (true && (true &&
    (decide (l.n ≤ l.n) && true)) && decide (l.n ≤ (1000 : Nat))) (Tree.ask (pickPre p s l) (Tree.ask ((0 : Nat) = (0 : Nat)) (Tree.ask ((0 : Nat) = (0 : Nat)) (Tree.ask ((0 : Nat) = (0
    : Nat)) (Tree.ask ((0 : Nat) = (0 : Nat)) (Tree.ask ((0 : Nat) = (0 : Nat)) (Tree.ask ((matL p s (2 : Int) l).length = (picks (pickQ p s (2 : Int) l) l.n).length) (Tree.ask (Cap.of
    (0 : Nat) = Cap.of (0 : Nat)) (Tree.ask ((0 : Nat) = (0 : Nat)) (Tree.ask ((matL p s (1 : Int) l).length = (picks (pickQ p s (1 : Int) l) l.n).length) (Tree.ask (Cap.of (0 : Nat) =
    Cap.of (0 : Nat)) (Tree.ask ((0 : Nat) = (0 : Nat)) (Tree.ask ((matL p s (2 : Int) (Rw.mk l.n (rot l t))).length = (matL p s (2 : Int) (turned l t)).length) (Tree.ask (Cap.of (0 :
    Nat) = Cap.of (0 : Nat)) (Tree.ask ((0 : Nat) = (0 : Nat)) (Tree.ask ((matL p s (1 : Int) (Rw.mk l.n (rot l t))).length = (matL p s (1 : Int) (turned l t)).length) (Tree.ask (Cap.of
    (0 : Nat) = Cap.of (0 : Nat)) (Tree.ask (matE p s (Rw.mk l.n (rot l t)) = matE p s (turned l t)) (Tree.ask ((0 : Int) = (0 : Int)) (Tree.ask ((0 : Int) = (0 : Int)) (Tree.ask ((0 :
    Nat) = (0 : Nat)) (Tree.ask (l.n = l.n) (Tree.ask (Cap.of (0 : Nat) = Cap.of (0 : Nat)) (Tree.ask ((↑l.n : Int) = (↑l.n : Int)) (Tree.ask ((0 : Int) = (0 : Int)) (Tree.ask (p.length
    = p.length) (Tree.ask (p.slack = p.slack) (Tree.ask (p.loose = p.loose) (Tree.ask (p.damp.lo = p.damp.lo) (Tree.ask (p.damp.hi = p.damp.hi) (Tree.ask (s.kind = s.kind) (Tree.ask
    (s.at_.lo = s.at_.lo) (Tree.ask (s.at_.hi = s.at_.hi) (Tree.ask (s.wide.lo = s.wide.lo) (Tree.ask (s.wide.hi = s.wide.hi) (Tree.ask (s.deep.lo = s.deep.lo) (Tree.ask (s.deep.hi =
    s.deep.hi) (Tree.ask ((picks (pickQ p s (2 : Int) l) l.n).length ≤ (matL p s (2 : Int) l).length) (Tree.ask (RowsEq (1 : Nat) (picks (pickQ p s (2 : Int) l) l.n).length (fun i =>
    RowT.enc ((matL p s (2 : Int) l).getD i (0 : Int))) fun i => RowT.enc ((picks (pickQ p s (2 : Int) l) l.n).getD i (0 : Int))) (Tree.ask ((picks (pickQ p s (1 : Int) l) l.n).length ≤
    (matL p s (1 : Int) l).length) (Tree.ask (RowsEq (1 : Nat) (picks (pickQ p s (1 : Int) l) l.n).length (fun i => RowT.enc ((matL p s (1 : Int) l).getD i (0 : Int))) fun i => RowT.enc
    ((picks (pickQ p s (1 : Int) l) l.n).getD i (0 : Int))) (Tree.ask (l.n ≤ l.n) (Tree.ask (RowsEq (7 : Nat) l.n (fun i => RowT.enc (l.get i)) fun i => RowT.enc (l.get i)) (Tree.asm
    True (Tree.all fun g1 => Tree.br ((↑(picks (pickQ p s (2 : Int) l) l.n).length : Int) == (↑(picks (pickQ p s (2 : Int) l) l.n).length : Int)) (Tree.br ((↑(picks (pickQ p s (1 : Int)
    l) l.n).length : Int) == (↑(picks (pickQ p s (1 : Int) l) l.n).length : Int)) (Tree.br (matE p s (turned l t) == (0 : Int)) (Tree.br ((↑(matL p s (2 : Int) (turned l t)).length :
    Int) == (↑(picks (pickQ p s (2 : Int) l) l.n).length : Int)) (Tree.br ((↑(matL p s (1 : Int) (turned l t)).length : Int) == (↑(picks (pickQ p s (1 : Int) l) l.n).length : Int))
    (Tree.leaf (AV.bool true true) []) (Tree.leaf (AV.bool true false) [])) (Tree.leaf (AV.bool true false) [])) (Tree.leaf (AV.bool true false) [])) (Tree.leaf (AV.bool true false)
    [])) (Tree.leaf (AV.bool true false) [])))))))))))))))))))))))))))))))))))))))))))))))))))))))))))))))))))))))))))))))))))))))) := by kernel_rfl
theorem fl_hs : WHnd (mkE Try.prog tab_mat) (bodyOf Try.f13) 8 flF (fun x_ => { hnd (mkE Try.prog tab_mat) 1 with loop := flL x_.1 x_.2.1 x_.2.2.1 x_.2.2.2.1 }) := by
  refine ⟨?_⟩
  rintro ⟨p, ⟨s, ⟨l, ⟨t, ⟨⟩⟩⟩⟩⟩ hp G h1 h2
  exact fl_hnd p s l t (of_decide_eq_true hp) G h1 h2
theorem fl_run : WRun (mkE Try.prog tab_mat) Try.f13 8 flF (fun x_ => { hnd (mkE Try.prog tab_mat) 1 with loop := flL x_.1 x_.2.1 x_.2.2.1 x_.2.2.2.1 }) := by
  refine ⟨?_⟩
  rintro ⟨p, ⟨s, ⟨l, ⟨t, ⟨⟩⟩⟩⟩⟩ hp
  refine ⟨⟨rfl, by simp [flF], rfl⟩, ⟨?_⟩⟩
  rw [fl_t p s l t]
  simp only [flF] at hp
  have yes : (Tree.leaf (AV.bool true true) []).den (EndOk 8 (flF (p, s, l, t, ())).2.1 (flF (p, s, l, t, ())).2.2) := endOk_same rfl rfl
  refine den_br (fun _ => yes) (fun h50 => ?_)
  have h50 : l.n ≤ 50 := by have := of_decide_eq_false h50; omega
  refine den_need (by simp; omega) ?_
  by_cases hB : matO p s l = true ∧ l.n ≤ 40
  · obtain ⟨hO, h40⟩ := hB
    have k : ∀ j, matL p s j l = picks (pickQ p s j l) l.n := fun j => by simp only [matL, hO, decide_eq_true h40]; rfl
    have kE : matE p s l = 0 := by simp only [matE, hO, decide_eq_false (show ¬ l.n > 40 by omega)]
    have tO := turned_ok (t := t) hO
    have kt : ∀ j, matL p s j (turned l t) = picks (pickQ p s j (turned l t)) l.n := fun j => by simp only [matL, tO, decide_eq_true (show (turned l t).n ≤ 40 from h40)]; rfl
    have tE : matE p s (turned l t) = 0 := by simp only [matE, tO, decide_eq_false (show ¬ (turned l t).n > 40 from by show ¬ l.n > 40; omega)]
    have hpre : pickPre p s l := by
      simp only [matO, Bool.and_eq_true] at hO
      exact ⟨hO.1, hO.2.1, hO.2.2, by omega⟩
    rw [k 2, k 1, kE]
    refine den_br (fun hn => by simp at hn) (fun _ => den_br (fun hn => absurd (of_decide_eq_true hn) (by omega)) (fun _ => den_ask h40 ?_))
    repeat' first | refine den_ask (by with_reducible rfl) ?_ | refine den_ask (Nat.le_refl _) ?_ | refine den_ask (RowsEq.refl _ _ _) ?_
    refine den_asm fun _ => den_all fun g => den_need (by simp; omega) (den_ask hpre ?_)
    repeat' first | refine den_ask (by with_reducible rfl) ?_ | refine den_ask (Nat.le_refl _) ?_ | refine den_ask (RowsEq.refl _ _ _) ?_ | refine den_ask rfl ?_
    refine den_asm fun _ => den_all fun g => ?_
    refine den_br (fun _ => den_br (fun _ => den_br (fun _ => den_br (fun _ => den_br (fun _ => yes) (fun hn => ?_)) (fun hn => ?_)) (fun hn => ?_)) (fun hn => ?_)) (fun hn => ?_)
    · rw [kt 1, turned_len] at hn; simp at hn
    · rw [kt 2, turned_len] at hn; simp at hn
    · rw [tE] at hn; simp at hn
    · simp at hn
    · simp at hn
  · have kL : ∀ j, matL p s j l = [] := fun j => by
      have : (matO p s l && decide (l.n ≤ 40)) = false := by
        cases hO : matO p s l with
        | false => rfl
        | true => simp; have : ¬ l.n ≤ 40 := fun h => hB ⟨hO, h⟩
                  omega
      simp only [matL, this]
    have kE : matE p s l ≠ 0 := by
      cases hO : matO p s l with
      | false => simp [matE, hO]
      | true =>
        have : l.n > 40 := by have : ¬ l.n ≤ 40 := fun h => hB ⟨hO, h⟩
                              omega
        simp only [matE, hO, decide_eq_true this]; decide
    rw [kL 2, kL 1]
    refine den_br (fun _ => den_br (fun _ => den_br (fun _ => den_br (fun _ => yes) (fun hn => by simp at hn)) (fun hn => by simp at hn)) (fun hn => ?_)) (fun hn => ?_)
    · simp at hn; exact absurd hn kE
    · simp at hn; exact absurd hn kE
theorem fl_s : FSound Try.prog 13 flC :=
  fn_W (mkE_ok tab_mat_ok) Try.func13 (by kernel_rfl) (by kernel_rfl) (by decide) fl_hs fl_run
def tab_fl : Tab := addF tab_mat 13 flC
theorem tab_fl_ok : TabOk tab_fl := tab_mat_ok.add fl_s
end Go.Proofs.Ytdaanchagjamfaa
/- Are two lists the same? -/
namespace Go.Proofs.Ytdaanchagjamfaa
open Go.SX
def neI (a b : Rw Int) (i : Nat) : Bool := a.get i != b.get i
def sameI (a b : Rw Int) : Bool := ((a.n : Int) == b.n) && (firstN (neI a b) a.n 0).isNone
def intJ (a b : Rw Int) (k : Nat) : JSt := ⟨26, [(0, .slz 0 0 a.n (.of 0)), (1, .slz 1 0 b.n (.of 0)), (5, .int false .i64 k)], ArgE.blk 0 a ++ ArgE.blk 1 b, 8⟩
def intLs : Ex → List Nat
  | .normal => [0, 1, 5]
  | .exit _ => []
  | .ret => [4]
set_option maxRecDepth 100000 in
theorem int_r (a b : Rw Int) (k : Nat) (g : Nat → Value) : exec (mkE Try.prog tab_pairs) (hnd (mkE Try.prog tab_pairs) 0) (bodyK Try.f28 0) (JSt.inst (intJ a b k) g) (leafW [] intLs) =
    Tree.br (decide ((↑k : Int) < (↑a.n : Int))) (Tree.need (decide ((0 : Int) ≤ (↑k : Int) ∧ (↑k : Int) < (↑a.n : Int)) && decide (a.n ≤ a.n)) (Tree.need (decide (k < a.n)) (Tree.need
    (decide ((0 : Int) ≤ (↑k : Int) ∧ (↑k : Int) < (↑b.n : Int)) && decide (b.n ≤ b.n)) (Tree.need (decide (k < b.n)) (Tree.br (a.get k != b.get k) (Tree.leaf (AV.tup [AV.nili, AV.ptr
    (26 : Nat) (0 : Nat) (0 : Nat), AV.bool true false]) ([])) (Tree.leaf (AV.tup [AV.nilp, AV.ptr (26 : Nat) (0 : Nat) (0 : Nat), AV.slz (0 : Nat) (0 : Nat) a.n (Cap.of (0 : Nat)),
    AV.slz (1 : Nat) (0 : Nat) b.n (Cap.of (0 : Nat)), AV.int false IntKind.i64 (IntKind.i64.wrap ((↑k : Int) + (1 : Int)))]) ([((0 : Nat), Blk.frz [CK.int IntKind.i64] a.n fun i =>
    RowT.enc (a.get i)), ((1 : Nat), Blk.frz [CK.int IntKind.i64] b.n fun i => RowT.enc (b.get i))]))))))) (Tree.leaf (AV.tup [AV.ptr (0 : Nat) (0 : Nat) (0 : Nat), AV.ptr (26 : Nat) (0
    : Nat) (0 : Nat)]) ([])) := by kernel_rfl
def intRet : JSt := ⟨26, [(4, .bool false false)], [], 8⟩
def intEnd : JSt := ⟨26, [], [], 8⟩
def intR (a b : Rw Int) (k : Nat) (e : Ex) (J : JSt) : Prop := (e = .ret ∧ (firstN (neI a b) (a.n - k) k).isNone = false ∧ J = intRet) ∨ (e = .exit 0 ∧ (firstN (neI a b) (a.n - k) k).isNone = true ∧ J = intEnd)
set_option maxRecDepth 100000 in
theorem int_ret  : subE 8 [AV.bool true false] ([]) intRet = (
    some [false = false]) := by kernel_rfl
set_option maxRecDepth 100000 in
theorem int_go (a b : Rw Int) (k k' : Nat) : subE 8 [AV.slz (0 : Nat) (0 : Nat) a.n (Cap.of (0 : Nat)), AV.slz (1 : Nat) (0 : Nat) b.n (Cap.of (0 : Nat)), AV.int false IntKind.i64 (IntKind.i64.wrap ((↑k : Int) + (1 : Int)))] ([((0 : Nat), Blk.frz [CK.int IntKind.i64] a.n fun i => RowT.enc (a.get i)), ((1 : Nat), Blk.frz [CK.int IntKind.i64] b.n fun i => RowT.enc (b.get i))]) (intJ a b k') = (
    some [(0 : Nat) = (0 : Nat), a.n = a.n, Cap.of (0 : Nat) = Cap.of (0 : Nat), (0 : Nat) = (0 : Nat), b.n = b.n, Cap.of (0 : Nat) = Cap.of (0 : Nat), IntKind.i64.wrap ((↑k : Int) + (1
    : Int)) = (↑k' : Int), a.n ≤ a.n, RowsEq (1 : Nat) a.n (fun i => RowT.enc (a.get i)) fun i => RowT.enc (a.get i), b.n ≤ b.n, RowsEq (1 : Nat) b.n (fun i => RowT.enc (b.get i)) fun i
    => RowT.enc (b.get i)]) := by kernel_rfl
set_option maxRecDepth 100000 in
theorem int_end  : subE 8 [] ([]) intEnd = (
    some []) := by kernel_rfl
set_option maxRecDepth 100000 in
theorem int_round (a b : Rw Int) (hl : a.n = b.n ∧ a.n ≤ 1000) : RoundW (intJ a b) (fun k => k ≤ a.n) (fun k => a.n - k) (intR a b) 8 intLs [] (mkE Try.prog tab_pairs) (fun _ => hnd (mkE Try.prog tab_pairs) 0) (bodyK Try.f28 0) := by
  obtain ⟨hab, hl⟩ := hl
  refine ⟨fun k g hk => ⟨den_of (int_r a b k g) ?_⟩⟩
  refine den_br (fun h => ?_) (fun h => ?_)
  · have h : k < a.n := by have := of_decide_eq_true h; omega
    obtain ⟨m, hm⟩ : ∃ m, a.n - k = m + 1 := ⟨a.n - k - 1, by omega⟩
    have hm' : a.n - (k + 1) = m := by omega
    repeat' refine den_need (by simp; omega) ?_
    refine den_br (fun hb => ?_) (fun hb => ?_)
    · have hf : firstN (neI a b) (a.n - k) k = some k := by rw [hm, firstN]; unfold neI; rw [hb]
      exact ⟨_, .inl ⟨rfl, by rw [hf]; rfl, rfl⟩, rfl, rfl, _, int_ret, ⟨rfl, trivial⟩⟩
    · have hf : firstN (neI a b) (a.n - k) k = firstN (neI a b) (a.n - (k + 1)) (k + 1) := by rw [hm, hm', firstN]; unfold neI; rw [hb]
      refine ⟨k + 1, by omega, by show a.n - (k + 1) < a.n - k; omega, fun e J h => by unfold intR at h ⊢; rw [hf]; exact h, rfl, rfl, _, int_go _ _ _ (k + 1), ?_⟩
      have hw : IntKind.i64.wrap ((k : Int) + 1) = ((k + 1 : Nat) : Int) := (w64 (by omega) (by omega)).trans (by omega)
      repeat' first | exact trivial | with_reducible rfl | exact Nat.le_refl _ | exact RowsEq.refl _ _ _ | exact hw | refine And.intro ?_ ?_
  · have h : a.n ≤ k := by have := of_decide_eq_false h; omega
    have hf : firstN (neI a b) (a.n - k) k = none := by rw [show a.n - k = 0 by omega]; rfl
    exact ⟨_, .inr ⟨rfl, by rw [hf]; rfl, rfl⟩, rfl, rfl, _, int_end, trivial⟩
def intX (a b : Rw Int) : List (Prop × Ex × JSt) := [((firstN (neI a b) a.n 0).isNone = false, .ret, intRet), ((firstN (neI a b) a.n 0).isNone = true, .exit 0, intEnd)]
abbrev intH (P : Program) (a b : Rw Int) : Hnd := { hnd (mkE P tab_pairs) 1 with loop := fun _ => askH (a.n = b.n ∧ a.n ≤ 1000) (loopT 8 [] (intJ a b 0) (intX a b)) }
theorem int_hnd (a b : Rw Int) (G : Ctx) (hrd : G.rd = none) (hG : G.n = 8) : HndOk (mkE Try.prog tab_pairs) G (intH Try.prog a b) (bodyOf Try.f28) := by
  refine one_loop (body := bodyK Try.f28 0) (mkE_ok tab_pairs_ok) hrd (by kernel_rfl) ?_
  refine askH_ok fun hl => ?_
  refine loopT_ok (n0 := 8) (mkE_ok tab_pairs_ok) (by omega) (fun s hs => hnd_hndOk (mkE_ok tab_pairs_ok) 0 G _ hrd) (fun s hs => Nat.le_refl _) ?_ (int_round a b hl) (s0 := 0) (Nat.zero_le _) ?_
  · rintro s e J (⟨_, _, rfl⟩ | ⟨_, _, rfl⟩) <;> exact Nat.le_refl _
  · rintro e J (⟨rfl, h, rfl⟩ | ⟨rfl, h, rfl⟩)
    · exact ⟨_, List.mem_cons_self, h, rfl, rfl⟩
    · exact ⟨_, List.mem_cons_of_mem _ List.mem_cons_self, h, rfl, rfl⟩
def intsF : WF ((Rw Int) × (Rw Int) × Unit) := fun | (a, (b, _)) => (decide (a.n ≤ 1000 ∧ b.n ≤ 1000), .bool false (sameI a b), [])
def intsC : FC := wFC intsF
set_option maxRecDepth 100000 in
theorem ints_t (a : (Rw Int)) (b : (Rw Int)) : execW (mkE Try.prog tab_pairs) (intH Try.prog a b) Try.f28 (ArgsE.vals 0 ((a, b, ()) : (Rw Int) × (Rw Int) × Unit)) (ArgsE.blks 0 ((a, b, ()) : (Rw Int) × (Rw Int) × Unit)) 8 =
    Tree.br ((↑a.n : Int) != (↑b.n : Int)) (Tree.leaf (AV.bool true false) ([])) (Tree.ask (a.n = b.n ∧ a.n ≤ (1000 : Nat)) (Tree.ask ((0 : Nat) = (0 : Nat)) (Tree.ask (a.n = a.n)
    (Tree.ask (Cap.of (0 : Nat) = Cap.of (0 : Nat)) (Tree.ask ((0 : Nat) = (0 : Nat)) (Tree.ask (b.n = b.n) (Tree.ask (Cap.of (0 : Nat) = Cap.of (0 : Nat)) (Tree.ask ((0 : Int) = (0 :
    Int)) (Tree.ask (a.n ≤ a.n) (Tree.ask (RowsEq (1 : Nat) a.n (fun i => RowT.enc (a.get i)) fun i => RowT.enc (a.get i)) (Tree.ask (b.n ≤ b.n) (Tree.ask (RowsEq (1 : Nat) b.n (fun i
    => RowT.enc (b.get i)) fun i => RowT.enc (b.get i)) (Tree.both (Tree.asm ((firstN (neI a b) a.n (0 : Nat)).isNone = false) (Tree.all (fun (g0 : Nat → Value) => Tree.leaf (AV.bool
    false false) ([])))) (Tree.asm ((firstN (neI a b) a.n (0 : Nat)).isNone = true) (Tree.all (fun (g1 : Nat → Value) => Tree.leaf (AV.bool true true) ([]))))))))))))))))) := by kernel_rfl
theorem ints_hs : WHnd (mkE Try.prog tab_pairs) (bodyOf Try.f28) 8 intsF (fun x_ => (intH Try.prog x_.1 x_.2.1)) := by
  refine ⟨?_⟩
  rintro ⟨a, ⟨b, ⟨⟩⟩⟩ hp G h1 h2
  exact int_hnd a b G h1 h2
theorem ints_run : WRun (mkE Try.prog tab_pairs) Try.f28 8 intsF (fun x_ => (intH Try.prog x_.1 x_.2.1)) := by
  refine ⟨?_⟩
  rintro ⟨a, ⟨b, ⟨⟩⟩⟩ hp
  refine ⟨⟨rfl, by simp [intsF], rfl⟩, ⟨?_⟩⟩
  rw [ints_t a b]
  simp only [intsF] at hp
  have hp := of_decide_eq_true hp
  refine den_br (fun h => endOk_same ?_ rfl) (fun h => ?_)
  · have : ((a.n : Int) == b.n) = false := by simpa using h
    show false = sameI a b
    simp only [sameI, this]; rfl
  · have hab : a.n = b.n := by simp only [bne_eq_false_iff_eq] at h; omega
    have e : ((a.n : Int) == b.n) = true := by rw [hab]; simp
    refine den_ask ⟨hab, hp.1⟩ ?_
    repeat' first | refine den_ask (show _ = _ by with_reducible rfl) ?_ | refine den_ask (show _ ≤ _ from Nat.le_refl _) ?_ | refine den_ask (show RowsEq _ _ _ _ from RowsEq.refl _ _ _) ?_
    refine den_both (den_asm fun h => den_all fun g => ?_) (den_asm fun h => den_all fun g => ?_)
    · exact endOk_same (show _ = sameI a b by simp only [sameI, e, h]; rfl) rfl
    · exact endOk_same (show _ = sameI a b by simp only [sameI, e, h]; rfl) rfl
theorem ints_s : FSound Try.prog 28 intsC :=
  fn_W (mkE_ok tab_pairs_ok) Try.func28 (by kernel_rfl) (by kernel_rfl) (by decide) ints_hs ints_run
def tab_ints : Tab := addF tab_pairs 28 intsC
theorem tab_ints_ok : TabOk tab_ints := tab_pairs_ok.add ints_s
theorem firstN_same {p : Nat → Bool} {n : Nat} (h : ∀ i, i < n → p i = false) : (firstN p n 0).isNone = true := by
  rw [firstN_all (fun i _ hi => h i (by omega))]; rfl
theorem sameI_of {a b : Rw Int} (h : a.n = b.n) (hg : ∀ i, i < a.n → a.get i = b.get i) : sameI a b = true := by
  unfold sameI
  rw [firstN_same (fun i hi => by simp only [neI, hg i hi, bne_self_eq_false]), h]; simp
theorem sameI_iff {a b : Rw Int} (h : sameI a b = true) : a.n = b.n ∧ ∀ i, i < a.n → a.get i = b.get i := by
  unfold sameI at h
  simp only [Bool.and_eq_true, beq_iff_eq, Option.isNone_iff_eq_none] at h
  refine ⟨by omega, fun i hi => ?_⟩
  have := firstN_none h.2 i (Nat.zero_le _) (by omega)
  simpa [neI] using this
end Go.Proofs.Ytdaanchagjamfaa
