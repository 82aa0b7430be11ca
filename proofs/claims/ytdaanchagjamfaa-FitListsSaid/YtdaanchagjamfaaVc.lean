/- The law FitLists. -/
import Derived.Test.YtdaanchagjamfaaVb
namespace Go.Proofs.Ytdaanchagjamfaa
open Go.SX

/-- A short number, as it comes in. -/
structure U8n where
  n : Int
instance : Enc U8n where
  enc x := .int false .u8 x.n
  dec v := match v with
    | .int _ .u8 n => some ⟨n⟩
    | _ => none
  ok v x h := by
    split at h <;> (try (cases h; done))
    simp only [Option.some.injEq] at h; subst h; exact ⟨fun _ => rfl, rfl⟩
def frzL (k : Nat) (o : List Int) : Nat × Blk := (k, .frz [.int .i64] o.length fun i => RowT.enc (o.getD i 0))
def rot (l : Rw Edge) (t : U8n) (i : Nat) : Edge := l.get ((i + t.n.toNat) % l.n)
def ps16 (p : Play) (s : Edge) : List (Nat × Blk) := [(8, .cells 0 25 (Enc.enc p).cells), (16, .cells 0 27 (Enc.enc s).cells)]
def l1J (p : Play) (s : Edge) (l : Rw Edge) (t : U8n) (o q : List Int) (k : Nat) : JSt :=
  ⟨162, [(2, .slz 2 0 l.n (.of 0)), (3, Enc.enc t), (4, .ptr 8 0 0), (5, .ptr 16 0 0), (9, .slz 80 0 o.length (.of 0)), (10, .slz 81 0 q.length (.of 0)), (12, .slz 24 0 k (.of 0)), (58, .int false .i64 l.n), (59, .int false .i64 k)],
    ps16 p s ++ ([frzL 80 o, frzL 81 q, (24, .rowz true 27 (RowT.ks Edge) k fun i => RowT.enc (rot l t i))] ++ ArgE.blk 2 l), 96⟩
def l1Ls : Ex → List Nat
  | .normal => [2, 3, 4, 5, 9, 10, 12, 58, 59]
  | _ => [2, 4, 5, 9, 10, 12]
set_option maxRecDepth 100000 in
theorem l1_r (p : Play) (s : Edge) (l : Rw Edge) (t : U8n) (o q : List Int) (k : Nat) (g : Nat → Value) : exec (mkE Try.prog tab_mat) (hnd (mkE Try.prog tab_mat) 0) (bodyK Try.f13 0) (JSt.inst (l1J p s l t o q k) g) (leafW [] l1Ls) =
    Tree.br (decide ((↑k : Int) < (↑l.n : Int))) (Tree.need (!decide ((↑l.n : Int) = (0 : Int))) (Tree.need (decide ((0 : Int) ≤ (IntKind.i64.wrap ((↑k : Int) + IntKind.i64.wrap
    t.n)).tmod (↑l.n : Int) ∧ (IntKind.i64.wrap ((↑k : Int) + IntKind.i64.wrap t.n)).tmod (↑l.n : Int) < (↑l.n : Int)) && decide (l.n ≤ l.n)) (Tree.need (decide (((IntKind.i64.wrap ((↑k
    : Int) + IntKind.i64.wrap t.n)).tmod (↑l.n : Int)).toNat < l.n)) (Tree.need (decide (k ≤ k) && (true && decide ((k + (1 : Nat) + (k + (1 : Nat)) / (4 : Nat) + (192 : Nat)) * (56 :
    Nat) ≤ (281474976710656 : Nat) ∧ k + (1 : Nat) ≤ (9223372036854775807 : Nat)))) (Tree.leaf (AV.tup [AV.nilp, AV.ptr (162 : Nat) (0 : Nat) (0 : Nat), AV.slz (2 : Nat) (0 : Nat) l.n
    (Cap.of (0 : Nat)), AV.int false IntKind.u8 t.n, AV.ptr (8 : Nat) (0 : Nat) (0 : Nat), AV.ptr (16 : Nat) (0 : Nat) (0 : Nat), AV.slz (80 : Nat) (0 : Nat) o.length (Cap.of (0 :
    Nat)), AV.slz (81 : Nat) (0 : Nat) q.length (Cap.of (0 : Nat)), AV.slz (216 : Nat) (0 : Nat) (k + (1 : Nat)) (Cap.of (0 : Nat)), AV.int false IntKind.i64 (↑l.n : Int), AV.int false
    IntKind.i64 (IntKind.i64.wrap ((↑k : Int) + (1 : Int)))]) [((2 : Nat), Blk.frz [CK.int IntKind.i64, CK.int IntKind.i64, CK.int IntKind.i64, CK.int IntKind.i64, CK.int IntKind.i64,
    CK.int IntKind.i64, CK.int IntKind.i64] l.n fun i => RowT.enc (l.get i)), ((8 : Nat), Blk.cells (0 : Nat) (25 : Nat) [AV.int false IntKind.i64 p.length, AV.int false IntKind.i64
    p.slack, AV.int false IntKind.i64 p.loose, AV.int false IntKind.i64 p.damp.lo, AV.int false IntKind.i64 p.damp.hi]), ((16 : Nat), Blk.cells (0 : Nat) (27 : Nat) [AV.int false
    IntKind.i64 s.kind, AV.int false IntKind.i64 s.at_.lo, AV.int false IntKind.i64 s.at_.hi, AV.int false IntKind.i64 s.wide.lo, AV.int false IntKind.i64 s.wide.hi, AV.int false
    IntKind.i64 s.deep.lo, AV.int false IntKind.i64 s.deep.hi]), ((80 : Nat), Blk.frz [CK.int IntKind.i64] o.length fun i => RowT.enc (o.getD i (0 : Int))), ((81 : Nat), Blk.frz [CK.int
    IntKind.i64] q.length fun i => RowT.enc (q.getD i (0 : Int))), ((216 : Nat), Blk.rowz true (27 : Nat) [CK.int IntKind.i64, CK.int IntKind.i64, CK.int IntKind.i64, CK.int
    IntKind.i64, CK.int IntKind.i64, CK.int IntKind.i64, CK.int IntKind.i64] (k + (1 : Nat)) (joinG k (fun i => RowT.enc (rot l t i)) (rowI [[AV.int false IntKind.i64 (l.get
    ((IntKind.i64.wrap ((↑k : Int) + IntKind.i64.wrap t.n)).tmod (↑l.n : Int)).toNat).kind, AV.int false IntKind.i64 (l.get ((IntKind.i64.wrap ((↑k : Int) + IntKind.i64.wrap t.n)).tmod
    (↑l.n : Int)).toNat).at_.lo, AV.int false IntKind.i64 (l.get ((IntKind.i64.wrap ((↑k : Int) + IntKind.i64.wrap t.n)).tmod (↑l.n : Int)).toNat).at_.hi, AV.int false IntKind.i64
    (l.get ((IntKind.i64.wrap ((↑k : Int) + IntKind.i64.wrap t.n)).tmod (↑l.n : Int)).toNat).wide.lo, AV.int false IntKind.i64 (l.get ((IntKind.i64.wrap ((↑k : Int) + IntKind.i64.wrap
    t.n)).tmod (↑l.n : Int)).toNat).wide.hi, AV.int false IntKind.i64 (l.get ((IntKind.i64.wrap ((↑k : Int) + IntKind.i64.wrap t.n)).tmod (↑l.n : Int)).toNat).deep.lo, AV.int false
    IntKind.i64 (l.get ((IntKind.i64.wrap ((↑k : Int) + IntKind.i64.wrap t.n)).tmod (↑l.n : Int)).toNat).deep.hi]] (0 : Nat))))]))))) (Tree.leaf (AV.tup [AV.ptr (0 : Nat) (0 : Nat) (0 :
    Nat), AV.ptr (162 : Nat) (0 : Nat) (0 : Nat), AV.slz (2 : Nat) (0 : Nat) l.n (Cap.of (0 : Nat)), AV.ptr (8 : Nat) (0 : Nat) (0 : Nat), AV.ptr (16 : Nat) (0 : Nat) (0 : Nat), AV.slz
    (80 : Nat) (0 : Nat) o.length (Cap.of (0 : Nat)), AV.slz (81 : Nat) (0 : Nat) q.length (Cap.of (0 : Nat)), AV.slz (24 : Nat) (0 : Nat) k (Cap.of (0 : Nat))]) [((2 : Nat), Blk.frz
    [CK.int IntKind.i64, CK.int IntKind.i64, CK.int IntKind.i64, CK.int IntKind.i64, CK.int IntKind.i64, CK.int IntKind.i64, CK.int IntKind.i64] l.n fun i => RowT.enc (l.get i)), ((8 :
    Nat), Blk.cells (0 : Nat) (25 : Nat) [AV.int false IntKind.i64 p.length, AV.int false IntKind.i64 p.slack, AV.int false IntKind.i64 p.loose, AV.int false IntKind.i64 p.damp.lo,
    AV.int false IntKind.i64 p.damp.hi]), ((16 : Nat), Blk.cells (0 : Nat) (27 : Nat) [AV.int false IntKind.i64 s.kind, AV.int false IntKind.i64 s.at_.lo, AV.int false IntKind.i64
    s.at_.hi, AV.int false IntKind.i64 s.wide.lo, AV.int false IntKind.i64 s.wide.hi, AV.int false IntKind.i64 s.deep.lo, AV.int false IntKind.i64 s.deep.hi]), ((80 : Nat), Blk.frz
    [CK.int IntKind.i64] o.length fun i => RowT.enc (o.getD i (0 : Int))), ((81 : Nat), Blk.frz [CK.int IntKind.i64] q.length fun i => RowT.enc (q.getD i (0 : Int))), ((24 : Nat),
    Blk.rowz true (27 : Nat) [CK.int IntKind.i64, CK.int IntKind.i64, CK.int IntKind.i64, CK.int IntKind.i64, CK.int IntKind.i64, CK.int IntKind.i64, CK.int IntKind.i64] k fun i =>
    RowT.enc (rot l t i))]) := by kernel_rfl
def l1E (p : Play) (s : Edge) (l : Rw Edge) (t : U8n) (o q : List Int) : JSt :=
  ⟨162, [(2, .slz 2 0 l.n (.of 0)), (4, .ptr 8 0 0), (5, .ptr 16 0 0), (9, .slz 80 0 o.length (.of 0)), (10, .slz 81 0 q.length (.of 0)), (12, .slz 24 0 l.n (.of 0))],
    ps16 p s ++ ([frzL 80 o, frzL 81 q, (24, .rowz true 27 (RowT.ks Edge) l.n fun i => RowT.enc (rot l t i))] ++ ArgE.blk 2 l), 96⟩
set_option maxRecDepth 100000 in
theorem l1_go (p : Play) (s : Edge) (l : Rw Edge) (t : U8n) (o q : List Int) (k n : Nat) (g : Nat → Nat → Int) (i : Int) : subE 8 [.slz 2 0 l.n (.of 0), Enc.enc t, .ptr 8 0 0, .ptr 16 0 0, .slz 80 0 o.length (.of 0), .slz 81 0 q.length (.of 0), .slz 216 0 n (.of 0), .int false .i64 l.n, .int false .i64 i] (ArgE.blk 2 l ++ (ps16 p s ++ [frzL 80 o, frzL 81 q, (216, .rowz true 27 (RowT.ks Edge) n g)])) (l1J p s l t o q k) = (
    some [(0 : Nat) = (0 : Nat), l.n = l.n, Cap.of (0 : Nat) = Cap.of (0 : Nat), t.n = t.n, (0 : Nat) = (0 : Nat), (0 : Nat) = (0 : Nat), (0 : Nat) = (0 : Nat), (0 : Nat) = (0 : Nat),
    (0 : Nat) = (0 : Nat), o.length = o.length, Cap.of (0 : Nat) = Cap.of (0 : Nat), (0 : Nat) = (0 : Nat), q.length = q.length, Cap.of (0 : Nat) = Cap.of (0 : Nat), (0 : Nat) = (0 :
    Nat), n = k, Cap.of (0 : Nat) = Cap.of (0 : Nat), (↑l.n : Int) = (↑l.n : Int), i = (↑k : Int), p.length = p.length, p.slack = p.slack, p.loose = p.loose, p.damp.lo = p.damp.lo,
    p.damp.hi = p.damp.hi, s.kind = s.kind, s.at_.lo = s.at_.lo, s.at_.hi = s.at_.hi, s.wide.lo = s.wide.lo, s.wide.hi = s.wide.hi, s.deep.lo = s.deep.lo, s.deep.hi = s.deep.hi,
    o.length ≤ o.length, RowsEq (1 : Nat) o.length (fun i => RowT.enc (o.getD i (0 : Int))) fun i => RowT.enc (o.getD i (0 : Int)), q.length ≤ q.length, RowsEq (1 : Nat) q.length (fun i
    => RowT.enc (q.getD i (0 : Int))) fun i => RowT.enc (q.getD i (0 : Int)), k ≤ n, RowsEq (7 : Nat) k g fun i => RowT.enc (rot l t i), l.n ≤ l.n, RowsEq (7 : Nat) l.n (fun i =>
    RowT.enc (l.get i)) fun i => RowT.enc (l.get i)]) := by kernel_rfl
set_option maxRecDepth 100000 in
theorem l1_end (p : Play) (s : Edge) (l : Rw Edge) (t : U8n) (o q : List Int) (n : Nat) (g : Nat → Nat → Int) : subE 8 [.slz 2 0 l.n (.of 0), .ptr 8 0 0, .ptr 16 0 0, .slz 80 0 o.length (.of 0), .slz 81 0 q.length (.of 0), .slz 24 0 n (.of 0)] (ArgE.blk 2 l ++ (ps16 p s ++ [frzL 80 o, frzL 81 q, (24, .rowz true 27 (RowT.ks Edge) n g)])) (l1E p s l t o q) = (
    some [(0 : Nat) = (0 : Nat), l.n = l.n, Cap.of (0 : Nat) = Cap.of (0 : Nat), (0 : Nat) = (0 : Nat), (0 : Nat) = (0 : Nat), (0 : Nat) = (0 : Nat), (0 : Nat) = (0 : Nat), (0 : Nat) =
    (0 : Nat), o.length = o.length, Cap.of (0 : Nat) = Cap.of (0 : Nat), (0 : Nat) = (0 : Nat), q.length = q.length, Cap.of (0 : Nat) = Cap.of (0 : Nat), (0 : Nat) = (0 : Nat), n = l.n,
    Cap.of (0 : Nat) = Cap.of (0 : Nat), p.length = p.length, p.slack = p.slack, p.loose = p.loose, p.damp.lo = p.damp.lo, p.damp.hi = p.damp.hi, s.kind = s.kind, s.at_.lo = s.at_.lo,
    s.at_.hi = s.at_.hi, s.wide.lo = s.wide.lo, s.wide.hi = s.wide.hi, s.deep.lo = s.deep.lo, s.deep.hi = s.deep.hi, o.length ≤ o.length, RowsEq (1 : Nat) o.length (fun i => RowT.enc
    (o.getD i (0 : Int))) fun i => RowT.enc (o.getD i (0 : Int)), q.length ≤ q.length, RowsEq (1 : Nat) q.length (fun i => RowT.enc (q.getD i (0 : Int))) fun i => RowT.enc (q.getD i (0
    : Int)), l.n ≤ n, RowsEq (7 : Nat) l.n g fun i => RowT.enc (rot l t i), l.n ≤ l.n, RowsEq (7 : Nat) l.n (fun i => RowT.enc (l.get i)) fun i => RowT.enc (l.get i)]) := by kernel_rfl
theorem rot_idx {k n : Nat} {t : Int} (hk : k < n) (hn : n ≤ 40) (ht : 0 ≤ t ∧ t ≤ 255) : (IntKind.i64.wrap ((k : Int) + IntKind.i64.wrap t)).tmod (n : Int) = (((k + t.toNat) % n : Nat) : Int) := by
  rw [w64 (n := t) (by omega) (by omega), w64 (by omega) (by omega)]
  have e : (k : Int) + t = ((k + t.toNat : Nat) : Int) := by omega
  rw [e]; rfl
theorem rows_add {m k : Nat} {g : Nat → Nat → Int} {y : List AV} (h : eqF m 0 (nthC y) (g k)) : RowsEq m (k + 1) (joinG k g (rowI [y] 0)) g := by
  intro i hi
  by_cases h1 : i < k
  · have : joinG k g (rowI [y] 0) i = g i := by funext j; rw [joinG_get, if_pos h1]
    rw [this]; exact eqF_refl _ _ _
  · have e : i = k := by omega
    subst e
    have : joinG i g (rowI [y] 0) i = nthC y := by funext j; rw [joinG_get, if_neg h1]; rfl
    rw [this]; exact h
theorem l1_round (p : Play) (s : Edge) (l : Rw Edge) (t : U8n) (o q : List Int) (ht : 0 ≤ t.n ∧ t.n ≤ 255) (hl : l.n ≤ 40) : RoundW (l1J p s l t o q) (fun k => k ≤ l.n) (fun k => l.n - k) (fun _ e J => e = .exit 0 ∧ J = l1E p s l t o q) 8 l1Ls [] (mkE Try.prog tab_mat) (fun _ => hnd (mkE Try.prog tab_mat) 0) (bodyK Try.f13 0) := by
  refine ⟨fun k g hk => ⟨?_⟩⟩
  by_cases h : k < l.n
  · rw [l1_r, rot_idx h hl ht]
    have hm : (k + t.n.toNat) % l.n < l.n := Nat.mod_lt _ (by omega)
    have hr : rot l t k = l.get ((k + t.n.toNat) % l.n) := rfl
    generalize (k + t.n.toNat) % l.n = j at hm hr ⊢
    have hw : IntKind.i64.wrap ((k : Int) + 1) = ((k + 1 : Nat) : Int) := (w64 (by omega) (by omega)).trans (by omega)
    refine den_br (fun _ => ?_) (fun hn => absurd (of_decide_eq_false hn) (by omega))
    refine den_need (by simp; omega) (den_need (by simp; omega) (den_need (by simp; omega) (den_need (by simp; omega) ?_)))
    refine ⟨k + 1, h, by show l.n - (k + 1) < l.n - k; omega, fun _ _ h => h, rfl, rfl, _, l1_go _ _ _ _ _ _ _ _ _ _, ?_⟩
    repeat' first | exact trivial | with_reducible rfl | exact Nat.le_refl _ | exact RowsEq.refl _ _ _ | exact hw | refine And.intro ?_ ?_
    refine rows_add ?_
    rw [hr]
    exact ⟨rfl, rfl, rfl, rfl, rfl, rfl, rfl, trivial⟩
  · have e : k = l.n := by omega
    subst e
    rw [l1_r]
    refine den_br (fun hn => absurd (of_decide_eq_true hn) (by omega)) (fun _ => ?_)
    refine ⟨_, ⟨rfl, rfl⟩, rfl, rfl, _, l1_end _ _ _ _ _ _ _ _, ?_⟩
    repeat' first | exact trivial | with_reducible rfl | exact Nat.le_refl _ | exact RowsEq.refl _ _ _ | refine And.intro ?_ ?_
def l2J (p : Play) (s : Edge) (l : Rw Edge) (o q : List Int) (n m : Nat) (e : Int) (a b k : Nat) : JSt :=
  ⟨162, [(4, .ptr 8 0 0), (5, .ptr 16 0 0), (9, .slz 80 0 o.length (.of 0)), (10, .slz 81 0 q.length (.of 0)), (14, .slz 100 0 n (.of 0)), (15, .slz 101 0 m (.of 0)), (16, .int false .i64 e), (17, .int false .i64 a), (18, .int false .i64 b), (84, .slz 2 0 l.n (.of 0)), (85, .int false .i64 l.n), (86, .int false .i64 k)],
    ps16 p s ++ ([frzL 80 o, frzL 81 q] ++ ArgE.blk 2 l), 104⟩
def l2Ls : Ex → List Nat
  | .normal => [4, 5, 9, 10, 14, 15, 16, 17, 18, 84, 85, 86]
  | .exit _ => [9, 10, 14, 15, 16, 17, 18]
  | .ret => [8]
set_option maxRecDepth 100000 in
theorem l2_r (p : Play) (s : Edge) (l : Rw Edge) (o q : List Int) (n m : Nat) (e : Int) (a b k : Nat) (g : Nat → Value) : exec (mkE Try.prog tab_mat) (hnd (mkE Try.prog tab_mat) 0) (bodyK Try.f13 1) (JSt.inst (l2J p s l o q n m e a b k) g) (leafW [] l2Ls) =
    Tree.br (decide ((↑k : Int) < (↑l.n : Int))) (Tree.need (decide ((0 : Int) ≤ (↑k : Int) ∧ (↑k : Int) < (↑l.n : Int)) && decide (l.n ≤ l.n)) (Tree.need (decide (k < l.n)) (Tree.need
    true (Tree.br ((FitF p s (l.get k)).2 != (0 : Int)) (Tree.leaf (AV.tup [AV.nili, AV.ptr (162 : Nat) (0 : Nat) (0 : Nat), AV.bool true false]) []) (Tree.br ((FitF p s (l.get k)).1 ==
    (2 : Int)) (Tree.br (decide ((↑a : Int) ≥ (↑o.length : Int))) (Tree.leaf (AV.tup [AV.nili, AV.ptr (162 : Nat) (0 : Nat) (0 : Nat), AV.bool true false]) []) (Tree.need (decide ((0 :
    Int) ≤ (↑a : Int) ∧ (↑a : Int) < (↑o.length : Int)) && decide (o.length ≤ o.length)) (Tree.need (decide (a < o.length)) (Tree.br (o.getD a (0 : Int) != (↑k : Int)) (Tree.leaf
    (AV.tup [AV.nili, AV.ptr (162 : Nat) (0 : Nat) (0 : Nat), AV.bool true false]) []) (Tree.br ((FitF p s (l.get k)).1 != (0 : Int)) (Tree.br (decide ((↑b : Int) ≥ (↑q.length : Int)))
    (Tree.leaf (AV.tup [AV.nili, AV.ptr (162 : Nat) (0 : Nat) (0 : Nat), AV.bool true false]) []) (Tree.need (decide ((0 : Int) ≤ (↑b : Int) ∧ (↑b : Int) < (↑q.length : Int)) && decide
    (q.length ≤ q.length)) (Tree.need (decide (b < q.length)) (Tree.br (q.getD b (0 : Int) != (↑k : Int)) (Tree.leaf (AV.tup [AV.nili, AV.ptr (162 : Nat) (0 : Nat) (0 : Nat), AV.bool
    true false]) []) (Tree.leaf (AV.tup [AV.nilp, AV.ptr (162 : Nat) (0 : Nat) (0 : Nat), AV.ptr (8 : Nat) (0 : Nat) (0 : Nat), AV.ptr (16 : Nat) (0 : Nat) (0 : Nat), AV.slz (80 : Nat)
    (0 : Nat) o.length (Cap.of (0 : Nat)), AV.slz (81 : Nat) (0 : Nat) q.length (Cap.of (0 : Nat)), AV.slz (100 : Nat) (0 : Nat) n (Cap.of (0 : Nat)), AV.slz (101 : Nat) (0 : Nat) m
    (Cap.of (0 : Nat)), AV.int false IntKind.i64 e, AV.int false IntKind.i64 (IntKind.i64.wrap ((↑a : Int) + (1 : Int))), AV.int false IntKind.i64 (IntKind.i64.wrap ((↑b : Int) + (1 :
    Int))), AV.slz (2 : Nat) (0 : Nat) l.n (Cap.of (0 : Nat)), AV.int false IntKind.i64 (↑l.n : Int), AV.int false IntKind.i64 (IntKind.i64.wrap ((↑k : Int) + (1 : Int)))]) [((8 : Nat),
    Blk.cells (0 : Nat) (25 : Nat) [AV.int false IntKind.i64 p.length, AV.int false IntKind.i64 p.slack, AV.int false IntKind.i64 p.loose, AV.int false IntKind.i64 p.damp.lo, AV.int
    false IntKind.i64 p.damp.hi]), ((16 : Nat), Blk.cells (0 : Nat) (27 : Nat) [AV.int false IntKind.i64 s.kind, AV.int false IntKind.i64 s.at_.lo, AV.int false IntKind.i64 s.at_.hi,
    AV.int false IntKind.i64 s.wide.lo, AV.int false IntKind.i64 s.wide.hi, AV.int false IntKind.i64 s.deep.lo, AV.int false IntKind.i64 s.deep.hi]), ((80 : Nat), Blk.frz [CK.int
    IntKind.i64] o.length fun i => RowT.enc (o.getD i (0 : Int))), ((81 : Nat), Blk.frz [CK.int IntKind.i64] q.length fun i => RowT.enc (q.getD i (0 : Int))), ((2 : Nat), Blk.frz
    [CK.int IntKind.i64, CK.int IntKind.i64, CK.int IntKind.i64, CK.int IntKind.i64, CK.int IntKind.i64, CK.int IntKind.i64, CK.int IntKind.i64] l.n fun i => RowT.enc (l.get i))])))))
    (Tree.leaf (AV.tup [AV.nilp, AV.ptr (162 : Nat) (0 : Nat) (0 : Nat), AV.ptr (8 : Nat) (0 : Nat) (0 : Nat), AV.ptr (16 : Nat) (0 : Nat) (0 : Nat), AV.slz (80 : Nat) (0 : Nat)
    o.length (Cap.of (0 : Nat)), AV.slz (81 : Nat) (0 : Nat) q.length (Cap.of (0 : Nat)), AV.slz (100 : Nat) (0 : Nat) n (Cap.of (0 : Nat)), AV.slz (101 : Nat) (0 : Nat) m (Cap.of (0 :
    Nat)), AV.int false IntKind.i64 e, AV.int false IntKind.i64 (IntKind.i64.wrap ((↑a : Int) + (1 : Int))), AV.int false IntKind.i64 (↑b : Int), AV.slz (2 : Nat) (0 : Nat) l.n (Cap.of
    (0 : Nat)), AV.int false IntKind.i64 (↑l.n : Int), AV.int false IntKind.i64 (IntKind.i64.wrap ((↑k : Int) + (1 : Int)))]) [((8 : Nat), Blk.cells (0 : Nat) (25 : Nat) [AV.int false
    IntKind.i64 p.length, AV.int false IntKind.i64 p.slack, AV.int false IntKind.i64 p.loose, AV.int false IntKind.i64 p.damp.lo, AV.int false IntKind.i64 p.damp.hi]), ((16 : Nat),
    Blk.cells (0 : Nat) (27 : Nat) [AV.int false IntKind.i64 s.kind, AV.int false IntKind.i64 s.at_.lo, AV.int false IntKind.i64 s.at_.hi, AV.int false IntKind.i64 s.wide.lo, AV.int
    false IntKind.i64 s.wide.hi, AV.int false IntKind.i64 s.deep.lo, AV.int false IntKind.i64 s.deep.hi]), ((80 : Nat), Blk.frz [CK.int IntKind.i64] o.length fun i => RowT.enc (o.getD i
    (0 : Int))), ((81 : Nat), Blk.frz [CK.int IntKind.i64] q.length fun i => RowT.enc (q.getD i (0 : Int))), ((2 : Nat), Blk.frz [CK.int IntKind.i64, CK.int IntKind.i64, CK.int
    IntKind.i64, CK.int IntKind.i64, CK.int IntKind.i64, CK.int IntKind.i64, CK.int IntKind.i64] l.n fun i => RowT.enc (l.get i))])))))) (Tree.br ((FitF p s (l.get k)).1 != (0 : Int))
    (Tree.br (decide ((↑b : Int) ≥ (↑q.length : Int))) (Tree.leaf (AV.tup [AV.nili, AV.ptr (162 : Nat) (0 : Nat) (0 : Nat), AV.bool true false]) []) (Tree.need (decide ((0 : Int) ≤ (↑b
    : Int) ∧ (↑b : Int) < (↑q.length : Int)) && decide (q.length ≤ q.length)) (Tree.need (decide (b < q.length)) (Tree.br (q.getD b (0 : Int) != (↑k : Int)) (Tree.leaf (AV.tup [AV.nili,
    AV.ptr (162 : Nat) (0 : Nat) (0 : Nat), AV.bool true false]) []) (Tree.leaf (AV.tup [AV.nilp, AV.ptr (162 : Nat) (0 : Nat) (0 : Nat), AV.ptr (8 : Nat) (0 : Nat) (0 : Nat), AV.ptr
    (16 : Nat) (0 : Nat) (0 : Nat), AV.slz (80 : Nat) (0 : Nat) o.length (Cap.of (0 : Nat)), AV.slz (81 : Nat) (0 : Nat) q.length (Cap.of (0 : Nat)), AV.slz (100 : Nat) (0 : Nat) n
    (Cap.of (0 : Nat)), AV.slz (101 : Nat) (0 : Nat) m (Cap.of (0 : Nat)), AV.int false IntKind.i64 e, AV.int false IntKind.i64 (↑a : Int), AV.int false IntKind.i64 (IntKind.i64.wrap
    ((↑b : Int) + (1 : Int))), AV.slz (2 : Nat) (0 : Nat) l.n (Cap.of (0 : Nat)), AV.int false IntKind.i64 (↑l.n : Int), AV.int false IntKind.i64 (IntKind.i64.wrap ((↑k : Int) + (1 :
    Int)))]) [((8 : Nat), Blk.cells (0 : Nat) (25 : Nat) [AV.int false IntKind.i64 p.length, AV.int false IntKind.i64 p.slack, AV.int false IntKind.i64 p.loose, AV.int false IntKind.i64
    p.damp.lo, AV.int false IntKind.i64 p.damp.hi]), ((16 : Nat), Blk.cells (0 : Nat) (27 : Nat) [AV.int false IntKind.i64 s.kind, AV.int false IntKind.i64 s.at_.lo, AV.int false
    IntKind.i64 s.at_.hi, AV.int false IntKind.i64 s.wide.lo, AV.int false IntKind.i64 s.wide.hi, AV.int false IntKind.i64 s.deep.lo, AV.int false IntKind.i64 s.deep.hi]), ((80 : Nat),
    Blk.frz [CK.int IntKind.i64] o.length fun i => RowT.enc (o.getD i (0 : Int))), ((81 : Nat), Blk.frz [CK.int IntKind.i64] q.length fun i => RowT.enc (q.getD i (0 : Int))), ((2 :
    Nat), Blk.frz [CK.int IntKind.i64, CK.int IntKind.i64, CK.int IntKind.i64, CK.int IntKind.i64, CK.int IntKind.i64, CK.int IntKind.i64, CK.int IntKind.i64] l.n fun i => RowT.enc
    (l.get i))]))))) (Tree.leaf (AV.tup [AV.nilp, AV.ptr (162 : Nat) (0 : Nat) (0 : Nat), AV.ptr (8 : Nat) (0 : Nat) (0 : Nat), AV.ptr (16 : Nat) (0 : Nat) (0 : Nat), AV.slz (80 : Nat)
    (0 : Nat) o.length (Cap.of (0 : Nat)), AV.slz (81 : Nat) (0 : Nat) q.length (Cap.of (0 : Nat)), AV.slz (100 : Nat) (0 : Nat) n (Cap.of (0 : Nat)), AV.slz (101 : Nat) (0 : Nat) m
    (Cap.of (0 : Nat)), AV.int false IntKind.i64 e, AV.int false IntKind.i64 (↑a : Int), AV.int false IntKind.i64 (↑b : Int), AV.slz (2 : Nat) (0 : Nat) l.n (Cap.of (0 : Nat)), AV.int
    false IntKind.i64 (↑l.n : Int), AV.int false IntKind.i64 (IntKind.i64.wrap ((↑k : Int) + (1 : Int)))]) [((8 : Nat), Blk.cells (0 : Nat) (25 : Nat) [AV.int false IntKind.i64
    p.length, AV.int false IntKind.i64 p.slack, AV.int false IntKind.i64 p.loose, AV.int false IntKind.i64 p.damp.lo, AV.int false IntKind.i64 p.damp.hi]), ((16 : Nat), Blk.cells (0 :
    Nat) (27 : Nat) [AV.int false IntKind.i64 s.kind, AV.int false IntKind.i64 s.at_.lo, AV.int false IntKind.i64 s.at_.hi, AV.int false IntKind.i64 s.wide.lo, AV.int false IntKind.i64
    s.wide.hi, AV.int false IntKind.i64 s.deep.lo, AV.int false IntKind.i64 s.deep.hi]), ((80 : Nat), Blk.frz [CK.int IntKind.i64] o.length fun i => RowT.enc (o.getD i (0 : Int))), ((81
    : Nat), Blk.frz [CK.int IntKind.i64] q.length fun i => RowT.enc (q.getD i (0 : Int))), ((2 : Nat), Blk.frz [CK.int IntKind.i64, CK.int IntKind.i64, CK.int IntKind.i64, CK.int
    IntKind.i64, CK.int IntKind.i64, CK.int IntKind.i64, CK.int IntKind.i64] l.n fun i => RowT.enc (l.get i))]))))))) (Tree.leaf (AV.tup [AV.ptr (2 : Nat) (0 : Nat) (0 : Nat), AV.ptr
    (162 : Nat) (0 : Nat) (0 : Nat), AV.slz (80 : Nat) (0 : Nat) o.length (Cap.of (0 : Nat)), AV.slz (81 : Nat) (0 : Nat) q.length (Cap.of (0 : Nat)), AV.slz (100 : Nat) (0 : Nat) n
    (Cap.of (0 : Nat)), AV.slz (101 : Nat) (0 : Nat) m (Cap.of (0 : Nat)), AV.int false IntKind.i64 e, AV.int false IntKind.i64 (↑a : Int), AV.int false IntKind.i64 (↑b : Int)]) [((80 :
    Nat), Blk.frz [CK.int IntKind.i64] o.length fun i => RowT.enc (o.getD i (0 : Int))), ((81 : Nat), Blk.frz [CK.int IntKind.i64] q.length fun i => RowT.enc (q.getD i (0 : Int)))]) := by kernel_rfl
def l2E (o q : List Int) (n m : Nat) (e : Int) : JSt :=
  ⟨162, [(9, .slz 80 0 o.length (.of 0)), (10, .slz 81 0 q.length (.of 0)), (14, .slz 100 0 n (.of 0)), (15, .slz 101 0 m (.of 0)), (16, .int false .i64 e), (17, .int false .i64 o.length), (18, .int false .i64 q.length)], [frzL 80 o, frzL 81 q], 104⟩
set_option maxRecDepth 100000 in
theorem l2_go (p : Play) (s : Edge) (l : Rw Edge) (o q : List Int) (n m : Nat) (e : Int) (a b k : Nat) (i j x : Int) : subE 8 [.ptr 8 0 0, .ptr 16 0 0, .slz 80 0 o.length (.of 0), .slz 81 0 q.length (.of 0), .slz 100 0 n (.of 0), .slz 101 0 m (.of 0), .int false .i64 e, .int false .i64 i, .int false .i64 j, .slz 2 0 l.n (.of 0), .int false .i64 l.n, .int false .i64 x] (ps16 p s ++ ([frzL 80 o, frzL 81 q] ++ ArgE.blk 2 l)) (l2J p s l o q n m e a b k) = (
    some [(0 : Nat) = (0 : Nat), (0 : Nat) = (0 : Nat), (0 : Nat) = (0 : Nat), (0 : Nat) = (0 : Nat), (0 : Nat) = (0 : Nat), o.length = o.length, Cap.of (0 : Nat) = Cap.of (0 : Nat), (0
    : Nat) = (0 : Nat), q.length = q.length, Cap.of (0 : Nat) = Cap.of (0 : Nat), (0 : Nat) = (0 : Nat), n = n, Cap.of (0 : Nat) = Cap.of (0 : Nat), (0 : Nat) = (0 : Nat), m = m, Cap.of
    (0 : Nat) = Cap.of (0 : Nat), e = e, i = (↑a : Int), j = (↑b : Int), (0 : Nat) = (0 : Nat), l.n = l.n, Cap.of (0 : Nat) = Cap.of (0 : Nat), (↑l.n : Int) = (↑l.n : Int), x = (↑k :
    Int), p.length = p.length, p.slack = p.slack, p.loose = p.loose, p.damp.lo = p.damp.lo, p.damp.hi = p.damp.hi, s.kind = s.kind, s.at_.lo = s.at_.lo, s.at_.hi = s.at_.hi, s.wide.lo =
    s.wide.lo, s.wide.hi = s.wide.hi, s.deep.lo = s.deep.lo, s.deep.hi = s.deep.hi, o.length ≤ o.length, RowsEq (1 : Nat) o.length (fun i => RowT.enc (o.getD i (0 : Int))) fun i =>
    RowT.enc (o.getD i (0 : Int)), q.length ≤ q.length, RowsEq (1 : Nat) q.length (fun i => RowT.enc (q.getD i (0 : Int))) fun i => RowT.enc (q.getD i (0 : Int)), l.n ≤ l.n, RowsEq (7 :
    Nat) l.n (fun i => RowT.enc (l.get i)) fun i => RowT.enc (l.get i)]) := by kernel_rfl
set_option maxRecDepth 100000 in
theorem l2_end (o q : List Int) (n m : Nat) (e : Int) (i j : Int) : subE 8 [.slz 80 0 o.length (.of 0), .slz 81 0 q.length (.of 0), .slz 100 0 n (.of 0), .slz 101 0 m (.of 0), .int false .i64 e, .int false .i64 i, .int false .i64 j] [frzL 80 o, frzL 81 q] (l2E o q n m e) = (
    some [(0 : Nat) = (0 : Nat), o.length = o.length, Cap.of (0 : Nat) = Cap.of (0 : Nat), (0 : Nat) = (0 : Nat), q.length = q.length, Cap.of (0 : Nat) = Cap.of (0 : Nat), (0 : Nat) =
    (0 : Nat), n = n, Cap.of (0 : Nat) = Cap.of (0 : Nat), (0 : Nat) = (0 : Nat), m = m, Cap.of (0 : Nat) = Cap.of (0 : Nat), e = e, i = (↑o.length : Int), j = (↑q.length : Int),
    o.length ≤ o.length, RowsEq (1 : Nat) o.length (fun i => RowT.enc (o.getD i (0 : Int))) fun i => RowT.enc (o.getD i (0 : Int)), q.length ≤ q.length, RowsEq (1 : Nat) q.length (fun i
    => RowT.enc (q.getD i (0 : Int))) fun i => RowT.enc (q.getD i (0 : Int))]) := by kernel_rfl
theorem picks_le (q : Nat → Bool) {k : Nat} : ∀ {n : Nat}, k ≤ n → (picks q k).length ≤ (picks q n).length
  | 0, h => by have : k = 0 := by omega
               subst this; exact Nat.le_refl _
  | n + 1, h => by
    rcases Nat.eq_or_lt_of_le h with rfl | h
    · exact Nat.le_refl _
    · have := picks_le q (k := k) (n := n) (by omega)
      simp only [picks]
      split <;> simp <;> omega
theorem picks_get (q : Nat → Bool) {k : Nat} (hq : q k = true) : ∀ {n : Nat}, k < n → (picks q k).length < (picks q n).length ∧ (picks q n).getD (picks q k).length 0 = (k : Int)
  | 0, h => by omega
  | n + 1, h => by
    rcases Nat.eq_or_lt_of_le (Nat.le_of_lt_succ h) with rfl | h
    · simp only [picks, hq]
      simp
    · obtain ⟨h1, h2⟩ := picks_get q hq (n := n) h
      simp only [picks]
      split
      · refine ⟨by simp; omega, ?_⟩
        rw [List.getD_eq_getElem?_getD, List.getElem?_append_left h1, ← List.getD_eq_getElem?_getD]; exact h2
      · exact ⟨h1, h2⟩
theorem fitsF_cases (p : Play) (a b : Edge) : fitsF p a b = 0 ∨ fitsF p a b = 1 ∨ fitsF p a b = 2 := by
  have v : ∀ t h, verd p t h = 0 ∨ verd p t h = 1 ∨ verd p t h = 2 := by
    intro t h
    rw [verd_eq]
    split
    · simp
    · split <;> simp
  unfold fitsF
  split
  · split
    · exact v _ _
    · simp
  · split
    · exact v _ _
    · simp
theorem l2_round (p : Play) (s : Edge) (l : Rw Edge) (n m : Nat) (e : Int) (hl : pickPre p s l) : RoundW (fun k : Nat => l2J p s l (picks (pickQ p s 2 l) l.n) (picks (pickQ p s 1 l) l.n) n m e (picks (pickQ p s 2 l) k).length (picks (pickQ p s 1 l) k).length k) (fun k => k ≤ l.n) (fun k => l.n - k) (fun _ x J => x = .exit 2 ∧ J = l2E (picks (pickQ p s 2 l) l.n) (picks (pickQ p s 1 l) l.n) n m e) 8 l2Ls [] (mkE Try.prog tab_mat) (fun _ => hnd (mkE Try.prog tab_mat) 0) (bodyK Try.f13 1) := by
  obtain ⟨h1, h2, h3, h4⟩ := hl
  refine ⟨fun k g hk => ⟨?_⟩⟩
  by_cases h : k < l.n
  · have hF : FitF p s (l.get k) = (fitsF p s (l.get k), 0) := by unfold FitF; rw [if_pos ⟨h1, h2, allN_get h3 h⟩]
    rw [l2_r, hF]
    have g2 := fun hq => picks_get (pickQ p s 2 l) (k := k) hq h
    have g1 := fun hq => picks_get (pickQ p s 1 l) (k := k) hq h
    have e2 : pickQ p s 2 l k = decide (fitsF p s (l.get k) ≥ 2) := rfl
    have e1 : pickQ p s 1 l k = decide (fitsF p s (l.get k) ≥ 1) := rfl
    have n2 := picks_len (pickQ p s 2 l) k
    have n1 := picks_len (pickQ p s 1 l) k
    have s2 : (picks (pickQ p s 2 l) (k + 1)) = (match pickQ p s 2 l k with | true => picks (pickQ p s 2 l) k ++ [(k : Int)] | false => picks (pickQ p s 2 l) k) := rfl
    have s1 : (picks (pickQ p s 1 l) (k + 1)) = (match pickQ p s 1 l k with | true => picks (pickQ p s 1 l) k ++ [(k : Int)] | false => picks (pickQ p s 1 l) k) := rfl
    have hw : IntKind.i64.wrap ((k : Int) + 1) = ((k + 1 : Nat) : Int) := (w64 (by omega) (by omega)).trans (by omega)
    have hv := fitsF_cases p s (l.get k)
    have fin : ∀ (i j : Int), i = ((picks (pickQ p s 2 l) (k + 1)).length : Int) → j = ((picks (pickQ p s 1 l) (k + 1)).length : Int) → GoesW (fun k : Nat => l2J p s l (picks (pickQ p s 2 l) l.n) (picks (pickQ p s 1 l) l.n) n m e (picks (pickQ p s 2 l) k).length (picks (pickQ p s 1 l) k).length k) (fun k => k ≤ l.n) (fun k => l.n - k) (fun _ x J => x = .exit 2 ∧ J = l2E (picks (pickQ p s 2 l) l.n) (picks (pickQ p s 1 l) l.n) n m e) 8 l2Ls k 162 [.ptr 8 0 0, .ptr 16 0 0, .slz 80 0 (picks (pickQ p s 2 l) l.n).length (.of 0), .slz 81 0 (picks (pickQ p s 1 l) l.n).length (.of 0), .slz 100 0 n (.of 0), .slz 101 0 m (.of 0), .int false .i64 e, .int false .i64 i, .int false .i64 j, .slz 2 0 l.n (.of 0), .int false .i64 l.n, .int false .i64 (IntKind.i64.wrap ((k : Int) + 1))] (ps16 p s ++ ([frzL 80 (picks (pickQ p s 2 l) l.n), frzL 81 (picks (pickQ p s 1 l) l.n)] ++ ArgE.blk 2 l)) := by
      intro i j hi hj
      refine ⟨k + 1, h, by show l.n - (k + 1) < l.n - k; omega, fun _ _ h => h, rfl, rfl, _, l2_go _ _ _ _ _ _ _ _ _ _ _ _ _ _, ?_⟩
      repeat' first | exact trivial | with_reducible rfl | exact Nat.le_refl _ | exact RowsEq.refl _ _ _ | exact hw | exact hi | exact hj | refine And.intro ?_ ?_
    generalize fitsF p s (l.get k) = v at e2 e1 hv ⊢
    refine den_br (fun _ => ?_) (fun hn => absurd (of_decide_eq_false hn) (by omega))
    refine den_need (by simp; omega) (den_need (by simp; omega) (den_need rfl (den_br (fun hn => by simp at hn) (fun _ => ?_))))
    rcases hv with rfl | rfl | rfl
    · refine den_br (fun hn => by simp at hn) (fun _ => den_br (fun hn => by simp at hn) (fun _ => ?_))
      exact fin _ _ (by rw [s2, e2]; rfl) (by rw [s1, e1]; rfl)
    · obtain ⟨a1, a2⟩ := g1 (by rw [e1]; rfl)
      refine den_br (fun hn => by simp at hn) (fun _ => den_br (fun _ => ?_) (fun hn => by simp at hn))
      refine den_br (fun hn => absurd (of_decide_eq_true hn) (by omega)) (fun _ => den_need (by simp; omega) (den_need (by simp; omega) (den_br (fun hn => by rw [a2] at hn; simp at hn) (fun _ => ?_))))
      exact fin _ _ (by rw [s2, e2]; rfl) (by rw [s1, e1]; simp; exact w64 (by omega) (by omega))
    · obtain ⟨a1, a2⟩ := g1 (by rw [e1]; rfl)
      obtain ⟨b1, b2⟩ := g2 (by rw [e2]; rfl)
      refine den_br (fun _ => ?_) (fun hn => by simp at hn)
      refine den_br (fun hn => absurd (of_decide_eq_true hn) (by omega)) (fun _ => den_need (by simp; omega) (den_need (by simp; omega) (den_br (fun hn => by rw [b2] at hn; simp at hn) (fun _ => ?_))))
      refine den_br (fun _ => ?_) (fun hn => by simp at hn)
      refine den_br (fun hn => absurd (of_decide_eq_true hn) (by omega)) (fun _ => den_need (by simp; omega) (den_need (by simp; omega) (den_br (fun hn => by rw [a2] at hn; simp at hn) (fun _ => ?_))))
      exact fin _ _ (by rw [s2, e2]; simp; exact w64 (by omega) (by omega)) (by rw [s1, e1]; simp; exact w64 (by omega) (by omega))
  · have ek : k = l.n := by omega
    subst ek
    rw [l2_r]
    refine den_br (fun hn => absurd (of_decide_eq_true hn) (by omega)) (fun _ => ?_)
    refine ⟨_, ⟨rfl, rfl⟩, rfl, rfl, _, l2_end _ _ _ _ _ _ _, ?_⟩
    repeat' first | exact trivial | with_reducible rfl | exact Nat.le_refl _ | exact RowsEq.refl _ _ _ | refine And.intro ?_ ?_
end Go.Proofs.Ytdaanchagjamfaa
