/- The examples' drawing and scans (layer 7). -/
import Derived.Test.YtbpffdkemeoajaaNsw
import Derived.Test.YtbpffdkemeoajaaNss
namespace Go.Proofs.Ytbpffdkemeoajaa
open Go.SX
def span7F : Int × Int × Unit → Bool × AV := fun | (lo, (hi, _)) => (true, Enc.enc (⟨lo, hi⟩ : Sp))
def span7C : FC := pureFC (pfOf span7F)
set_option maxRecDepth 100000 in
theorem span7_t (lo : Int) (hi : Int) : execFn (mkE Try.prog tab_sts) (hnd (mkE Try.prog tab_sts) 2) false Try.f46 (EncL.enc ((lo, hi, ()) : Int × Int × Unit)) [] 0 =
    Tree.leaf (AV.agg [AV.int false IntKind.i64 lo, AV.int false IntKind.i64 hi]) ([]) := by kernel_rfl
theorem span7_s : FSound Try.prog 46 span7C := by
  refine plain_fn tab_sts_ok 2 Try.func46 (by kernel_rfl) (by kernel_rfl) ?_
  rintro ⟨lo, hi, ⟨⟩⟩ hp
  rw [span7_t lo hi]
  simp only [span7F, Tree.den, AV.same, AV.sameL, and_true, true_and] at hp ⊢
  simp only [Enc.enc, AV.same, AV.sameL, and_self]
def tab_span7 : Tab := addF tab_sts 46 span7C
theorem tab_span7_ok : TabOk tab_span7 := tab_sts_ok.add span7_s
def exact7F : Int × Int × Int × Unit → Bool × AV := fun | (k, (w, (d, _))) => (true, Enc.enc (⟨k, ⟨1000, 1000⟩, ⟨w, w⟩, ⟨d, d⟩⟩ : Edge))
def exact7C : FC := pureFC (pfOf exact7F)
set_option maxRecDepth 100000 in
theorem exact7_t (k : Int) (w : Int) (d : Int) : execFn (mkE Try.prog tab_span7) (hnd (mkE Try.prog tab_span7) 2) false Try.f45 (EncL.enc ((k, w, d, ()) : Int × Int × Int × Unit)) [] 0 =
    Tree.need (true) (Tree.need (true) (Tree.leaf (AV.agg [AV.int false IntKind.i64 k, AV.int true IntKind.i64 (1000 : Int), AV.int true IntKind.i64 (1000 : Int), AV.int false
    IntKind.i64 w, AV.int false IntKind.i64 w, AV.int false IntKind.i64 d, AV.int false IntKind.i64 d]) ([]))) := by kernel_rfl
theorem exact7_s : FSound Try.prog 45 exact7C := by
  refine plain_fn tab_span7_ok 2 Try.func45 (by kernel_rfl) (by kernel_rfl) ?_
  rintro ⟨k, w, d, ⟨⟩⟩ hp
  rw [exact7_t k w d]
  simp only [exact7F, Tree.den, AV.same, AV.sameL, and_true, true_and] at hp ⊢
  simp only [Enc.enc, AV.same, AV.sameL, and_self]
def tab_exact7 : Tab := addF tab_span7 45 exact7C
theorem tab_exact7_ok : TabOk tab_exact7 := tab_span7_ok.add exact7_s
def blur7F : Int × Int × Int × Unit → Bool × AV := fun | (k, (lo, (hi, _))) => (true, Enc.enc (⟨k, ⟨990, 1010⟩, ⟨lo, hi⟩, ⟨395, 415⟩⟩ : Edge))
def blur7C : FC := pureFC (pfOf blur7F)
set_option maxRecDepth 100000 in
theorem blur7_t (k : Int) (lo : Int) (hi : Int) : execFn (mkE Try.prog tab_exact7) (hnd (mkE Try.prog tab_exact7) 2) false Try.f48 (EncL.enc ((k, lo, hi, ()) : Int × Int × Int × Unit)) [] 0 =
    Tree.need (true) (Tree.leaf (AV.agg [AV.int false IntKind.i64 k, AV.int true IntKind.i64 (990 : Int), AV.int true IntKind.i64 (1010 : Int), AV.int false IntKind.i64 lo, AV.int false
    IntKind.i64 hi, AV.int true IntKind.i64 (395 : Int), AV.int true IntKind.i64 (415 : Int)]) ([])) := by kernel_rfl
theorem blur7_s : FSound Try.prog 48 blur7C := by
  refine plain_fn tab_exact7_ok 2 Try.func48 (by kernel_rfl) (by kernel_rfl) ?_
  rintro ⟨k, lo, hi, ⟨⟩⟩ hp
  rw [blur7_t k lo hi]
  simp only [blur7F, Tree.den, AV.same, AV.sameL, and_true, true_and] at hp ⊢
  simp only [Enc.enc, AV.same, AV.sameL, and_self]
def tab_blur7 : Tab := addF tab_exact7 48 blur7C
theorem tab_blur7_ok : TabOk tab_blur7 := tab_exact7_ok.add blur7_s
def piece7F : Edge × Edge × Unit → Bool × AV := fun | (r, (l, _)) => (true, Enc.enc (⟨zeroE, r, zeroE, l⟩ : Piece))
def piece7C : FC := pureFC (pfOf piece7F)
set_option maxRecDepth 100000 in
theorem piece7_t (r : Edge) (l : Edge) : execFn (mkE Try.prog tab_blur7) (hnd (mkE Try.prog tab_blur7) 2) false Try.f47 (EncL.enc ((r, l, ()) : Edge × Edge × Unit)) [] 0 =
    Tree.leaf (AV.agg [AV.int true IntKind.i64 (0 : Int), AV.int true IntKind.i64 (0 : Int), AV.int true IntKind.i64 (0 : Int), AV.int true IntKind.i64 (0 : Int), AV.int true
    IntKind.i64 (0 : Int), AV.int true IntKind.i64 (0 : Int), AV.int true IntKind.i64 (0 : Int), AV.int false IntKind.i64 r.kind, AV.int false IntKind.i64 r.at_.lo, AV.int false
    IntKind.i64 r.at_.hi, AV.int false IntKind.i64 r.wide.lo, AV.int false IntKind.i64 r.wide.hi, AV.int false IntKind.i64 r.deep.lo, AV.int false IntKind.i64 r.deep.hi, AV.int true
    IntKind.i64 (0 : Int), AV.int true IntKind.i64 (0 : Int), AV.int true IntKind.i64 (0 : Int), AV.int true IntKind.i64 (0 : Int), AV.int true IntKind.i64 (0 : Int), AV.int true
    IntKind.i64 (0 : Int), AV.int true IntKind.i64 (0 : Int), AV.int false IntKind.i64 l.kind, AV.int false IntKind.i64 l.at_.lo, AV.int false IntKind.i64 l.at_.hi, AV.int false
    IntKind.i64 l.wide.lo, AV.int false IntKind.i64 l.wide.hi, AV.int false IntKind.i64 l.deep.lo, AV.int false IntKind.i64 l.deep.hi]) ([]) := by kernel_rfl
theorem piece7_s : FSound Try.prog 47 piece7C := by
  refine plain_fn tab_blur7_ok 2 Try.func47 (by kernel_rfl) (by kernel_rfl) ?_
  rintro ⟨r, l, ⟨⟩⟩ hp
  rw [piece7_t r l]
  simp only [piece7F, Tree.den, AV.same, AV.sameL, and_true, true_and] at hp ⊢
  simp only [Enc.enc, zeroE, AV.same, AV.sameL, and_self]
def tab_piece7 : Tab := addF tab_blur7 47 piece7C
theorem tab_piece7_ok : TabOk tab_piece7 := tab_blur7_ok.add piece7_s
def pP : Piece := ⟨zeroE, ⟨1, ⟨990, 1010⟩, ⟨490, 570⟩, ⟨395, 415⟩⟩, zeroE, ⟨2, ⟨990, 1010⟩, ⟨505, 525⟩, ⟨395, 415⟩⟩⟩
def pQ : Piece := ⟨zeroE, ⟨1, ⟨990, 1010⟩, ⟨495, 505⟩, ⟨395, 415⟩⟩, zeroE, ⟨2, ⟨990, 1010⟩, ⟨505, 525⟩, ⟨395, 415⟩⟩⟩
def pR : Piece := ⟨zeroE, zeroE, ⟨1, ⟨990, 1010⟩, ⟨490, 510⟩, ⟨395, 415⟩⟩, zeroE⟩
def pP7F : Unit → Bool × AV := fun _ => (true, Enc.enc pP)
def pP7C : FC := pureFC (pfOf pP7F)
set_option maxRecDepth 100000 in
theorem pP7_t  : execFn (mkE Try.prog tab_piece7) (hnd (mkE Try.prog tab_piece7) 2) false Try.f22 (EncL.enc (() : Unit)) [] 0 =
    Tree.leaf (AV.agg [AV.int true IntKind.i64 (0 : Int), AV.int true IntKind.i64 (0 : Int), AV.int true IntKind.i64 (0 : Int), AV.int true IntKind.i64 (0 : Int), AV.int true
    IntKind.i64 (0 : Int), AV.int true IntKind.i64 (0 : Int), AV.int true IntKind.i64 (0 : Int), AV.int true IntKind.i64 (1 : Int), AV.int true IntKind.i64 (990 : Int), AV.int true
    IntKind.i64 (1010 : Int), AV.int true IntKind.i64 (490 : Int), AV.int true IntKind.i64 (570 : Int), AV.int true IntKind.i64 (395 : Int), AV.int true IntKind.i64 (415 : Int), AV.int
    true IntKind.i64 (0 : Int), AV.int true IntKind.i64 (0 : Int), AV.int true IntKind.i64 (0 : Int), AV.int true IntKind.i64 (0 : Int), AV.int true IntKind.i64 (0 : Int), AV.int true
    IntKind.i64 (0 : Int), AV.int true IntKind.i64 (0 : Int), AV.int true IntKind.i64 (2 : Int), AV.int true IntKind.i64 (990 : Int), AV.int true IntKind.i64 (1010 : Int), AV.int true
    IntKind.i64 (505 : Int), AV.int true IntKind.i64 (525 : Int), AV.int true IntKind.i64 (395 : Int), AV.int true IntKind.i64 (415 : Int)]) ([]) := by kernel_rfl
theorem pP7_s : FSound Try.prog 22 pP7C := by
  refine plain_fn tab_piece7_ok 2 Try.func22 (by kernel_rfl) (by kernel_rfl) ?_
  rintro ⟨⟩ hp
  rw [pP7_t ]
  simp only [pP7F, Tree.den, AV.same, AV.sameL, and_true, true_and] at hp ⊢
  simp only [Enc.enc, pP, zeroE, AV.same, AV.sameL, and_self]
def tab_pP7 : Tab := addF tab_piece7 22 pP7C
theorem tab_pP7_ok : TabOk tab_pP7 := tab_piece7_ok.add pP7_s
def pQ7F : Unit → Bool × AV := fun _ => (true, Enc.enc pQ)
def pQ7C : FC := pureFC (pfOf pQ7F)
set_option maxRecDepth 100000 in
theorem pQ7_t  : execFn (mkE Try.prog tab_pP7) (hnd (mkE Try.prog tab_pP7) 2) false Try.f24 (EncL.enc (() : Unit)) [] 0 =
    Tree.leaf (AV.agg [AV.int true IntKind.i64 (0 : Int), AV.int true IntKind.i64 (0 : Int), AV.int true IntKind.i64 (0 : Int), AV.int true IntKind.i64 (0 : Int), AV.int true
    IntKind.i64 (0 : Int), AV.int true IntKind.i64 (0 : Int), AV.int true IntKind.i64 (0 : Int), AV.int true IntKind.i64 (1 : Int), AV.int true IntKind.i64 (990 : Int), AV.int true
    IntKind.i64 (1010 : Int), AV.int true IntKind.i64 (495 : Int), AV.int true IntKind.i64 (505 : Int), AV.int true IntKind.i64 (395 : Int), AV.int true IntKind.i64 (415 : Int), AV.int
    true IntKind.i64 (0 : Int), AV.int true IntKind.i64 (0 : Int), AV.int true IntKind.i64 (0 : Int), AV.int true IntKind.i64 (0 : Int), AV.int true IntKind.i64 (0 : Int), AV.int true
    IntKind.i64 (0 : Int), AV.int true IntKind.i64 (0 : Int), AV.int true IntKind.i64 (2 : Int), AV.int true IntKind.i64 (990 : Int), AV.int true IntKind.i64 (1010 : Int), AV.int true
    IntKind.i64 (505 : Int), AV.int true IntKind.i64 (525 : Int), AV.int true IntKind.i64 (395 : Int), AV.int true IntKind.i64 (415 : Int)]) ([]) := by kernel_rfl
theorem pQ7_s : FSound Try.prog 24 pQ7C := by
  refine plain_fn tab_pP7_ok 2 Try.func24 (by kernel_rfl) (by kernel_rfl) ?_
  rintro ⟨⟩ hp
  rw [pQ7_t ]
  simp only [pQ7F, Tree.den, AV.same, AV.sameL, and_true, true_and] at hp ⊢
  simp only [Enc.enc, pQ, zeroE, AV.same, AV.sameL, and_self]
def tab_pQ7 : Tab := addF tab_pP7 24 pQ7C
theorem tab_pQ7_ok : TabOk tab_pQ7 := tab_pP7_ok.add pQ7_s
def pR7F : Unit → Bool × AV := fun _ => (true, Enc.enc pR)
def pR7C : FC := pureFC (pfOf pR7F)
set_option maxRecDepth 100000 in
theorem pR7_t  : execFn (mkE Try.prog tab_pQ7) (hnd (mkE Try.prog tab_pQ7) 2) false Try.f19 (EncL.enc (() : Unit)) [] 0 =
    Tree.leaf (AV.agg [AV.int true IntKind.i64 (0 : Int), AV.int true IntKind.i64 (0 : Int), AV.int true IntKind.i64 (0 : Int), AV.int true IntKind.i64 (0 : Int), AV.int true
    IntKind.i64 (0 : Int), AV.int true IntKind.i64 (0 : Int), AV.int true IntKind.i64 (0 : Int), AV.int true IntKind.i64 (0 : Int), AV.int true IntKind.i64 (0 : Int), AV.int true
    IntKind.i64 (0 : Int), AV.int true IntKind.i64 (0 : Int), AV.int true IntKind.i64 (0 : Int), AV.int true IntKind.i64 (0 : Int), AV.int true IntKind.i64 (0 : Int), AV.int true
    IntKind.i64 (1 : Int), AV.int true IntKind.i64 (990 : Int), AV.int true IntKind.i64 (1010 : Int), AV.int true IntKind.i64 (490 : Int), AV.int true IntKind.i64 (510 : Int), AV.int
    true IntKind.i64 (395 : Int), AV.int true IntKind.i64 (415 : Int), AV.int true IntKind.i64 (0 : Int), AV.int true IntKind.i64 (0 : Int), AV.int true IntKind.i64 (0 : Int), AV.int
    true IntKind.i64 (0 : Int), AV.int true IntKind.i64 (0 : Int), AV.int true IntKind.i64 (0 : Int), AV.int true IntKind.i64 (0 : Int)]) ([]) := by kernel_rfl
theorem pR7_s : FSound Try.prog 19 pR7C := by
  refine plain_fn tab_pQ7_ok 2 Try.func19 (by kernel_rfl) (by kernel_rfl) ?_
  rintro ⟨⟩ hp
  rw [pR7_t ]
  simp only [pR7F, Tree.den, AV.same, AV.sameL, and_true, true_and] at hp ⊢
  simp only [Enc.enc, pR, zeroE, AV.same, AV.sameL, and_self]
def tab_pR7 : Tab := addF tab_pQ7 19 pR7C
theorem tab_pR7_ok : TabOk tab_pR7 := tab_pQ7_ok.add pR7_s
def exE (k w d : Int) : Edge := ⟨k, ⟨1000, 1000⟩, ⟨w, w⟩, ⟨d, d⟩⟩
def drwL : List Piece := [⟨zeroE, exE 1 500 400, zeroE, zeroE⟩, ⟨zeroE, exE 1 500 400, zeroE, exE 2 515 410⟩, ⟨zeroE, exE 1 560 400, zeroE, exE 2 515 410⟩, ⟨zeroE, zeroE, zeroE, exE 2 575 410⟩]
def pZ : Piece := ⟨zeroE, zeroE, zeroE, zeroE⟩
def drwD : Puz := ⟨⟨2000, 20, 30, ⟨0, 10⟩⟩, 4, 1, false, ⟨4, fun i => drwL.getD i pZ⟩⟩
def drwV : AV := .agg [.int false .i64 2000, .int false .i64 20, .int false .i64 30, .int false .i64 0, .int false .i64 10, .int false .i64 4, .int false .i64 1, .bool false false, .slice true 0 0 4 (.lit 4)]
def drwB : Nat × Blk := (0, .rowl 33 28 (drwL.map fun p => (Enc.enc p).cells))
set_option maxRecDepth 100000 in
theorem drw_x (a : Unit) : execW (mkE Try.prog tab_pR7) (hnd (mkE Try.prog tab_pR7) 2) Try.f18 (ArgsE.vals 0 a) (ArgsE.blks 0 a) 8 =
    Tree.leaf (AV.agg [AV.int true IntKind.i64 (2000 : Int), AV.int true IntKind.i64 (20 : Int), AV.int true IntKind.i64 (30 : Int), AV.int true IntKind.i64 (0 : Int), AV.int true
    IntKind.i64 (10 : Int), AV.int true IntKind.i64 (4 : Int), AV.int true IntKind.i64 (1 : Int), AV.bool true false, AV.slice true (248 : Nat) (0 : Nat) (4 : Nat) (Cap.lit (4 : Nat))])
    ([((248 : Nat), Blk.rowl (33 : Nat) (28 : Nat) [[AV.int true IntKind.i64 (0 : Int), AV.int true IntKind.i64 (0 : Int), AV.int true IntKind.i64 (0 : Int), AV.int true IntKind.i64 (0
    : Int), AV.int true IntKind.i64 (0 : Int), AV.int true IntKind.i64 (0 : Int), AV.int true IntKind.i64 (0 : Int), AV.int true IntKind.i64 (1 : Int), AV.int true IntKind.i64 (1000 :
    Int), AV.int true IntKind.i64 (1000 : Int), AV.int true IntKind.i64 (500 : Int), AV.int true IntKind.i64 (500 : Int), AV.int true IntKind.i64 (400 : Int), AV.int true IntKind.i64
    (400 : Int), AV.int true IntKind.i64 (0 : Int), AV.int true IntKind.i64 (0 : Int), AV.int true IntKind.i64 (0 : Int), AV.int true IntKind.i64 (0 : Int), AV.int true IntKind.i64 (0 :
    Int), AV.int true IntKind.i64 (0 : Int), AV.int true IntKind.i64 (0 : Int), AV.int true IntKind.i64 (0 : Int), AV.int true IntKind.i64 (0 : Int), AV.int true IntKind.i64 (0 : Int),
    AV.int true IntKind.i64 (0 : Int), AV.int true IntKind.i64 (0 : Int), AV.int true IntKind.i64 (0 : Int), AV.int true IntKind.i64 (0 : Int)], [AV.int true IntKind.i64 (0 : Int),
    AV.int true IntKind.i64 (0 : Int), AV.int true IntKind.i64 (0 : Int), AV.int true IntKind.i64 (0 : Int), AV.int true IntKind.i64 (0 : Int), AV.int true IntKind.i64 (0 : Int), AV.int
    true IntKind.i64 (0 : Int), AV.int true IntKind.i64 (1 : Int), AV.int true IntKind.i64 (1000 : Int), AV.int true IntKind.i64 (1000 : Int), AV.int true IntKind.i64 (500 : Int),
    AV.int true IntKind.i64 (500 : Int), AV.int true IntKind.i64 (400 : Int), AV.int true IntKind.i64 (400 : Int), AV.int true IntKind.i64 (0 : Int), AV.int true IntKind.i64 (0 : Int),
    AV.int true IntKind.i64 (0 : Int), AV.int true IntKind.i64 (0 : Int), AV.int true IntKind.i64 (0 : Int), AV.int true IntKind.i64 (0 : Int), AV.int true IntKind.i64 (0 : Int), AV.int
    true IntKind.i64 (2 : Int), AV.int true IntKind.i64 (1000 : Int), AV.int true IntKind.i64 (1000 : Int), AV.int true IntKind.i64 (515 : Int), AV.int true IntKind.i64 (515 : Int),
    AV.int true IntKind.i64 (410 : Int), AV.int true IntKind.i64 (410 : Int)], [AV.int true IntKind.i64 (0 : Int), AV.int true IntKind.i64 (0 : Int), AV.int true IntKind.i64 (0 : Int),
    AV.int true IntKind.i64 (0 : Int), AV.int true IntKind.i64 (0 : Int), AV.int true IntKind.i64 (0 : Int), AV.int true IntKind.i64 (0 : Int), AV.int true IntKind.i64 (1 : Int), AV.int
    true IntKind.i64 (1000 : Int), AV.int true IntKind.i64 (1000 : Int), AV.int true IntKind.i64 (560 : Int), AV.int true IntKind.i64 (560 : Int), AV.int true IntKind.i64 (400 : Int),
    AV.int true IntKind.i64 (400 : Int), AV.int true IntKind.i64 (0 : Int), AV.int true IntKind.i64 (0 : Int), AV.int true IntKind.i64 (0 : Int), AV.int true IntKind.i64 (0 : Int),
    AV.int true IntKind.i64 (0 : Int), AV.int true IntKind.i64 (0 : Int), AV.int true IntKind.i64 (0 : Int), AV.int true IntKind.i64 (2 : Int), AV.int true IntKind.i64 (1000 : Int),
    AV.int true IntKind.i64 (1000 : Int), AV.int true IntKind.i64 (515 : Int), AV.int true IntKind.i64 (515 : Int), AV.int true IntKind.i64 (410 : Int), AV.int true IntKind.i64 (410 :
    Int)], [AV.int true IntKind.i64 (0 : Int), AV.int true IntKind.i64 (0 : Int), AV.int true IntKind.i64 (0 : Int), AV.int true IntKind.i64 (0 : Int), AV.int true IntKind.i64 (0 :
    Int), AV.int true IntKind.i64 (0 : Int), AV.int true IntKind.i64 (0 : Int), AV.int true IntKind.i64 (0 : Int), AV.int true IntKind.i64 (0 : Int), AV.int true IntKind.i64 (0 : Int),
    AV.int true IntKind.i64 (0 : Int), AV.int true IntKind.i64 (0 : Int), AV.int true IntKind.i64 (0 : Int), AV.int true IntKind.i64 (0 : Int), AV.int true IntKind.i64 (0 : Int), AV.int
    true IntKind.i64 (0 : Int), AV.int true IntKind.i64 (0 : Int), AV.int true IntKind.i64 (0 : Int), AV.int true IntKind.i64 (0 : Int), AV.int true IntKind.i64 (0 : Int), AV.int true
    IntKind.i64 (0 : Int), AV.int true IntKind.i64 (2 : Int), AV.int true IntKind.i64 (1000 : Int), AV.int true IntKind.i64 (1000 : Int), AV.int true IntKind.i64 (575 : Int), AV.int
    true IntKind.i64 (575 : Int), AV.int true IntKind.i64 (410 : Int), AV.int true IntKind.i64 (410 : Int)]])]) := by kernel_rfl
set_option maxRecDepth 100000 in
theorem drw_res  : subE 8 [(AV.agg [AV.int true IntKind.i64 (2000 : Int), AV.int true IntKind.i64 (20 : Int), AV.int true IntKind.i64 (30 : Int), AV.int true IntKind.i64 (0 : Int), AV.int true IntKind.i64 (10 : Int), AV.int true IntKind.i64 (4 : Int), AV.int true IntKind.i64 (1 : Int), AV.bool true false, AV.slice true (248 : Nat) (0 : Nat) (4 : Nat) (Cap.lit (4 : Nat))])] ([((248 : Nat), Blk.rowl (33 : Nat) (28 : Nat) [[AV.int true IntKind.i64 (0 : Int), AV.int true IntKind.i64 (0 : Int), AV.int true IntKind.i64 (0 : Int), AV.int true IntKind.i64 (0 : Int), AV.int true IntKind.i64 (0 : Int), AV.int true IntKind.i64 (0 : Int), AV.int true IntKind.i64 (0 : Int), AV.int true IntKind.i64 (1 : Int), AV.int true IntKind.i64 (1000 : Int), AV.int true IntKind.i64 (1000 : Int), AV.int true IntKind.i64 (500 : Int), AV.int true IntKind.i64 (500 : Int), AV.int true IntKind.i64 (400 : Int), AV.int true IntKind.i64 (400 : Int), AV.int true IntKind.i64 (0 : Int), AV.int true IntKind.i64 (0 : Int), AV.int true IntKind.i64 (0 : Int), AV.int true IntKind.i64 (0 : Int), AV.int true IntKind.i64 (0 : Int), AV.int true IntKind.i64 (0 : Int), AV.int true IntKind.i64 (0 : Int), AV.int true IntKind.i64 (0 : Int), AV.int true IntKind.i64 (0 : Int), AV.int true IntKind.i64 (0 : Int), AV.int true IntKind.i64 (0 : Int), AV.int true IntKind.i64 (0 : Int), AV.int true IntKind.i64 (0 : Int), AV.int true IntKind.i64 (0 : Int)], [AV.int true IntKind.i64 (0 : Int), AV.int true IntKind.i64 (0 : Int), AV.int true IntKind.i64 (0 : Int), AV.int true IntKind.i64 (0 : Int), AV.int true IntKind.i64 (0 : Int), AV.int true IntKind.i64 (0 : Int), AV.int true IntKind.i64 (0 : Int), AV.int true IntKind.i64 (1 : Int), AV.int true IntKind.i64 (1000 : Int), AV.int true IntKind.i64 (1000 : Int), AV.int true IntKind.i64 (500 : Int), AV.int true IntKind.i64 (500 : Int), AV.int true IntKind.i64 (400 : Int), AV.int true IntKind.i64 (400 : Int), AV.int true IntKind.i64 (0 : Int), AV.int true IntKind.i64 (0 : Int), AV.int true IntKind.i64 (0 : Int), AV.int true IntKind.i64 (0 : Int), AV.int true IntKind.i64 (0 : Int), AV.int true IntKind.i64 (0 : Int), AV.int true IntKind.i64 (0 : Int), AV.int true IntKind.i64 (2 : Int), AV.int true IntKind.i64 (1000 : Int), AV.int true IntKind.i64 (1000 : Int), AV.int true IntKind.i64 (515 : Int), AV.int true IntKind.i64 (515 : Int), AV.int true IntKind.i64 (410 : Int), AV.int true IntKind.i64 (410 : Int)], [AV.int true IntKind.i64 (0 : Int), AV.int true IntKind.i64 (0 : Int), AV.int true IntKind.i64 (0 : Int), AV.int true IntKind.i64 (0 : Int), AV.int true IntKind.i64 (0 : Int), AV.int true IntKind.i64 (0 : Int), AV.int true IntKind.i64 (0 : Int), AV.int true IntKind.i64 (1 : Int), AV.int true IntKind.i64 (1000 : Int), AV.int true IntKind.i64 (1000 : Int), AV.int true IntKind.i64 (560 : Int), AV.int true IntKind.i64 (560 : Int), AV.int true IntKind.i64 (400 : Int), AV.int true IntKind.i64 (400 : Int), AV.int true IntKind.i64 (0 : Int), AV.int true IntKind.i64 (0 : Int), AV.int true IntKind.i64 (0 : Int), AV.int true IntKind.i64 (0 : Int), AV.int true IntKind.i64 (0 : Int), AV.int true IntKind.i64 (0 : Int), AV.int true IntKind.i64 (0 : Int), AV.int true IntKind.i64 (2 : Int), AV.int true IntKind.i64 (1000 : Int), AV.int true IntKind.i64 (1000 : Int), AV.int true IntKind.i64 (515 : Int), AV.int true IntKind.i64 (515 : Int), AV.int true IntKind.i64 (410 : Int), AV.int true IntKind.i64 (410 : Int)], [AV.int true IntKind.i64 (0 : Int), AV.int true IntKind.i64 (0 : Int), AV.int true IntKind.i64 (0 : Int), AV.int true IntKind.i64 (0 : Int), AV.int true IntKind.i64 (0 : Int), AV.int true IntKind.i64 (0 : Int), AV.int true IntKind.i64 (0 : Int), AV.int true IntKind.i64 (0 : Int), AV.int true IntKind.i64 (0 : Int), AV.int true IntKind.i64 (0 : Int), AV.int true IntKind.i64 (0 : Int), AV.int true IntKind.i64 (0 : Int), AV.int true IntKind.i64 (0 : Int), AV.int true IntKind.i64 (0 : Int), AV.int true IntKind.i64 (0 : Int), AV.int true IntKind.i64 (0 : Int), AV.int true IntKind.i64 (0 : Int), AV.int true IntKind.i64 (0 : Int), AV.int true IntKind.i64 (0 : Int), AV.int true IntKind.i64 (0 : Int), AV.int true IntKind.i64 (0 : Int), AV.int true IntKind.i64 (2 : Int), AV.int true IntKind.i64 (1000 : Int), AV.int true IntKind.i64 (1000 : Int), AV.int true IntKind.i64 (575 : Int), AV.int true IntKind.i64 (575 : Int), AV.int true IntKind.i64 (410 : Int), AV.int true IntKind.i64 (410 : Int)]])]) (resJ 8 drwV [drwB]) = (
    some [(2000 : Int) = (2000 : Int), (20 : Int) = (20 : Int), (30 : Int) = (30 : Int), (0 : Int) = (0 : Int), (10 : Int) = (10 : Int), (4 : Int) = (4 : Int), (1 : Int) = (1 : Int),
    false = false, (0 : Nat) = (0 : Nat), (4 : Nat) = (4 : Nat), Cap.lit (4 : Nat) = Cap.lit (4 : Nat), (0 : Int) = (0 : Int), (0 : Int) = (0 : Int), (0 : Int) = (0 : Int), (0 : Int) =
    (0 : Int), (0 : Int) = (0 : Int), (0 : Int) = (0 : Int), (0 : Int) = (0 : Int), (1 : Int) = (1 : Int), (1000 : Int) = (1000 : Int), (1000 : Int) = (1000 : Int), (500 : Int) = (500 :
    Int), (500 : Int) = (500 : Int), (400 : Int) = (400 : Int), (400 : Int) = (400 : Int), (0 : Int) = (0 : Int), (0 : Int) = (0 : Int), (0 : Int) = (0 : Int), (0 : Int) = (0 : Int), (0
    : Int) = (0 : Int), (0 : Int) = (0 : Int), (0 : Int) = (0 : Int), (0 : Int) = (0 : Int), (0 : Int) = (0 : Int), (0 : Int) = (0 : Int), (0 : Int) = (0 : Int), (0 : Int) = (0 : Int),
    (0 : Int) = (0 : Int), (0 : Int) = (0 : Int), (0 : Int) = (0 : Int), (0 : Int) = (0 : Int), (0 : Int) = (0 : Int), (0 : Int) = (0 : Int), (0 : Int) = (0 : Int), (0 : Int) = (0 :
    Int), (0 : Int) = (0 : Int), (1 : Int) = (1 : Int), (1000 : Int) = (1000 : Int), (1000 : Int) = (1000 : Int), (500 : Int) = (500 : Int), (500 : Int) = (500 : Int), (400 : Int) =
    (400 : Int), (400 : Int) = (400 : Int), (0 : Int) = (0 : Int), (0 : Int) = (0 : Int), (0 : Int) = (0 : Int), (0 : Int) = (0 : Int), (0 : Int) = (0 : Int), (0 : Int) = (0 : Int), (0
    : Int) = (0 : Int), (2 : Int) = (2 : Int), (1000 : Int) = (1000 : Int), (1000 : Int) = (1000 : Int), (515 : Int) = (515 : Int), (515 : Int) = (515 : Int), (410 : Int) = (410 : Int),
    (410 : Int) = (410 : Int), (0 : Int) = (0 : Int), (0 : Int) = (0 : Int), (0 : Int) = (0 : Int), (0 : Int) = (0 : Int), (0 : Int) = (0 : Int), (0 : Int) = (0 : Int), (0 : Int) = (0 :
    Int), (1 : Int) = (1 : Int), (1000 : Int) = (1000 : Int), (1000 : Int) = (1000 : Int), (560 : Int) = (560 : Int), (560 : Int) = (560 : Int), (400 : Int) = (400 : Int), (400 : Int) =
    (400 : Int), (0 : Int) = (0 : Int), (0 : Int) = (0 : Int), (0 : Int) = (0 : Int), (0 : Int) = (0 : Int), (0 : Int) = (0 : Int), (0 : Int) = (0 : Int), (0 : Int) = (0 : Int), (2 :
    Int) = (2 : Int), (1000 : Int) = (1000 : Int), (1000 : Int) = (1000 : Int), (515 : Int) = (515 : Int), (515 : Int) = (515 : Int), (410 : Int) = (410 : Int), (410 : Int) = (410 :
    Int), (0 : Int) = (0 : Int), (0 : Int) = (0 : Int), (0 : Int) = (0 : Int), (0 : Int) = (0 : Int), (0 : Int) = (0 : Int), (0 : Int) = (0 : Int), (0 : Int) = (0 : Int), (0 : Int) = (0
    : Int), (0 : Int) = (0 : Int), (0 : Int) = (0 : Int), (0 : Int) = (0 : Int), (0 : Int) = (0 : Int), (0 : Int) = (0 : Int), (0 : Int) = (0 : Int), (0 : Int) = (0 : Int), (0 : Int) =
    (0 : Int), (0 : Int) = (0 : Int), (0 : Int) = (0 : Int), (0 : Int) = (0 : Int), (0 : Int) = (0 : Int), (0 : Int) = (0 : Int), (2 : Int) = (2 : Int), (1000 : Int) = (1000 : Int),
    (1000 : Int) = (1000 : Int), (575 : Int) = (575 : Int), (575 : Int) = (575 : Int), (410 : Int) = (410 : Int), (410 : Int) = (410 : Int)]) := by kernel_rfl
def drwF : WF (Unit) := fun | _ => (true, drwV, [drwB])
def drwC : FC := wFC drwF
set_option maxRecDepth 100000 in
theorem drw_t : execW (mkE Try.prog tab_pR7) (hnd (mkE Try.prog tab_pR7) 2) Try.f18 (ArgsE.vals 0 ((()) : Unit)) (ArgsE.blks 0 ((()) : Unit)) 8 =
    Tree.leaf (AV.agg [AV.int true IntKind.i64 (2000 : Int), AV.int true IntKind.i64 (20 : Int), AV.int true IntKind.i64 (30 : Int), AV.int true IntKind.i64 (0 : Int), AV.int true
    IntKind.i64 (10 : Int), AV.int true IntKind.i64 (4 : Int), AV.int true IntKind.i64 (1 : Int), AV.bool true false, AV.slice true (248 : Nat) (0 : Nat) (4 : Nat) (Cap.lit (4 : Nat))])
    ([((248 : Nat), Blk.rowl (33 : Nat) (28 : Nat) [[AV.int true IntKind.i64 (0 : Int), AV.int true IntKind.i64 (0 : Int), AV.int true IntKind.i64 (0 : Int), AV.int true IntKind.i64 (0
    : Int), AV.int true IntKind.i64 (0 : Int), AV.int true IntKind.i64 (0 : Int), AV.int true IntKind.i64 (0 : Int), AV.int true IntKind.i64 (1 : Int), AV.int true IntKind.i64 (1000 :
    Int), AV.int true IntKind.i64 (1000 : Int), AV.int true IntKind.i64 (500 : Int), AV.int true IntKind.i64 (500 : Int), AV.int true IntKind.i64 (400 : Int), AV.int true IntKind.i64
    (400 : Int), AV.int true IntKind.i64 (0 : Int), AV.int true IntKind.i64 (0 : Int), AV.int true IntKind.i64 (0 : Int), AV.int true IntKind.i64 (0 : Int), AV.int true IntKind.i64 (0 :
    Int), AV.int true IntKind.i64 (0 : Int), AV.int true IntKind.i64 (0 : Int), AV.int true IntKind.i64 (0 : Int), AV.int true IntKind.i64 (0 : Int), AV.int true IntKind.i64 (0 : Int),
    AV.int true IntKind.i64 (0 : Int), AV.int true IntKind.i64 (0 : Int), AV.int true IntKind.i64 (0 : Int), AV.int true IntKind.i64 (0 : Int)], [AV.int true IntKind.i64 (0 : Int),
    AV.int true IntKind.i64 (0 : Int), AV.int true IntKind.i64 (0 : Int), AV.int true IntKind.i64 (0 : Int), AV.int true IntKind.i64 (0 : Int), AV.int true IntKind.i64 (0 : Int), AV.int
    true IntKind.i64 (0 : Int), AV.int true IntKind.i64 (1 : Int), AV.int true IntKind.i64 (1000 : Int), AV.int true IntKind.i64 (1000 : Int), AV.int true IntKind.i64 (500 : Int),
    AV.int true IntKind.i64 (500 : Int), AV.int true IntKind.i64 (400 : Int), AV.int true IntKind.i64 (400 : Int), AV.int true IntKind.i64 (0 : Int), AV.int true IntKind.i64 (0 : Int),
    AV.int true IntKind.i64 (0 : Int), AV.int true IntKind.i64 (0 : Int), AV.int true IntKind.i64 (0 : Int), AV.int true IntKind.i64 (0 : Int), AV.int true IntKind.i64 (0 : Int), AV.int
    true IntKind.i64 (2 : Int), AV.int true IntKind.i64 (1000 : Int), AV.int true IntKind.i64 (1000 : Int), AV.int true IntKind.i64 (515 : Int), AV.int true IntKind.i64 (515 : Int),
    AV.int true IntKind.i64 (410 : Int), AV.int true IntKind.i64 (410 : Int)], [AV.int true IntKind.i64 (0 : Int), AV.int true IntKind.i64 (0 : Int), AV.int true IntKind.i64 (0 : Int),
    AV.int true IntKind.i64 (0 : Int), AV.int true IntKind.i64 (0 : Int), AV.int true IntKind.i64 (0 : Int), AV.int true IntKind.i64 (0 : Int), AV.int true IntKind.i64 (1 : Int), AV.int
    true IntKind.i64 (1000 : Int), AV.int true IntKind.i64 (1000 : Int), AV.int true IntKind.i64 (560 : Int), AV.int true IntKind.i64 (560 : Int), AV.int true IntKind.i64 (400 : Int),
    AV.int true IntKind.i64 (400 : Int), AV.int true IntKind.i64 (0 : Int), AV.int true IntKind.i64 (0 : Int), AV.int true IntKind.i64 (0 : Int), AV.int true IntKind.i64 (0 : Int),
    AV.int true IntKind.i64 (0 : Int), AV.int true IntKind.i64 (0 : Int), AV.int true IntKind.i64 (0 : Int), AV.int true IntKind.i64 (2 : Int), AV.int true IntKind.i64 (1000 : Int),
    AV.int true IntKind.i64 (1000 : Int), AV.int true IntKind.i64 (515 : Int), AV.int true IntKind.i64 (515 : Int), AV.int true IntKind.i64 (410 : Int), AV.int true IntKind.i64 (410 :
    Int)], [AV.int true IntKind.i64 (0 : Int), AV.int true IntKind.i64 (0 : Int), AV.int true IntKind.i64 (0 : Int), AV.int true IntKind.i64 (0 : Int), AV.int true IntKind.i64 (0 :
    Int), AV.int true IntKind.i64 (0 : Int), AV.int true IntKind.i64 (0 : Int), AV.int true IntKind.i64 (0 : Int), AV.int true IntKind.i64 (0 : Int), AV.int true IntKind.i64 (0 : Int),
    AV.int true IntKind.i64 (0 : Int), AV.int true IntKind.i64 (0 : Int), AV.int true IntKind.i64 (0 : Int), AV.int true IntKind.i64 (0 : Int), AV.int true IntKind.i64 (0 : Int), AV.int
    true IntKind.i64 (0 : Int), AV.int true IntKind.i64 (0 : Int), AV.int true IntKind.i64 (0 : Int), AV.int true IntKind.i64 (0 : Int), AV.int true IntKind.i64 (0 : Int), AV.int true
    IntKind.i64 (0 : Int), AV.int true IntKind.i64 (2 : Int), AV.int true IntKind.i64 (1000 : Int), AV.int true IntKind.i64 (1000 : Int), AV.int true IntKind.i64 (575 : Int), AV.int
    true IntKind.i64 (575 : Int), AV.int true IntKind.i64 (410 : Int), AV.int true IntKind.i64 (410 : Int)]])]) := by kernel_rfl
theorem drw_hs : WHnd (mkE Try.prog tab_pR7) (bodyOf Try.f18) 8 drwF (fun x_ => (hnd (mkE Try.prog tab_pR7) 2)) := by
  refine ⟨?_⟩
  rintro ⟨⟩ hp G h1 h2
  exact hnd_hndOk (mkE_ok tab_pR7_ok) 2 G _ h1
theorem drw_run : WRun (mkE Try.prog tab_pR7) Try.f18 8 drwF (fun x_ => (hnd (mkE Try.prog tab_pR7) 2)) := by
  refine ⟨?_⟩
  rintro ⟨⟩ hp
  refine ⟨⟨rfl, by decide, rfl⟩, ⟨?_⟩⟩
  rw [drw_t ]
  simp only [drwF] at hp
  exact ⟨rfl, rfl, _, drw_res, by repeat' first | exact trivial | rfl | refine And.intro ?_ ?_⟩
theorem drw_s : FSound Try.prog 18 drwC :=
  fn_W (mkE_ok tab_pR7_ok) Try.func18 (by kernel_rfl) (by kernel_rfl) (by decide) drw_hs drw_run
def tab_drw : Tab := addF tab_pR7 18 drwC
theorem tab_drw_ok : TabOk tab_drw := tab_pR7_ok.add drw_s
end Go.Proofs.Ytbpffdkemeoajaa
/- The chapter's examples, run whole (layer 7). -/
namespace Go.Proofs.Ytbpffdkemeoajaa
open Go.SX
def kinds : List (Nat × Nat) := [(95, 1)]
set_option maxRecDepth 100000 in
theorem alive_t : execFn (mkG Try.prog (tabR Try.prog tab_drw kinds 12)) (hnd (mkG Try.prog (tabR Try.prog tab_drw kinds 12)) 100) false Try.f12 [] [] 0 = .leaf (.bool true true) [] := by kernel_rfl
theorem alive_s : FSound Try.prog 12 yesC := yes_fn (tabR_ok tab_drw_ok kinds 12) 100 Try.func12 (by kernel_rfl) (by kernel_rfl) alive_t
end Go.Proofs.Ytbpffdkemeoajaa
/- The law ScanNames, run whole (layer 7). -/
namespace Go.Proofs.Ytbpffdkemeoajaa
open Go.SX
def tab_alive : Tab := addF tab_drw 12 yesC
theorem tab_alive_ok : TabOk tab_alive := tab_drw_ok.add alive_s
set_option maxRecDepth 100000 in
theorem scanNames_t : execFn (mkG Try.prog (tabR Try.prog tab_alive kinds 12)) (hnd (mkG Try.prog (tabR Try.prog tab_alive kinds 12)) 100) false Try.f4 [] [] 0 = .leaf (.bool true true) [] := by kernel_rfl
theorem scanNames_s : FSound Try.prog 4 yesC := yes_fn (tabR_ok tab_alive_ok kinds 12) 100 Try.func4 (by kernel_rfl) (by kernel_rfl) scanNames_t
end Go.Proofs.Ytbpffdkemeoajaa
