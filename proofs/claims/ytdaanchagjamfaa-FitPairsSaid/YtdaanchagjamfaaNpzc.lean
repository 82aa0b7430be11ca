/- Pairs: its runs. -/
import Derived.Test.YtdaanchagjamfaaNpzb
namespace Go.SX
open Go Go.RowKit Go.Proofs.Ytdaanchagjamfaa
/-- The function's contract at one argument. -/
noncomputable def onlyAt {α : Type} (F : WF α) (x : α) : WF α := fun y => (propB [y = x] && (F y).1, (F y).2)
theorem fsound_each {P : Program} {f : FuncId} {α : Type} [ArgsE α] {F : WF α} (hgo : goFn P f = true) (h : ∀ x, (F x).1 = true → FSound P f (wFC (onlyAt F x))) : FSound P f (wFC F) := by
  refine ⟨hgo, fun args nid all r w lk blks eff hH ha hv he hp => ?_⟩
  simp only [wFC] at hv he
  split at he <;> (try (cases he; done))
  rename_i p x hd
  simp only [Option.some.injEq] at he; subst he
  simp only [Bool.and_eq_true] at hp
  refine (h x hp.2).2 args nid all r w lk blks ⟨false, p && (onlyAt F x x).1, (F x).2.1.mapId (· + nid), (F x).2.2.map fun q => (q.1 + nid, q.2.mapId (· + nid))⟩ hH ha hv ?_ ?_
  · simp only [wFC, hd]; rfl
  · show (p && (propB [x = x] && (F x).1)) = true
    rw [hp.1, hp.2, propB_ok.2 (show allE [x = x] from ⟨rfl, trivial⟩)]; rfl
theorem onlyAt_eq {α : Type} {F : WF α} {x y : α} (h : (onlyAt F x y).1 = true) : y = x ∧ (F y).1 = true := by
  simp only [onlyAt, Bool.and_eq_true] at h
  exact ⟨(propB_ok.1 h.1).1, h.2⟩
/-- The law of contracts, where the table hangs on the argument. -/
theorem fn_Wx {E : Env} (hE : E.Sound) {f : FuncId} {fn : Func} {c : Code} (hf : E.P.funcs[f]? = some fn) (hb : fn.body = some c) (hgo : goFn E.P f = true) {α : Type} [ArgsE α] {N : Nat} (hN : ArgsE.len α ≤ N) {H : Hnd} {F : WF α} (x : α)
    (hl : ∀ G : Ctx, G.rd = none → G.n = N → HndOk E G H c) (hw : WOk (F x).2.1 (F x).2.2) (hF : DenOk (EndOk N (F x).2.1 (F x).2.2) (execW E H fn (ArgsE.vals 0 x) (ArgsE.blks 0 x) N)) : FSound E.P f (wFC (onlyAt F x)) := by
  refine fn_W hE hf hb hgo hN (H := fun _ => H) ⟨fun y _ G h1 h2 => hl G h1 h2⟩ ⟨fun y hy => ?_⟩
  obtain ⟨rfl, _⟩ := onlyAt_eq hy
  exact ⟨hw, hF⟩
end Go.SX
namespace Go.Proofs.Ytdaanchagjamfaa
open Go.SX
/-- An argument that is nil. -/
structure NilV where
  u : Unit
instance : Enc NilV where
  enc _ := .nils
  dec v := match v with
    | .nils => some ⟨()⟩
    | _ => none
  ok v x h := by
    split at h <;> (try (cases h; done))
    exact ⟨fun _ => rfl, rfl⟩
def nilW : Rw Int := ⟨0, fun _ => 0⟩
def noM : Int → Bool := fun _ => false
def resV (f g : Rw Int) (e : Int) : JSt := resJ 8 (.tup [.slz 0 0 f.n (.of 0), .slz 1 0 g.n (.of 0), .int false .i64 e]) [rwN 3 0 f, rwN 3 1 g]
set_option maxRecDepth 100000 in
theorem pa_g (pb : List Prop → Bool) (p : Play) (tabs holes : Rw Edge) (m : Int) (f : Rw Int) : (execW (mkE Try.prog (tab_on pb (onU p tabs holes (rangeK Try.f26 0).1 (rangeK Try.f26 0).2 nilW noM 0 nilW m f))) (hnd (mkE Try.prog (tab_on pb (onU p tabs holes (rangeK Try.f26 0).1 (rangeK Try.f26 0).2 nilW noM 0 nilW m f))) 2) Try.f26 (ArgsE.vals 0 (p, tabs, holes, ())) (ArgsE.blks 0 (p, tabs, holes, ())) 8) =
    Tree.need (true) (Tree.br (!p.ok) (Tree.leaf (AV.tup [AV.nils, AV.nils, AV.int true IntKind.i64 (1 : Int)]) ([])) (Tree.need (decide (tabs.n ≤ tabs.n) && true && decide (tabs.n ≤
    (1000 : Nat))) (Tree.br (!allN (fun i => (tabs.get i).ok) tabs.n) (Tree.leaf (AV.tup [AV.nils, AV.nils, AV.int true IntKind.i64 (1 : Int)]) ([])) (Tree.need (decide (holes.n ≤
    holes.n) && true && decide (holes.n ≤ (1000 : Nat))) (Tree.br (!allN (fun i => (holes.get i).ok) holes.n) (Tree.leaf (AV.tup [AV.nils, AV.nils, AV.int true IntKind.i64 (1 : Int)])
    ([])) (Tree.br (decide ((↑tabs.n : Int) > (8 : Int))) (Tree.leaf (AV.tup [AV.nils, AV.nils, AV.int true IntKind.i64 (3 : Int)]) ([])) (Tree.br (decide ((↑holes.n : Int) > (8 :
    Int))) (Tree.leaf (AV.tup [AV.nils, AV.nils, AV.int true IntKind.i64 (3 : Int)]) ([])) (Tree.need (decide (tabs.n ≤ tabs.n) && (true && true) && decide (tabs.n ≤ (1000 : Nat)))
    (Tree.br (decide (idxOf (firstN (kindE (FnB.mk (1 : Int)) tabs) tabs.n (0 : Nat)) ≥ (0 : Int))) (Tree.leaf (AV.tup [AV.nils, AV.nils, AV.int true IntKind.i64 (6 : Int)]) ([]))
    (Tree.need (decide (holes.n ≤ holes.n) && (true && true) && decide (holes.n ≤ (1000 : Nat))) (Tree.br (decide (idxOf (firstN (kindE (FnB.mk (2 : Int)) holes) holes.n (0 : Nat)) ≥ (0
    : Int))) (Tree.leaf (AV.tup [AV.nils, AV.nils, AV.int true IntKind.i64 (6 : Int)]) ([])) (Tree.br ((↑tabs.n : Int) != (↑holes.n : Int)) (Tree.leaf (AV.tup [AV.nils, AV.nils, AV.int
    true IntKind.i64 (2 : Int)]) ([])) (Tree.need (pb ([(0 : Nat) = (0 : Nat), (0 : Nat) = (0 : Nat), (0 : Nat) = (0 : Nat), (0 : Nat) = (0 : Nat), (0 : Nat) = (0 : Nat), (0 : Nat) = (0
    : Nat), (0 : Nat) = (0 : Nat), (0 : Nat) = (0 : Nat), (0 : Nat) = (0 : Nat), (0 : Nat) = (0 : Nat), (0 : Nat) = (0 : Nat), (0 : Nat) = (0 : Nat), (0 : Nat) = (0 : Nat), (0 : Nat) =
    (0 : Nat), (0 : Nat) = (0 : Nat), (0 : Nat) = (0 : Nat), ([] : List MapEntry) = [], MapNil (AV.bool true false) noM fun i => AV.bool false (noM i), LoopState.ready =
    LoopState.ready, (none : Option Code) = none, Array.mk [(56 : Nat)] = Array.mk [(56 : Nat)], (rangeK Try.f26 0).1 = (rangeK Try.f26 0).1, (rangeK Try.f26 0).2 = (rangeK Try.f26
    0).2, p.length = p.length, p.slack = p.slack, p.loose = p.loose, p.damp.lo = p.damp.lo, p.damp.hi = p.damp.hi, (0 : Nat) = (0 : Nat), tabs.n = tabs.n, Cap.of (0 : Nat) = Cap.of (0 :
    Nat), (0 : Nat) = (0 : Nat), holes.n = holes.n, Cap.of (0 : Nat) = Cap.of (0 : Nat), (0 : Nat) = (0 : Nat), (0 : Nat) = (0 : Nat), (0 : Nat) = (0 : Nat), (0 : Nat) = (0 : Nat), (0 :
    Nat) = (0 : Nat), (0 : Nat) = (0 : Nat), (0 : Nat) = (0 : Nat), (0 : Nat) = (0 : Nat), Fn.func (68 : Nat) = Fn.func (68 : Nat), (0 : Nat) = (0 : Nat), (0 : Nat) = (0 : Nat), false =
    false, p.length = p.length, p.slack = p.slack, p.loose = p.loose, p.damp.lo = p.damp.lo, p.damp.hi = p.damp.hi, p.ok = p.ok, (!p.ok) = !p.ok, false = false, (0 : Nat) = (0 : Nat),
    tabs.n = tabs.n, Cap.of (0 : Nat) = Cap.of (0 : Nat), allN (fun i => (tabs.get i).ok) tabs.n = allN (fun i => (tabs.get i).ok) tabs.n, (!allN (fun i => (tabs.get i).ok) tabs.n) =
    !allN (fun i => (tabs.get i).ok) tabs.n, (!allN (fun i => (tabs.get i).ok) tabs.n) = !allN (fun i => (tabs.get i).ok) tabs.n, false = false, (0 : Nat) = (0 : Nat), holes.n =
    holes.n, Cap.of (0 : Nat) = Cap.of (0 : Nat), allN (fun i => (holes.get i).ok) holes.n = allN (fun i => (holes.get i).ok) holes.n, (!allN (fun i => (holes.get i).ok) holes.n) =
    !allN (fun i => (holes.get i).ok) holes.n, (!allN (fun i => (holes.get i).ok) holes.n) = !allN (fun i => (holes.get i).ok) holes.n, false = false, (0 : Nat) = (0 : Nat), tabs.n =
    tabs.n, Cap.of (0 : Nat) = Cap.of (0 : Nat), (↑tabs.n : Int) = (↑tabs.n : Int), decide ((↑tabs.n : Int) > (8 : Int)) = decide ((↑tabs.n : Int) > (8 : Int)), false = false, (0 : Nat)
    = (0 : Nat), holes.n = holes.n, Cap.of (0 : Nat) = Cap.of (0 : Nat), (↑holes.n : Int) = (↑holes.n : Int), decide ((↑holes.n : Int) > (8 : Int)) = decide ((↑holes.n : Int) > (8 :
    Int)), decide ((↑holes.n : Int) > (8 : Int)) = decide ((↑holes.n : Int) > (8 : Int)), false = false, (0 : Nat) = (0 : Nat), tabs.n = tabs.n, Cap.of (0 : Nat) = Cap.of (0 : Nat),
    Fn.func (68 : Nat) = Fn.func (68 : Nat), Fn.func (69 : Nat) = Fn.func (69 : Nat), (0 : Nat) = (0 : Nat), (0 : Nat) = (0 : Nat), decide (idxOf (firstN (kindE (FnB.mk (1 : Int)) tabs)
    tabs.n (0 : Nat)) ≥ (0 : Int)) = decide (idxOf (firstN (kindE (FnB.mk (1 : Int)) tabs) tabs.n (0 : Nat)) ≥ (0 : Int)), false = false, (0 : Nat) = (0 : Nat), holes.n = holes.n,
    Cap.of (0 : Nat) = Cap.of (0 : Nat), Fn.func (68 : Nat) = Fn.func (68 : Nat), Fn.func (69 : Nat) = Fn.func (69 : Nat), (0 : Nat) = (0 : Nat), (0 : Nat) = (0 : Nat), decide (idxOf
    (firstN (kindE (FnB.mk (2 : Int)) holes) holes.n (0 : Nat)) ≥ (0 : Int)) = decide (idxOf (firstN (kindE (FnB.mk (2 : Int)) holes) holes.n (0 : Nat)) ≥ (0 : Int)), decide (idxOf
    (firstN (kindE (FnB.mk (2 : Int)) holes) holes.n (0 : Nat)) ≥ (0 : Int)) = decide (idxOf (firstN (kindE (FnB.mk (2 : Int)) holes) holes.n (0 : Nat)) ≥ (0 : Int)), false = false, (0
    : Nat) = (0 : Nat), tabs.n = tabs.n, Cap.of (0 : Nat) = Cap.of (0 : Nat), (↑tabs.n : Int) = (↑tabs.n : Int), (0 : Nat) = (0 : Nat), holes.n = holes.n, Cap.of (0 : Nat) = Cap.of (0 :
    Nat), (↑holes.n : Int) = (↑holes.n : Int), ((↑tabs.n : Int) != (↑holes.n : Int)) = ((↑tabs.n : Int) != (↑holes.n : Int)), p.length = p.length, p.slack = p.slack, p.loose = p.loose,
    p.damp.lo = p.damp.lo, p.damp.hi = p.damp.hi, (0 : Nat) = (0 : Nat), tabs.n = tabs.n, Cap.of (0 : Nat) = Cap.of (0 : Nat), (0 : Nat) = (0 : Nat), holes.n = holes.n, Cap.of (0 : Nat)
    = Cap.of (0 : Nat), Fn.func (84 : Nat) = Fn.func (84 : Nat), (0 : Nat) = (0 : Nat), (0 : Nat) = (0 : Nat), (0 : Nat) = (0 : Nat), (0 : Nat) = (0 : Nat), (0 : Nat) = (0 : Nat), (0 :
    Nat) = (0 : Nat), (0 : Int) = (0 : Int), (0 : Int) = (0 : Int), (0 : Nat) = (0 : Nat), (0 : Nat) = (0 : Nat), Fn.func (85 : Nat) = Fn.func (85 : Nat), (0 : Nat) = (0 : Nat), (0 :
    Nat) = (0 : Nat), (0 : Nat) = (0 : Nat), (0 : Nat) = (0 : Nat), (0 : Nat) = (0 : Nat), (0 : Nat) = (0 : Nat), (0 : Nat) = (0 : Nat), (0 : Nat) = (0 : Nat), (0 : Nat) = (0 : Nat), (0
    : Nat) = (0 : Nat), (0 : Nat) = (0 : Nat), (0 : Nat) = (0 : Nat), (0 : Nat) = (0 : Nat), (0 : Nat) = (0 : Nat), (0 : Nat) = (0 : Nat), holes.n = holes.n, Cap.of (0 : Nat) = Cap.of
    (0 : Nat), (0 : Nat) = (0 : Nat), tabs.n = tabs.n, Cap.of (0 : Nat) = Cap.of (0 : Nat), p.length = p.length, p.slack = p.slack, p.loose = p.loose, p.damp.lo = p.damp.lo, p.damp.hi =
    p.damp.hi, tabs.n ≤ tabs.n, RowsEq (7 : Nat) tabs.n (fun i => RowT.enc (tabs.get i)) fun i => RowT.enc (tabs.get i), holes.n ≤ holes.n, RowsEq (7 : Nat) holes.n (fun i => RowT.enc
    (holes.get i)) fun i => RowT.enc (holes.get i)])) (Tree.br (m == (0 : Int)) (Tree.leaf (AV.tup [AV.nils, AV.nils, AV.int true IntKind.i64 (4 : Int)]) ([])) (Tree.leaf (AV.tup
    [AV.slz (585 : Nat) (0 : Nat) f.n (Cap.of (0 : Nat)), AV.nils, AV.int true IntKind.i64 (0 : Int)]) ([((585 : Nat), Blk.rowz true (3 : Nat) [CK.int IntKind.i64] f.n fun i => RowT.enc
    (f.get i))])))))))))))))))) := by kernel_rfl
set_option maxRecDepth 100000 in
theorem pa_s (pb : List Prop → Bool) (p : Play) (tabs holes : Rw Edge) (f g : Rw Int) : (execW (mkE Try.prog (tab_on pb (onS p tabs holes (rangeK Try.f26 0).1 (rangeK Try.f26 0).2 nilW noM 0 nilW f g))) (hnd (mkE Try.prog (tab_on pb (onS p tabs holes (rangeK Try.f26 0).1 (rangeK Try.f26 0).2 nilW noM 0 nilW f g))) 2) Try.f26 (ArgsE.vals 0 (p, tabs, holes, ())) (ArgsE.blks 0 (p, tabs, holes, ())) 8) =
    Tree.need (true) (Tree.br (!p.ok) (Tree.leaf (AV.tup [AV.nils, AV.nils, AV.int true IntKind.i64 (1 : Int)]) ([])) (Tree.need (decide (tabs.n ≤ tabs.n) && true && decide (tabs.n ≤
    (1000 : Nat))) (Tree.br (!allN (fun i => (tabs.get i).ok) tabs.n) (Tree.leaf (AV.tup [AV.nils, AV.nils, AV.int true IntKind.i64 (1 : Int)]) ([])) (Tree.need (decide (holes.n ≤
    holes.n) && true && decide (holes.n ≤ (1000 : Nat))) (Tree.br (!allN (fun i => (holes.get i).ok) holes.n) (Tree.leaf (AV.tup [AV.nils, AV.nils, AV.int true IntKind.i64 (1 : Int)])
    ([])) (Tree.br (decide ((↑tabs.n : Int) > (8 : Int))) (Tree.leaf (AV.tup [AV.nils, AV.nils, AV.int true IntKind.i64 (3 : Int)]) ([])) (Tree.br (decide ((↑holes.n : Int) > (8 :
    Int))) (Tree.leaf (AV.tup [AV.nils, AV.nils, AV.int true IntKind.i64 (3 : Int)]) ([])) (Tree.need (decide (tabs.n ≤ tabs.n) && (true && true) && decide (tabs.n ≤ (1000 : Nat)))
    (Tree.br (decide (idxOf (firstN (kindE (FnB.mk (1 : Int)) tabs) tabs.n (0 : Nat)) ≥ (0 : Int))) (Tree.leaf (AV.tup [AV.nils, AV.nils, AV.int true IntKind.i64 (6 : Int)]) ([]))
    (Tree.need (decide (holes.n ≤ holes.n) && (true && true) && decide (holes.n ≤ (1000 : Nat))) (Tree.br (decide (idxOf (firstN (kindE (FnB.mk (2 : Int)) holes) holes.n (0 : Nat)) ≥ (0
    : Int))) (Tree.leaf (AV.tup [AV.nils, AV.nils, AV.int true IntKind.i64 (6 : Int)]) ([])) (Tree.br ((↑tabs.n : Int) != (↑holes.n : Int)) (Tree.leaf (AV.tup [AV.nils, AV.nils, AV.int
    true IntKind.i64 (2 : Int)]) ([])) (Tree.need (pb ([(0 : Nat) = (0 : Nat), (0 : Nat) = (0 : Nat), (0 : Nat) = (0 : Nat), (0 : Nat) = (0 : Nat), (0 : Nat) = (0 : Nat), (0 : Nat) = (0
    : Nat), (0 : Nat) = (0 : Nat), (0 : Nat) = (0 : Nat), (0 : Nat) = (0 : Nat), (0 : Nat) = (0 : Nat), (0 : Nat) = (0 : Nat), (0 : Nat) = (0 : Nat), (0 : Nat) = (0 : Nat), (0 : Nat) =
    (0 : Nat), (0 : Nat) = (0 : Nat), (0 : Nat) = (0 : Nat), ([] : List MapEntry) = [], MapNil (AV.bool true false) noM fun i => AV.bool false (noM i), LoopState.ready =
    LoopState.ready, (none : Option Code) = none, Array.mk [(56 : Nat)] = Array.mk [(56 : Nat)], (rangeK Try.f26 0).1 = (rangeK Try.f26 0).1, (rangeK Try.f26 0).2 = (rangeK Try.f26
    0).2, p.length = p.length, p.slack = p.slack, p.loose = p.loose, p.damp.lo = p.damp.lo, p.damp.hi = p.damp.hi, (0 : Nat) = (0 : Nat), tabs.n = tabs.n, Cap.of (0 : Nat) = Cap.of (0 :
    Nat), (0 : Nat) = (0 : Nat), holes.n = holes.n, Cap.of (0 : Nat) = Cap.of (0 : Nat), (0 : Nat) = (0 : Nat), (0 : Nat) = (0 : Nat), (0 : Nat) = (0 : Nat), (0 : Nat) = (0 : Nat), (0 :
    Nat) = (0 : Nat), (0 : Nat) = (0 : Nat), (0 : Nat) = (0 : Nat), (0 : Nat) = (0 : Nat), Fn.func (68 : Nat) = Fn.func (68 : Nat), (0 : Nat) = (0 : Nat), (0 : Nat) = (0 : Nat), false =
    false, p.length = p.length, p.slack = p.slack, p.loose = p.loose, p.damp.lo = p.damp.lo, p.damp.hi = p.damp.hi, p.ok = p.ok, (!p.ok) = !p.ok, false = false, (0 : Nat) = (0 : Nat),
    tabs.n = tabs.n, Cap.of (0 : Nat) = Cap.of (0 : Nat), allN (fun i => (tabs.get i).ok) tabs.n = allN (fun i => (tabs.get i).ok) tabs.n, (!allN (fun i => (tabs.get i).ok) tabs.n) =
    !allN (fun i => (tabs.get i).ok) tabs.n, (!allN (fun i => (tabs.get i).ok) tabs.n) = !allN (fun i => (tabs.get i).ok) tabs.n, false = false, (0 : Nat) = (0 : Nat), holes.n =
    holes.n, Cap.of (0 : Nat) = Cap.of (0 : Nat), allN (fun i => (holes.get i).ok) holes.n = allN (fun i => (holes.get i).ok) holes.n, (!allN (fun i => (holes.get i).ok) holes.n) =
    !allN (fun i => (holes.get i).ok) holes.n, (!allN (fun i => (holes.get i).ok) holes.n) = !allN (fun i => (holes.get i).ok) holes.n, false = false, (0 : Nat) = (0 : Nat), tabs.n =
    tabs.n, Cap.of (0 : Nat) = Cap.of (0 : Nat), (↑tabs.n : Int) = (↑tabs.n : Int), decide ((↑tabs.n : Int) > (8 : Int)) = decide ((↑tabs.n : Int) > (8 : Int)), false = false, (0 : Nat)
    = (0 : Nat), holes.n = holes.n, Cap.of (0 : Nat) = Cap.of (0 : Nat), (↑holes.n : Int) = (↑holes.n : Int), decide ((↑holes.n : Int) > (8 : Int)) = decide ((↑holes.n : Int) > (8 :
    Int)), decide ((↑holes.n : Int) > (8 : Int)) = decide ((↑holes.n : Int) > (8 : Int)), false = false, (0 : Nat) = (0 : Nat), tabs.n = tabs.n, Cap.of (0 : Nat) = Cap.of (0 : Nat),
    Fn.func (68 : Nat) = Fn.func (68 : Nat), Fn.func (69 : Nat) = Fn.func (69 : Nat), (0 : Nat) = (0 : Nat), (0 : Nat) = (0 : Nat), decide (idxOf (firstN (kindE (FnB.mk (1 : Int)) tabs)
    tabs.n (0 : Nat)) ≥ (0 : Int)) = decide (idxOf (firstN (kindE (FnB.mk (1 : Int)) tabs) tabs.n (0 : Nat)) ≥ (0 : Int)), false = false, (0 : Nat) = (0 : Nat), holes.n = holes.n,
    Cap.of (0 : Nat) = Cap.of (0 : Nat), Fn.func (68 : Nat) = Fn.func (68 : Nat), Fn.func (69 : Nat) = Fn.func (69 : Nat), (0 : Nat) = (0 : Nat), (0 : Nat) = (0 : Nat), decide (idxOf
    (firstN (kindE (FnB.mk (2 : Int)) holes) holes.n (0 : Nat)) ≥ (0 : Int)) = decide (idxOf (firstN (kindE (FnB.mk (2 : Int)) holes) holes.n (0 : Nat)) ≥ (0 : Int)), decide (idxOf
    (firstN (kindE (FnB.mk (2 : Int)) holes) holes.n (0 : Nat)) ≥ (0 : Int)) = decide (idxOf (firstN (kindE (FnB.mk (2 : Int)) holes) holes.n (0 : Nat)) ≥ (0 : Int)), false = false, (0
    : Nat) = (0 : Nat), tabs.n = tabs.n, Cap.of (0 : Nat) = Cap.of (0 : Nat), (↑tabs.n : Int) = (↑tabs.n : Int), (0 : Nat) = (0 : Nat), holes.n = holes.n, Cap.of (0 : Nat) = Cap.of (0 :
    Nat), (↑holes.n : Int) = (↑holes.n : Int), ((↑tabs.n : Int) != (↑holes.n : Int)) = ((↑tabs.n : Int) != (↑holes.n : Int)), p.length = p.length, p.slack = p.slack, p.loose = p.loose,
    p.damp.lo = p.damp.lo, p.damp.hi = p.damp.hi, (0 : Nat) = (0 : Nat), tabs.n = tabs.n, Cap.of (0 : Nat) = Cap.of (0 : Nat), (0 : Nat) = (0 : Nat), holes.n = holes.n, Cap.of (0 : Nat)
    = Cap.of (0 : Nat), Fn.func (84 : Nat) = Fn.func (84 : Nat), (0 : Nat) = (0 : Nat), (0 : Nat) = (0 : Nat), (0 : Nat) = (0 : Nat), (0 : Nat) = (0 : Nat), (0 : Nat) = (0 : Nat), (0 :
    Nat) = (0 : Nat), (0 : Int) = (0 : Int), (0 : Int) = (0 : Int), (0 : Nat) = (0 : Nat), (0 : Nat) = (0 : Nat), Fn.func (85 : Nat) = Fn.func (85 : Nat), (0 : Nat) = (0 : Nat), (0 :
    Nat) = (0 : Nat), (0 : Nat) = (0 : Nat), (0 : Nat) = (0 : Nat), (0 : Nat) = (0 : Nat), (0 : Nat) = (0 : Nat), (0 : Nat) = (0 : Nat), (0 : Nat) = (0 : Nat), (0 : Nat) = (0 : Nat), (0
    : Nat) = (0 : Nat), (0 : Nat) = (0 : Nat), (0 : Nat) = (0 : Nat), (0 : Nat) = (0 : Nat), (0 : Nat) = (0 : Nat), (0 : Nat) = (0 : Nat), holes.n = holes.n, Cap.of (0 : Nat) = Cap.of
    (0 : Nat), (0 : Nat) = (0 : Nat), tabs.n = tabs.n, Cap.of (0 : Nat) = Cap.of (0 : Nat), p.length = p.length, p.slack = p.slack, p.loose = p.loose, p.damp.lo = p.damp.lo, p.damp.hi =
    p.damp.hi, tabs.n ≤ tabs.n, RowsEq (7 : Nat) tabs.n (fun i => RowT.enc (tabs.get i)) fun i => RowT.enc (tabs.get i), holes.n ≤ holes.n, RowsEq (7 : Nat) holes.n (fun i => RowT.enc
    (holes.get i)) fun i => RowT.enc (holes.get i)])) (Tree.leaf (AV.tup [AV.slz (585 : Nat) (0 : Nat) f.n (Cap.of (0 : Nat)), AV.slz (586 : Nat) (0 : Nat) g.n (Cap.of (0 : Nat)),
    AV.int false IntKind.i64 (0 : Int)]) ([((585 : Nat), Blk.rowz true (3 : Nat) [CK.int IntKind.i64] f.n fun i => RowT.enc (f.get i)), ((586 : Nat), Blk.rowz true (3 : Nat) [CK.int
    IntKind.i64] g.n fun i => RowT.enc (g.get i))]))))))))))))))) := by kernel_rfl
def clNF : NilV × Unit → Bool × AV := fun | (x, _) => (true, .nils)
def clNC : FC := pureFC (pfOf clNF)
set_option maxRecDepth 100000 in
theorem clN_t (x : NilV) : execFn (mkE Try.prog tab_conk) (hnd (mkE Try.prog tab_conk) 0) false Try.f86 (EncL.enc ((x, ()) : NilV × Unit)) [] 0 =
    Tree.leaf (AV.nils) ([]) := by kernel_rfl
theorem clN_s : FSound Try.prog 86 clNC := by
  refine plain_fn tab_conk_ok 0 Try.func86 (by kernel_rfl) (by kernel_rfl) ?_
  rintro ⟨x, ⟨⟩⟩ hp
  rw [clN_t x]
  simp only [clNF, Tree.den, AV.same, AV.sameL, and_true, true_and] at hp ⊢
def tab_clN : Tab := addF tab_conk 86 clNC
theorem tab_clN_ok : TabOk tab_clN := tab_conk_ok.add clN_s
set_option maxRecDepth 100000 in
theorem pa_0 (p : Play) (tabs holes : Rw Edge) : (execW (mkE Try.prog tab_clN) (hnd (mkE Try.prog tab_clN) 5) Try.f26 (ArgsE.vals 0 (p, tabs, holes, ())) (ArgsE.blks 0 (p, tabs, holes, ())) 8) =
    Tree.need (true) (Tree.br (!p.ok) (Tree.leaf (AV.tup [AV.nils, AV.nils, AV.int true IntKind.i64 (1 : Int)]) ([])) (Tree.need (decide (tabs.n ≤ tabs.n) && true && decide (tabs.n ≤ (1000 : Nat))) (Tree.br (!allN (fun i => (tabs.get i).ok) tabs.n) (Tree.leaf (AV.tup [AV.nils, AV.nils, AV.int true IntKind.i64 (1 : Int)]) ([])) (Tree.need (decide (holes.n ≤ holes.n) && true && decide (holes.n ≤ (1000 : Nat))) (Tree.br (!allN (fun i => (holes.get i).ok) holes.n) (Tree.leaf (AV.tup [AV.nils, AV.nils, AV.int true IntKind.i64 (1 : Int)]) ([])) (Tree.br (decide ((↑tabs.n : Int) > (8 : Int))) (Tree.leaf (AV.tup [AV.nils, AV.nils, AV.int true IntKind.i64 (3 : Int)]) ([])) (Tree.br (decide ((↑holes.n : Int) > (8 : Int))) (Tree.leaf (AV.tup [AV.nils, AV.nils, AV.int true IntKind.i64 (3 : Int)]) ([])) (Tree.need (decide (tabs.n ≤ tabs.n) && (true && true) && decide (tabs.n ≤ (1000 : Nat))) (Tree.br (decide (idxOf (firstN (kindE (FnB.mk (1 : Int)) tabs) tabs.n (0 : Nat)) ≥ (0 : Int))) (Tree.leaf (AV.tup [AV.nils, AV.nils, AV.int true IntKind.i64 (6 : Int)]) ([])) (Tree.need (decide (holes.n ≤ holes.n) && (true && true) && decide (holes.n ≤ (1000 : Nat))) (Tree.br (decide (idxOf (firstN (kindE (FnB.mk (2 : Int)) holes) holes.n (0 : Nat)) ≥ (0 : Int))) (Tree.leaf (AV.tup [AV.nils, AV.nils, AV.int true IntKind.i64 (6 : Int)]) ([])) (Tree.br ((↑tabs.n : Int) != (↑holes.n : Int)) (Tree.leaf (AV.tup [AV.nils, AV.nils, AV.int true IntKind.i64 (2 : Int)]) ([])) (Tree.br ((0 : Int) == (↑tabs.n : Int)) (Tree.leaf (AV.tup [AV.nils, AV.nils, AV.int true IntKind.i64 (0 : Int)]) ([])) (Tree.br (decide ((0 : Int) < (↑holes.n : Int))) (Tree.need (decide ((0 : Int) ≤ (0 : Int) ∧ (0 : Int) < (↑holes.n : Int)) && decide (holes.n ≤ holes.n)) (Tree.need (decide (Int.toNat (0 : Int) < holes.n)) (Tree.need (decide ((0 : Int) ≤ (0 : Int) ∧ (0 : Int) < (↑tabs.n : Int)) && decide (tabs.n ≤ tabs.n)) (Tree.need (decide (Int.toNat (0 : Int) < tabs.n)) (Tree.need (okP p (tabs.get (Int.toNat (0 : Int))) (holes.get (Int.toNat (0 : Int)))) (Tree.br (fitsF p (tabs.get (Int.toNat (0 : Int))) (holes.get (Int.toNat (0 : Int))) == (0 : Int)) (Tree.br (decide ((1 : Int) < (↑holes.n : Int))) (Tree.need (decide ((0 : Int) ≤ (1 : Int) ∧ (1 : Int) < (↑holes.n : Int)) && decide (holes.n ≤ holes.n)) (Tree.need (decide (Int.toNat (1 : Int) < holes.n)) (Tree.need (decide ((0 : Int) ≤ (0 : Int) ∧ (0 : Int) < (↑tabs.n : Int)) && decide (tabs.n ≤ tabs.n)) (Tree.need (decide (Int.toNat (0 : Int) < tabs.n)) (Tree.need (okP p (tabs.get (Int.toNat (0 : Int))) (holes.get (Int.toNat (1 : Int)))) (Tree.br (fitsF p (tabs.get (Int.toNat (0 : Int))) (holes.get (Int.toNat (1 : Int))) == (0 : Int)) (Tree.fail ("a loop")) (Tree.fail ("a call without a contract")))))))) (Tree.leaf (AV.tup [AV.nils, AV.nils, AV.int true IntKind.i64 (4 : Int)]) ([]))) (Tree.br ((↑(1 : Nat) : Int) == (↑tabs.n : Int)) (Tree.fail ("fit.go:258")) (Tree.fail ("a loop"))))))))) (Tree.leaf (AV.tup [AV.nils, AV.nils, AV.int true IntKind.i64 (4 : Int)]) ([])))))))))))))))) := by kernel_rfl
set_option maxRecDepth 100000 in
theorem pr_e (e e' : Int) (f g : Rw Int) : subE 8 [.tup [.nils, .nils, .int true .i64 e]] [] (resV f g e') = (
    some [f.n = (0 : Nat), g.n = (0 : Nat), e = e', f.n = (0 : Nat), g.n = (0 : Nat)]) := by kernel_rfl
set_option maxRecDepth 100000 in
theorem pr_g (f f' g' : Rw Int) (e : Int) : subE 8 [(AV.tup [AV.slz (585 : Nat) (0 : Nat) f.n (Cap.of (0 : Nat)), AV.nils, AV.int true IntKind.i64 (0 : Int)])] ([((585 : Nat), Blk.rowz true (3 : Nat) [CK.int IntKind.i64] f.n fun i => RowT.enc (f.get i))]) (resV f' g' e) = (
    some [(0 : Nat) = (0 : Nat), f.n = f'.n, Cap.of (0 : Nat) = Cap.of (0 : Nat), g'.n = (0 : Nat), (0 : Int) = e, f'.n ≤ f.n, RowsEq (1 : Nat) f'.n (fun i => RowT.enc (f.get i)) fun i
    => RowT.enc (f'.get i), g'.n = (0 : Nat)]) := by kernel_rfl
set_option maxRecDepth 100000 in
theorem pr_s (f g f' g' : Rw Int) (e : Int) : subE 8 [(AV.tup [AV.slz (585 : Nat) (0 : Nat) f.n (Cap.of (0 : Nat)), AV.slz (586 : Nat) (0 : Nat) g.n (Cap.of (0 : Nat)), AV.int false IntKind.i64 (0 : Int)])] ([((585 : Nat), Blk.rowz true (3 : Nat) [CK.int IntKind.i64] f.n fun i => RowT.enc (f.get i)), ((586 : Nat), Blk.rowz true (3 : Nat) [CK.int IntKind.i64] g.n fun i => RowT.enc (g.get i))]) (resV f' g' e) = (
    some [(0 : Nat) = (0 : Nat), f.n = f'.n, Cap.of (0 : Nat) = Cap.of (0 : Nat), (0 : Nat) = (0 : Nat), g.n = g'.n, Cap.of (0 : Nat) = Cap.of (0 : Nat), (0 : Int) = e, f'.n ≤ f.n,
    RowsEq (1 : Nat) f'.n (fun i => RowT.enc (f.get i)) fun i => RowT.enc (f'.get i), g'.n ≤ g.n, RowsEq (1 : Nat) g'.n (fun i => RowT.enc (g.get i)) fun i => RowT.enc (g'.get i)]) := by kernel_rfl
def badK (j : Int) (l : Rw Edge) : Bool := decide (idxOf (firstN (kindE (FnB.mk j) l) l.n 0) ≥ 0)
def pairsR (p : Play) (tabs holes : Rw Edge) : PRes := onP p tabs holes tabs.n nilW noM 0 nilW
def pairsO : PRes → Rw Int × Rw Int × Int
  | .go m f => cond (m == 0) (nilW, nilW, 4) (f, nilW, 0)
  | .stop f g => (f, g, 0)
def pairsV (p : Play) (tabs holes : Rw Edge) : Rw Int × Rw Int × Int :=
  cond (!p.ok) (nilW, nilW, 1) (cond (!allN (fun i => (tabs.get i).ok) tabs.n) (nilW, nilW, 1) (cond (!allN (fun i => (holes.get i).ok) holes.n) (nilW, nilW, 1)
    (cond (decide ((tabs.n : Int) > 8)) (nilW, nilW, 3) (cond (decide ((holes.n : Int) > 8)) (nilW, nilW, 3) (cond (badK 1 tabs) (nilW, nilW, 6) (cond (badK 2 holes) (nilW, nilW, 6) (cond ((tabs.n : Int) != holes.n) (nilW, nilW, 2) (pairsO (pairsR p tabs holes)))))))))
def pairsF : WF (Play × Rw Edge × Rw Edge × Unit) := fun | (p, tabs, holes, _) => (decide (tabs.n ≤ 1000 ∧ holes.n ≤ 1000), .tup [.slz 0 0 (pairsV p tabs holes).1.n (.of 0), .slz 1 0 (pairsV p tabs holes).2.1.n (.of 0), .int false .i64 (pairsV p tabs holes).2.2], [rwN 3 0 (pairsV p tabs holes).1, rwN 3 1 (pairsV p tabs holes).2.1])
def pairsC : FC := wFC pairsF
theorem pairs_new (p : Play) (tabs holes : Rw Edge) : WOk (pairsF (p, tabs, holes, ())).2.1 (pairsF (p, tabs, holes, ())).2.2 := ⟨rfl, by simp [pairsF, rwN, Blk.own, Blk.all], rfl⟩
theorem pairs_no {p : Play} {tabs holes : Rw Edge} {e : Int} (h : pairsV p tabs holes = (nilW, nilW, e)) : (Tree.leaf (AV.tup [AV.nils, AV.nils, AV.int true IntKind.i64 e]) []).den (EndOk 8 (pairsF (p, tabs, holes, ())).2.1 (pairsF (p, tabs, holes, ())).2.2) := by
  simp only [pairsF, h]
  refine ⟨rfl, rfl, _, pr_e e e nilW nilW, ?_⟩
  repeat' first | exact trivial | with_reducible rfl | exact (rfl : nilW.n = 0) | refine And.intro ?_ ?_
structure GoodP (p : Play) (tabs holes : Rw Edge) : Prop where
  ok : p.ok = true
  okT : allN (fun i => (tabs.get i).ok) tabs.n = true
  okH : allN (fun i => (holes.get i).ok) holes.n = true
  t8 : tabs.n ≤ 8
  h8 : holes.n ≤ 8
  kT : badK 1 tabs = false
  kH : badK 2 holes = false
  eq : tabs.n = holes.n
theorem pairs_good {p : Play} {tabs holes : Rw Edge} (h : GoodP p tabs holes) : pairsV p tabs holes = pairsO (pairsR p tabs holes) := by
  obtain ⟨h1, h2, h3, h4, h5, h6, h7, h8⟩ := h
  have e1 : decide ((tabs.n : Int) > 8) = false := by simp; omega
  have e2 : decide ((holes.n : Int) > 8) = false := by simp; omega
  have e3 : ((tabs.n : Int) != holes.n) = false := by rw [h8]; simp
  simp only [pairsV, h1, h2, h3, h6, h7, e1, e2, e3, Bool.not_true, cond_false]
end Go.Proofs.Ytdaanchagjamfaa
/- Pairs: its contract. -/
namespace Go.Proofs.Ytdaanchagjamfaa
open Go.SX
abbrev noL (e : Int) : Tree := .leaf (.tup [.nils, .nils, .int true .i64 e]) []
theorem pairs_pre {p : Play} {tabs holes : Rw Edge} {T : Tree} {Q : AV → List (Nat × Blk) → Prop} (hc : tabs.n ≤ 1000 ∧ holes.n ≤ 1000) (no : ∀ e, pairsV p tabs holes = (nilW, nilW, e) → (noL e).den Q) (fin : GoodP p tabs holes → T.den Q) :
    (Tree.need true (.br (!p.ok) (noL 1) (.need (decide (tabs.n ≤ tabs.n) && true && decide (tabs.n ≤ 1000)) (.br (!allN (fun i => (tabs.get i).ok) tabs.n) (noL 1) (.need (decide (holes.n ≤ holes.n) && true && decide (holes.n ≤ 1000)) (.br (!allN (fun i => (holes.get i).ok) holes.n) (noL 1)
      (.br (decide ((tabs.n : Int) > 8)) (noL 3) (.br (decide ((holes.n : Int) > 8)) (noL 3) (.need (decide (tabs.n ≤ tabs.n) && (true && true) && decide (tabs.n ≤ 1000)) (.br (badK 1 tabs) (noL 6) (.need (decide (holes.n ≤ holes.n) && (true && true) && decide (holes.n ≤ 1000)) (.br (badK 2 holes) (noL 6)
      (.br ((tabs.n : Int) != holes.n) (noL 2) T))))))))))))).den Q := by
  have b1 : decide (tabs.n ≤ tabs.n) = true := by simp
  have b2 : decide (holes.n ≤ holes.n) = true := by simp
  have b3 : decide (tabs.n ≤ 1000) = true := by simp; omega
  have b4 : decide (holes.n ≤ 1000) = true := by simp; omega
  refine den_need rfl (den_br (fun h => no 1 (by simp only [pairsV, h, cond_true])) (fun a1 => den_need (by rw [b1, b3]; rfl) (den_br (fun h => no 1 (by simp only [pairsV, a1, h, cond_true, cond_false])) (fun a2 => den_need (by rw [b2, b4]; rfl) (den_br (fun h => no 1 (by simp only [pairsV, a1, a2, h, cond_true, cond_false])) (fun a3 => ?_))))))
  refine den_br (fun h => no 3 (by simp only [pairsV, a1, a2, a3, h, cond_true, cond_false])) (fun a4 => den_br (fun h => no 3 (by simp only [pairsV, a1, a2, a3, a4, h, cond_true, cond_false])) (fun a5 => ?_))
  refine den_need (by rw [b1, b3]; rfl) (den_br (fun h => no 6 (by simp only [pairsV, a1, a2, a3, a4, a5, h, cond_true, cond_false])) (fun a6 => den_need (by rw [b2, b4]; rfl) (den_br (fun h => no 6 (by simp only [pairsV, a1, a2, a3, a4, a5, a6, h, cond_true, cond_false])) (fun a7 => ?_))))
  refine den_br (fun h => no 2 (by simp only [pairsV, a1, a2, a3, a4, a5, a6, a7, h, cond_true, cond_false])) (fun a8 => fin ⟨by simpa using a1, by simpa using a2, by simpa using a3, ?_, ?_, a6, a7, ?_⟩)
  · have := of_decide_eq_false a4; omega
  · have := of_decide_eq_false a5; omega
  · simp only [bne_eq_false_iff_eq] at a8; omega
theorem mapNil_no : MapNil (AV.bool true false) noM fun i => AV.bool false (noM i) := ⟨rfl, fun _ => rfl, fun _ => ⟨fun _ => rfl, rfl⟩⟩
set_option maxRecDepth 100000 in
theorem pairs_0 {p : Play} {tabs holes : Rw Edge} (hc : tabs.n ≤ 1000 ∧ holes.n ≤ 1000) (h : GoodP p tabs holes → tabs.n = 0) : FSound Try.prog 26 (wFC (onlyAt pairsF (p, tabs, holes, ()))) := by
  refine fn_Wx (c := bodyOf Try.f26) (E := mkE Try.prog tab_clN) (H := hnd (mkE Try.prog tab_clN) 5) (mkE_ok tab_clN_ok) Try.func26 (by kernel_rfl) (by kernel_rfl) (N := 8) (by decide) (p, tabs, holes, ()) (fun G h1 _ => hnd_hndOk (mkE_ok tab_clN_ok) 5 G _ h1) (pairs_new p tabs holes) ⟨?_⟩
  refine den_of (pa_0 p tabs holes) ?_
  refine pairs_pre hc (fun e he => pairs_no he) (fun hg => ?_)
  have h0 := h hg
  have hv : pairsV p tabs holes = (nilW, nilW, 0) := by
    rw [pairs_good hg]
    simp only [pairsR, h0]
    rfl
  exact den_br (fun _ => pairs_no hv) (fun hn => by rw [h0] at hn; simp at hn)
set_option maxRecDepth 100000 in
theorem pairs_s {p : Play} {tabs holes : Rw Edge} (hc : tabs.n ≤ 1000 ∧ holes.n ≤ 1000) : FSound Try.prog 26 (wFC (onlyAt pairsF (p, tabs, holes, ()))) := by
  by_cases hg : GoodP p tabs holes ∧ 0 < tabs.n
  · obtain ⟨hg, hpos⟩ := hg
    have hP : PreP p tabs holes := ⟨hg.ok, hg.okT, hg.okH, hpos, hg.t8, hg.h8⟩
    have hS := on_s hP tabs.n nilW noM 0 nilW (Nat.zero_add _) (.inl rfl)
    have hv := pairs_good hg
    unfold pairsR at hv
    generalize onP p tabs holes tabs.n nilW noM 0 nilW = r at hS hv
    cases r with
    | go m f =>
      have hE : (mkE Try.prog (tab_on propB (onU p tabs holes (rangeK Try.f26 0).1 (rangeK Try.f26 0).2 nilW noM 0 nilW m f))).Sound := mkE_ok (tab_cl_ok.add hS)
      refine fn_Wx (c := bodyOf Try.f26) (E := mkE Try.prog (tab_on propB (onU p tabs holes (rangeK Try.f26 0).1 (rangeK Try.f26 0).2 nilW noM 0 nilW m f))) (H := hnd (mkE Try.prog (tab_on propB (onU p tabs holes (rangeK Try.f26 0).1 (rangeK Try.f26 0).2 nilW noM 0 nilW m f))) 2) hE Try.func26 (by kernel_rfl) (by kernel_rfl) (N := 8) (by decide) (p, tabs, holes, ()) (fun G h1 _ => hnd_hndOk hE 2 G _ h1) (pairs_new p tabs holes) ⟨?_⟩
      refine den_of (pa_g propB p tabs holes m f) ?_
      refine pairs_pre hc (fun e he => pairs_no he) (fun _ => ?_)
      refine den_need (propB_ok.2 ?_) (den_br (fun h0 => ?_) (fun h0 => ?_))
      · repeat' first | exact trivial | with_reducible rfl | exact Nat.le_refl _ | exact RowsEq.refl _ _ _ | exact mapNil_no | refine And.intro ?_ ?_
      · refine pairs_no ?_
        rw [hv]; simp only [pairsO, h0, cond_true]
      · simp only [pairsO, h0, cond_false] at hv
        simp only [pairsF, hv]
        refine ⟨rfl, rfl, _, pr_g f f nilW 0, ?_⟩
        repeat' first | exact trivial | with_reducible rfl | exact Nat.le_refl _ | exact RowsEq.refl _ _ _ | exact (rfl : nilW.n = 0) | refine And.intro ?_ ?_
    | stop f g =>
      have hE : (mkE Try.prog (tab_on propB (onS p tabs holes (rangeK Try.f26 0).1 (rangeK Try.f26 0).2 nilW noM 0 nilW f g))).Sound := mkE_ok (tab_cl_ok.add hS)
      refine fn_Wx (c := bodyOf Try.f26) (E := mkE Try.prog (tab_on propB (onS p tabs holes (rangeK Try.f26 0).1 (rangeK Try.f26 0).2 nilW noM 0 nilW f g))) (H := hnd (mkE Try.prog (tab_on propB (onS p tabs holes (rangeK Try.f26 0).1 (rangeK Try.f26 0).2 nilW noM 0 nilW f g))) 2) hE Try.func26 (by kernel_rfl) (by kernel_rfl) (N := 8) (by decide) (p, tabs, holes, ()) (fun G h1 _ => hnd_hndOk hE 2 G _ h1) (pairs_new p tabs holes) ⟨?_⟩
      refine den_of (pa_s propB p tabs holes f g) ?_
      refine pairs_pre hc (fun e he => pairs_no he) (fun _ => ?_)
      refine den_need (propB_ok.2 ?_) ?_
      · repeat' first | exact trivial | with_reducible rfl | exact Nat.le_refl _ | exact RowsEq.refl _ _ _ | exact mapNil_no | refine And.intro ?_ ?_
      · simp only [pairsO] at hv
        simp only [pairsF, hv]
        refine ⟨rfl, rfl, _, pr_s f g f g 0, ?_⟩
        repeat' first | exact trivial | with_reducible rfl | exact Nat.le_refl _ | exact RowsEq.refl _ _ _ | refine And.intro ?_ ?_
  · exact pairs_0 hc (fun h => by
      rcases Nat.eq_zero_or_pos tabs.n with e | e
      · exact e
      · exact absurd ⟨h, e⟩ hg)
theorem pairs_ok : FSound Try.prog 26 pairsC := fsound_each (by kernel_rfl) fun | (p, tabs, holes, ()), h => pairs_s (of_decide_eq_true h)
def tab_pairs : Tab := addF tab_cl 26 pairsC
theorem tab_pairs_ok : TabOk tab_pairs := tab_cl_ok.add pairs_ok
end Go.Proofs.Ytdaanchagjamfaa
/- The reference's list of all pairings, and the program's first and second one. -/
namespace Go.Proofs.Ytdaanchagjamfaa
open Go.SX
def getR (L : List (Rw Int)) (i : Nat) : Rw Int := L.getD i nilW
/-- A row of rows of one's own. -/
def rw2 (id : Nat) (L : List (Rw Int)) : Nat × Blk := (id, .frz2 true 43 [.int .i64] L.length (fun i => (getR L i).n) fun i j => RowT.enc ((getR L i).get j))
def eqW (w : Rw Int) (k : Int) (i : Nat) : Bool := w.get i == k
def hasV (w : Rw Int) (k : Int) : Bool := (firstN (eqW w k) w.n 0).isSome
def skipR (p : Play) (tabs holes : Rw Edge) (w : Rw Int) (k : Nat) : Bool := hasV w k || (fitsF p (tabs.get w.n) (holes.get k) == 0)
def pairK (skip : Nat → Bool) (rec : Nat → List (Rw Int)) : Nat → Nat → List (Rw Int)
  | 0, _ => []
  | c + 1, k => match skip k with
    | true => pairK skip rec c (k + 1)
    | false => rec k ++ pairK skip rec c (k + 1)
def pairL (p : Play) (tabs holes : Rw Edge) : Nat → Rw Int → List (Rw Int)
  | 0, w => [w]
  | d + 1, w => pairK (skipR p tabs holes w) (fun k => pairL p tabs holes d (snocW w k)) holes.n 0
def absP : Int → Rw Int → List (Rw Int) → PRes
  | m, f, [] => .go m f
  | m, f, x :: xs => match yieldP x m f with
    | .stop f g => .stop f g
    | .go m f => absP m f xs
theorem absP_app (b : List (Rw Int)) : ∀ (a : List (Rw Int)) (m : Int) (f : Rw Int), absP m f (a ++ b) = match absP m f a with
    | .stop f g => .stop f g
    | .go m f => absP m f b
  | [], m, f => rfl
  | x :: a, m, f => by
    simp only [List.cons_append, absP]
    cases yieldP x m f with
    | stop f g => rfl
    | go m f => exact absP_app b a m f
theorem firstN_some {p : Nat → Bool} : ∀ {m k : Nat}, (firstN p m k).isSome = true ↔ ∃ i, k ≤ i ∧ i < k + m ∧ p i = true
  | 0, k => by simp [firstN]; omega
  | m + 1, k => by
    simp only [firstN]
    cases h : p k with
    | true => simp only [Option.isSome_some, true_iff]; exact ⟨k, Nat.le_refl _, by omega, h⟩
    | false =>
      refine (firstN_some (p := p) (m := m) (k := k + 1)).trans ⟨fun ⟨i, h1, h2, h3⟩ => ⟨i, by omega, by omega, h3⟩, fun ⟨i, h1, h2, h3⟩ => ⟨i, ?_, by omega, h3⟩⟩
      rcases Nat.eq_or_lt_of_le h1 with rfl | h4
      · rw [h] at h3; cases h3
      · exact h4
theorem snocW_get (w : Rw Int) (k : Int) (i : Nat) : (snocW w k).get i = if i < w.n then w.get i else k := by
  show (match Nat.blt i w.n with | true => w.get i | false => k) = _
  by_cases h : i < w.n
  · rw [if_pos h, show Nat.blt i w.n = true by rw [Nat.blt_eq]; exact h]
  · rw [if_neg h]
    cases hb : Nat.blt i w.n with
    | false => rfl
    | true => rw [Nat.blt_eq] at hb; exact absurd hb h
theorem hasV_snoc (w : Rw Int) (k j : Int) : hasV (snocW w k) j = (decide (j = k) || hasV w j) := by
  rw [Bool.eq_iff_iff, Bool.or_eq_true, decide_eq_true_eq]
  unfold hasV
  rw [firstN_some, firstN_some]
  simp only [eqW, snocW_get, beq_iff_eq]
  have hn : (snocW w k).n = w.n + 1 := rfl
  rw [hn]
  constructor
  · rintro ⟨i, h1, h2, h3⟩
    split at h3
    · exact .inr ⟨i, h1, by omega, h3⟩
    · exact .inl h3.symm
  · rintro (rfl | ⟨i, h1, h2, h3⟩)
    · exact ⟨w.n, Nat.zero_le _, by omega, by rw [if_neg (Nat.lt_irrefl _)]⟩
    · exact ⟨i, h1, by omega, by rw [if_pos (by omega)]; exact h3⟩
theorem onP_abs (p : Play) (tabs holes : Rw Edge) : ∀ (d : Nat) (w : Rw Int) (has : Int → Bool) (m : Int) (f : Rw Int), (∀ j : Nat, has j = hasV w j) → onP p tabs holes d w has m f = absP m f (pairL p tabs holes d w)
  | 0, w, has, m, f, h => by
    simp only [onP, pairL, absP]
    cases yieldP w m f <;> rfl
  | d + 1, w, has, m, f, h => by
    simp only [onP, pairL]
    have key : ∀ (c k : Nat) (m : Int) (f : Rw Int), loopP (skipP p tabs holes w.n has) (fun k m f => onP p tabs holes d (snocW w k) (hasF k true has) m f) c k m f = absP m f (pairK (skipR p tabs holes w) (fun k => pairL p tabs holes d (snocW w k)) c k) := by
      intro c
      induction c with
      | zero => intro k m f; rfl
      | succ c ih =>
        intro k m f
        simp only [loopP, pairK]
        have hs : skipP p tabs holes w.n has k = skipR p tabs holes w k := by simp only [skipP, skipR, h k]
        rw [hs]
        cases skipR p tabs holes w k with
        | true => exact ih (k + 1) m f
        | false =>
          simp only
          rw [absP_app, onP_abs p tabs holes d (snocW w k) (hasF k true has) m f (fun j => by
            rw [hasV_snoc]
            simp only [hasF]
            by_cases e : (j : Int) = (k : Int)
            · rw [decide_eq_true e]; rfl
            · rw [decide_eq_false e]; exact h j)]
          cases absP m f (pairL p tabs holes d (snocW w k)) with
          | stop f g => rfl
          | go m f => exact ih (k + 1) m f
    exact key holes.n 0 m f
def resL : List (Rw Int) → Rw Int × Rw Int × Int
  | [] => (nilW, nilW, 4)
  | [a] => (a, nilW, 0)
  | a :: b :: _ => (a, b, 0)
theorem pairsO_abs (L : List (Rw Int)) : pairsO (absP 0 nilW L) = resL L := by
  match L with
  | [] => rfl
  | [a] => rfl
  | a :: b :: t => rfl
theorem pairsR_eq (p : Play) (tabs holes : Rw Edge) : pairsO (pairsR p tabs holes) = resL (pairL p tabs holes tabs.n nilW) := by
  unfold pairsR
  rw [onP_abs p tabs holes tabs.n nilW noM 0 nilW (fun j => rfl), pairsO_abs]
end Go.Proofs.Ytdaanchagjamfaa
