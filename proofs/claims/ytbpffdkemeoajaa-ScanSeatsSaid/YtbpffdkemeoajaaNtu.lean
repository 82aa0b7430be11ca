/- Check: its contract (layer 7). -/
import Derived.Test.YtbpffdkemeoajaaNtt
namespace Go.SX
open Go Go.RowKit Go.Proofs.Ytbpffdkemeoajaa
def askH (p : Prop) (L : St → (Ex → St → Tree) → Tree) (st : St) (K : Ex → St → Tree) : Tree := .ask p (L st K)
theorem askH_ok {E : Env} {G : Ctx} {c : Code} {p : Prop} {L : St → (Ex → St → Tree) → Tree} (h : p → CSound E G c L) : CSound E G c (askH p L) := by
  intro st K T Q a w hn hd hr hQ
  obtain ⟨h1, h2⟩ := (show p ∧ (L st K).den T from hd)
  exact h h1 st K T Q a w hn h2 hr hQ
end Go.SX
namespace Go.Proofs.Ytbpffdkemeoajaa
open Go.SX
def chkO (d : Puz) : Option Nat := firstN (chkQ d) (4 * d.ps.n) 0
def chkI (d : Puz) : Nat := (chkO d).getD 0
def chkX (d : Puz) : List (Prop × Ex × JSt) := [((chkO d).isSome = true, .ret, chkRet (chkI d / 4) (chkI d % 4)), (chkO d = none, .exit 0, chkEnd)]
abbrev chkH (P : Program) (d : Puz) : Hnd := { hnd (mkE P tab_beside) 1 with loop := fun _ => askH (DrawB d) (loopT 8 [] (chkJ d 0) (chkX d)) }
theorem chk_hnd (d : Puz) (G : Ctx) (hrd : G.rd = none) (hG : G.n = 8) : HndOk (mkE Try.prog tab_beside) G (chkH Try.prog d) (bodyOf Try.f13) := by
  refine one_loop (body := bodyK Try.f13 0) (mkE_ok tab_beside_ok) hrd (by kernel_rfl) ?_
  refine askH_ok fun hd => ?_
  refine loopT_ok (n0 := 8) (mkE_ok tab_beside_ok) (by omega) (fun s hs => hnd_hndOk (mkE_ok tab_beside_ok) 6 G _ hrd) (fun s hs => (by decide : 8 ≤ 96)) ?_ (chk_round d hd) (s0 := 0) (Nat.zero_le _) ?_
  · rintro s e J (⟨_, _, _, rfl⟩ | ⟨_, _, rfl⟩) <;> exact (by decide : 8 ≤ 96)
  · rintro e J (⟨i, rfl, h, rfl⟩ | ⟨rfl, h, rfl⟩)
    · have h : chkO d = some i := h
      refine ⟨_, List.mem_cons_self, by simp only [h]; rfl, rfl, ?_⟩
      simp only [chkI, h]; rfl
    · exact ⟨_, List.mem_cons_of_mem _ List.mem_cons_self, h, rfl, rfl⟩
def chkV (d : Puz) : Int × Int × Int := match d.ok with
  | false => (0, 0, 1)
  | true => (match chkO d with
    | some i => (((i / 4 : Nat) : Int), ((i % 4 : Nat) : Int), 0)
    | none => (0, 0, 4))
def chkF : WF (Puz × Unit) := fun | (d, _) => (decide (d.ps.n ≤ 1000), .tup [.int false .i64 (chkV d).1, .int false .i64 (chkV d).2.1, .int false .i64 (chkV d).2.2], [])
def chkC : FC := wFC chkF
set_option maxRecDepth 100000 in
theorem chk_t (d : Puz) : execW (mkE Try.prog tab_beside) (chkH Try.prog d) Try.f13 (ArgsE.vals 0 ((d, ()) : Puz × Unit)) (ArgsE.blks 0 ((d, ()) : Puz × Unit)) 8 =
    Tree.need (decide (d.ps.n ≤ d.ps.n) && true && decide (d.ps.n ≤ (1000 : Nat))) (Tree.br (!d.ok) (Tree.leaf (AV.tup [AV.int true IntKind.i64 (0 : Int), AV.int true IntKind.i64 (0 :
    Int), AV.int true IntKind.i64 (1 : Int)]) ([])) (Tree.ask (DrawB d) (Tree.ask ((0 : Nat) = (0 : Nat)) (Tree.ask ((0 : Nat) = (0 : Nat)) (Tree.ask ((0 : Nat) = (0 : Nat)) (Tree.ask
    (d.ps.n = d.ps.n) (Tree.ask (Cap.of (0 : Nat) = Cap.of (0 : Nat)) (Tree.ask ((↑d.ps.n : Int) = (↑d.ps.n : Int)) (Tree.ask ((0 : Int) = (0 : Int)) (Tree.ask (d.play.length =
    d.play.length) (Tree.ask (d.play.slack = d.play.slack) (Tree.ask (d.play.loose = d.play.loose) (Tree.ask (d.play.damp.lo = d.play.damp.lo) (Tree.ask (d.play.damp.hi =
    d.play.damp.hi) (Tree.ask (d.wide = d.wide) (Tree.ask (d.high = d.high) (Tree.ask (d.turn = d.turn) (Tree.ask ((0 : Nat) = (0 : Nat)) (Tree.ask (d.ps.n = d.ps.n) (Tree.ask (Cap.of
    (0 : Nat) = Cap.of (0 : Nat)) (Tree.ask (d.ps.n ≤ d.ps.n) (Tree.ask (RowsEq (28 : Nat) d.ps.n (fun i => RowT.enc (d.ps.get i)) fun i => RowT.enc (d.ps.get i)) (Tree.both (Tree.asm
    ((chkO d).isSome = true) (Tree.all (fun (g0 : Nat → Value) => Tree.leaf (AV.tup [AV.int false IntKind.i64 (↑(chkI d / (4 : Nat)) : Int), AV.int false IntKind.i64 (↑(chkI d % (4 :
    Nat)) : Int), AV.int false IntKind.i64 (0 : Int)]) ([])))) (Tree.asm (chkO d = none) (Tree.all (fun (g1 : Nat → Value) => Tree.leaf (AV.tup [AV.int true IntKind.i64 (0 : Int),
    AV.int true IntKind.i64 (0 : Int), AV.int true IntKind.i64 (4 : Int)]) ([]))))))))))))))))))))))))))) := by kernel_rfl
theorem chk_hs : WHnd (mkE Try.prog tab_beside) (bodyOf Try.f13) 8 chkF (fun x_ => (chkH Try.prog x_.1)) := by
  refine ⟨?_⟩
  rintro ⟨d, ⟨⟩⟩ hp G h1 h2
  exact chk_hnd d G h1 h2
theorem chk_run : WRun (mkE Try.prog tab_beside) Try.f13 8 chkF (fun x_ => (chkH Try.prog x_.1)) := by
  refine ⟨?_⟩
  rintro ⟨d, ⟨⟩⟩ hp
  refine ⟨⟨rfl, by simp [chkF], rfl⟩, ⟨?_⟩⟩
  rw [chk_t d]
  simp only [chkF] at hp
  refine den_need (by simpa using hp) (den_br (fun h => endOk_same ?_ rfl) (fun h => ?_))
  · have h : d.ok = false := by simpa using h
    simp only [chkF, chkV, h]; exact ⟨⟨rfl, rfl⟩, ⟨rfl, rfl⟩, ⟨rfl, rfl⟩, trivial⟩
  · have h : d.ok = true := by simpa using h
    refine den_ask (drawB_of h) ?_
    repeat' first | refine den_ask (show _ = _ by with_reducible rfl) ?_ | refine den_ask (show _ ≤ _ from Nat.le_refl _) ?_ | refine den_ask (show RowsEq _ _ _ _ from RowsEq.refl _ _ _) ?_
    refine den_both (den_asm fun ho => den_all fun g => ?_) (den_asm fun ho => den_all fun g => ?_)
    · obtain ⟨i, hi⟩ := Option.isSome_iff_exists.1 ho
      exact endOk_same (by simp only [chkF, chkV, chkI, h, hi]; exact ⟨⟨rfl, rfl⟩, ⟨rfl, rfl⟩, ⟨rfl, rfl⟩, trivial⟩) rfl
    · exact endOk_same (by simp only [chkF, chkV, h, ho]; exact ⟨⟨rfl, rfl⟩, ⟨rfl, rfl⟩, ⟨rfl, rfl⟩, trivial⟩) rfl
theorem chk_s : FSound Try.prog 13 chkC :=
  fn_W (mkE_ok tab_beside_ok) Try.func13 (by kernel_rfl) (by kernel_rfl) (by decide) chk_hs chk_run
def tab_chk : Tab := addF tab_beside 13 chkC
theorem tab_chk_ok : TabOk tab_chk := tab_beside_ok.add chk_s
end Go.Proofs.Ytbpffdkemeoajaa
/- shapeOf, and a flat side (layer 7). -/
namespace Go.Proofs.Ytbpffdkemeoajaa
open Go.SX
/-- A struct of no fields. -/
structure Fl where
instance : Enc Fl where
  enc _ := .agg []
  dec | .agg [] => some ⟨⟩ | _ => none
  ok v x h := by
    split at h <;> (try (cases h; done))
    exact ⟨fun _ => rfl, rfl⟩
def isFlF : Fl × Edge × Unit → Bool × AV := fun | (b, (s, _)) => (true, .bool false (s.kind == 0))
def isFlC : FC := pureFC (pfOf isFlF)
set_option maxRecDepth 100000 in
theorem isFl_t (b : Fl) (s : Edge) : execFn (mkE Try.prog tab_chk) (hnd (mkE Try.prog tab_chk) 2) false Try.f124 (EncL.enc ((b, s, ()) : Fl × Edge × Unit)) [] 0 =
    Tree.leaf (AV.bool false (s.kind == (0 : Int))) ([]) := by kernel_rfl
theorem isFl_s : FSound Try.prog 124 isFlC := by
  refine plain_fn tab_chk_ok 2 Try.func124 (by kernel_rfl) (by kernel_rfl) ?_
  rintro ⟨b, s, ⟨⟩⟩ hp
  rw [isFl_t b s]
  simp only [isFlF, Tree.den, AV.same, AV.sameL, and_true, true_and] at hp ⊢
def tab_isFl : Tab := addF tab_chk 124 isFlC
theorem tab_isFl_ok : TabOk tab_isFl := tab_chk_ok.add isFl_s
def shpF : Edge × Unit → Bool × AV := fun | (s, _) => (true, .alt (s.kind == 0) (.ifc 139 (.agg [])) (.ifc 140 (Enc.enc s)))
def shpC : FC := pureFC (pfOf shpF)
set_option maxRecDepth 100000 in
theorem shp_t (s : Edge) : execFn (mkE Try.prog tab_isFl) (hnd (mkE Try.prog tab_isFl) 2) false Try.f73 (EncL.enc ((s, ()) : Edge × Unit)) [] 0 =
    Tree.br (s.kind == (0 : Int)) (Tree.leaf (AV.ifc (139 : Nat) (AV.agg [])) ([])) (Tree.leaf (AV.ifc (140 : Nat) (AV.agg [AV.int false IntKind.i64 s.kind, AV.int false IntKind.i64
    s.at_.lo, AV.int false IntKind.i64 s.at_.hi, AV.int false IntKind.i64 s.wide.lo, AV.int false IntKind.i64 s.wide.hi, AV.int false IntKind.i64 s.deep.lo, AV.int false IntKind.i64
    s.deep.hi])) ([])) := by kernel_rfl
set_option maxRecDepth 100000 in
theorem shp_s : FSound Try.prog 73 shpC := by
  refine fn_plainD (c := bodyOf Try.f73) (mkE_ok tab_isFl_ok) Try.func73 (by kernel_rfl) (by kernel_rfl) (fun G _ hG => hnd_hndOk (mkE_ok tab_isFl_ok) 2 G _ hG) ?_
  rintro ⟨s, ⟨⟩⟩ _
  refine den_of (shp_t s) ?_
  refine ⟨fun h r r' => ?_, fun h r r' => ?_⟩
  · simp only [shpF, h]; rfl
  · simp only [shpF, h]; rfl
def tab_shp : Tab := addF tab_isFl 73 shpC
theorem tab_shp_ok : TabOk tab_shp := tab_isFl_ok.add shp_s
end Go.Proofs.Ytbpffdkemeoajaa
