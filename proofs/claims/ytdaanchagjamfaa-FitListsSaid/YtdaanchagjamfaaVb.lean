/- fit.pick and fit.Matches. -/
import Derived.Test.YtdaanchagjamfaaVa
namespace Go.Proofs.Ytdaanchagjamfaa
open Go.SX

/-- A new row of these. -/
def newL {α : Type} [RowT α] (ty k : Nat) (l : List α) (d : α) : Nat × Blk := (k, .rowz true ty (RowT.ks α) l.length fun i => RowT.enc (l.getD i d))
/-- The numbers below k of which something holds. -/
def picks (q : Nat → Bool) : Nat → List Int
  | 0 => []
  | k + 1 => match q k with
    | true => picks q k ++ [(k : Int)]
    | false => picks q k
theorem picks_len (q : Nat → Bool) : ∀ k, (picks q k).length ≤ k
  | 0 => Nat.le_refl _
  | k + 1 => by
    have := picks_len q k
    simp only [picks]
    split <;> simp <;> omega
def pickQ (p : Play) (s : Edge) (least : Int) (l : Rw Edge) (i : Nat) : Bool := decide (fitsF p s (l.get i) ≥ least)
def pickJ (p : Play) (s : Edge) (least : Int) (l : Rw Edge) (o : List Int) (k : Int) : JSt :=
  ⟨30, [(2, .int false .i64 least), (4, .ptr 8 0 0), (5, .ptr 16 0 0), (8, .slz 24 0 o.length (.of 0)), (11, .slz 3 0 l.n (.of 0)), (12, .int false .i64 l.n), (13, .int false .i64 k)],
    [(8, .cells 0 25 (Enc.enc p).cells), (16, .cells 0 27 (Enc.enc s).cells), newL 3 24 o 0] ++ ArgE.blk 3 l, 32⟩
def pickLs : Ex → List Nat
  | .normal => [2, 4, 5, 8, 11, 12, 13]
  | _ => [8]
set_option maxRecDepth 100000 in
theorem pick_r (p : Play) (s : Edge) (least : Int) (l : Rw Edge) (o : List Int) (k : Nat) (g : Nat → Value) : exec (mkE Try.prog tab_areS) (hnd (mkE Try.prog tab_areS) 0) (bodyK Try.f66 0) (JSt.inst (pickJ p s least l o k) g) (leafW [] pickLs) =
    Tree.br (decide ((↑k : Int) < (↑l.n : Int))) (Tree.need (decide ((0 : Int) ≤ (↑k : Int) ∧ (↑k : Int) < (↑l.n : Int)) && decide (l.n ≤ l.n)) (Tree.need (decide (k < l.n)) (Tree.need
    (okP p s (l.get k)) (Tree.br (decide (fitsF p s (l.get k) ≥ least)) (Tree.need (decide (o.length ≤ o.length) && (true && decide ((o.length + [[AV.int false IntKind.i64 (↑k :
    Int)]].length + (o.length + [[AV.int false IntKind.i64 (↑k : Int)]].length) / (4 : Nat) + (192 : Nat)) * (8 : Nat) ≤ (281474976710656 : Nat) ∧ o.length + [[AV.int false IntKind.i64
    (↑k : Int)]].length ≤ (9223372036854775807 : Nat)))) (Tree.leaf (AV.tup [AV.nilp, AV.ptr (30 : Nat) (0 : Nat) (0 : Nat), AV.int false IntKind.i64 least, AV.ptr (8 : Nat) (0 : Nat)
    (0 : Nat), AV.ptr (16 : Nat) (0 : Nat) (0 : Nat), AV.slz (160 : Nat) (0 : Nat) (o.length + [[AV.int false IntKind.i64 (↑k : Int)]].length) (Cap.of (0 : Nat)), AV.slz (3 : Nat) (0 :
    Nat) l.n (Cap.of (0 : Nat)), AV.int false IntKind.i64 (↑l.n : Int), AV.int false IntKind.i64 (IntKind.i64.wrap ((↑k : Int) + (1 : Int)))]) [((8 : Nat), Blk.cells (0 : Nat) (25 :
    Nat) [AV.int false IntKind.i64 p.length, AV.int false IntKind.i64 p.slack, AV.int false IntKind.i64 p.loose, AV.int false IntKind.i64 p.damp.lo, AV.int false IntKind.i64
    p.damp.hi]), ((16 : Nat), Blk.cells (0 : Nat) (27 : Nat) [AV.int false IntKind.i64 s.kind, AV.int false IntKind.i64 s.at_.lo, AV.int false IntKind.i64 s.at_.hi, AV.int false
    IntKind.i64 s.wide.lo, AV.int false IntKind.i64 s.wide.hi, AV.int false IntKind.i64 s.deep.lo, AV.int false IntKind.i64 s.deep.hi]), ((160 : Nat), Blk.rowz true (3 : Nat) [CK.int
    IntKind.i64] (o.length + [[AV.int false IntKind.i64 (↑k : Int)]].length) (joinG o.length (fun i => RowT.enc (o.getD i (0 : Int))) (rowI [[AV.int false IntKind.i64 (↑k : Int)]] (0 :
    Nat)))), ((3 : Nat), Blk.frz [CK.int IntKind.i64, CK.int IntKind.i64, CK.int IntKind.i64, CK.int IntKind.i64, CK.int IntKind.i64, CK.int IntKind.i64, CK.int IntKind.i64] l.n fun i
    => RowT.enc (l.get i))])) (Tree.leaf (AV.tup [AV.nilp, AV.ptr (30 : Nat) (0 : Nat) (0 : Nat), AV.int false IntKind.i64 least, AV.ptr (8 : Nat) (0 : Nat) (0 : Nat), AV.ptr (16 : Nat)
    (0 : Nat) (0 : Nat), AV.slz (24 : Nat) (0 : Nat) o.length (Cap.of (0 : Nat)), AV.slz (3 : Nat) (0 : Nat) l.n (Cap.of (0 : Nat)), AV.int false IntKind.i64 (↑l.n : Int), AV.int false
    IntKind.i64 (IntKind.i64.wrap ((↑k : Int) + (1 : Int)))]) [((8 : Nat), Blk.cells (0 : Nat) (25 : Nat) [AV.int false IntKind.i64 p.length, AV.int false IntKind.i64 p.slack, AV.int
    false IntKind.i64 p.loose, AV.int false IntKind.i64 p.damp.lo, AV.int false IntKind.i64 p.damp.hi]), ((16 : Nat), Blk.cells (0 : Nat) (27 : Nat) [AV.int false IntKind.i64 s.kind,
    AV.int false IntKind.i64 s.at_.lo, AV.int false IntKind.i64 s.at_.hi, AV.int false IntKind.i64 s.wide.lo, AV.int false IntKind.i64 s.wide.hi, AV.int false IntKind.i64 s.deep.lo,
    AV.int false IntKind.i64 s.deep.hi]), ((24 : Nat), Blk.rowz true (3 : Nat) [CK.int IntKind.i64] o.length fun i => RowT.enc (o.getD i (0 : Int))), ((3 : Nat), Blk.frz [CK.int
    IntKind.i64, CK.int IntKind.i64, CK.int IntKind.i64, CK.int IntKind.i64, CK.int IntKind.i64, CK.int IntKind.i64, CK.int IntKind.i64] l.n fun i => RowT.enc (l.get i))])))))
    (Tree.leaf (AV.tup [AV.ptr (0 : Nat) (0 : Nat) (0 : Nat), AV.ptr (30 : Nat) (0 : Nat) (0 : Nat), AV.slz (24 : Nat) (0 : Nat) o.length (Cap.of (0 : Nat))]) [((24 : Nat), Blk.rowz
    true (3 : Nat) [CK.int IntKind.i64] o.length fun i => RowT.enc (o.getD i (0 : Int)))]) := by kernel_rfl
theorem rows_snoc (o : List Int) (x : Int) : RowsEq 1 (o ++ [x]).length (joinG o.length (fun i => RowT.enc (o.getD i 0)) (rowI [[AV.int false IntKind.i64 x]] 0)) (fun i => RowT.enc ((o ++ [x]).getD i 0)) := by
  intro i hi
  refine ⟨?_, trivial⟩
  rw [joinG_get]
  rw [List.length_append, List.length_singleton] at hi
  split
  · rename_i h
    show o.getD i 0 = (o ++ [x]).getD i 0
    rw [List.getD_eq_getElem?_getD, List.getD_eq_getElem?_getD, List.getElem?_append_left h]
  · rename_i h
    have : i = o.length := by omega
    subst this
    show x = (o ++ [x]).getD o.length 0
    simp
set_option maxRecDepth 100000 in
theorem pick_go0 (p : Play) (s : Edge) (least : Int) (l : Rw Edge) (n : Nat) (g : Nat → Nat → Int) (i : Int) (o : List Int) (k : Int) : subE 8 [.int false .i64 least, .ptr 8 0 0, .ptr 16 0 0, .slz 24 0 n (.of 0), .slz 3 0 l.n (.of 0), .int false .i64 l.n, .int false .i64 i] ([(8, .cells 0 25 (Enc.enc p).cells), (16, .cells 0 27 (Enc.enc s).cells), (24, .rowz true 3 [.int .i64] n g)] ++ ArgE.blk 3 l) (pickJ p s least l o k) = (
    some [least = least, (0 : Nat) = (0 : Nat), (0 : Nat) = (0 : Nat), (0 : Nat) = (0 : Nat), (0 : Nat) = (0 : Nat), (0 : Nat) = (0 : Nat), n = o.length, Cap.of (0 : Nat) = Cap.of (0 :
    Nat), (0 : Nat) = (0 : Nat), l.n = l.n, Cap.of (0 : Nat) = Cap.of (0 : Nat), (↑l.n : Int) = (↑l.n : Int), i = k, p.length = p.length, p.slack = p.slack, p.loose = p.loose, p.damp.lo
    = p.damp.lo, p.damp.hi = p.damp.hi, s.kind = s.kind, s.at_.lo = s.at_.lo, s.at_.hi = s.at_.hi, s.wide.lo = s.wide.lo, s.wide.hi = s.wide.hi, s.deep.lo = s.deep.lo, s.deep.hi =
    s.deep.hi, o.length ≤ n, RowsEq (1 : Nat) o.length g fun i => RowT.enc (o.getD i (0 : Int)), l.n ≤ l.n, RowsEq (7 : Nat) l.n (fun i => RowT.enc (l.get i)) fun i => RowT.enc (l.get
    i)]) := by kernel_rfl
set_option maxRecDepth 100000 in
theorem pick_go1 (p : Play) (s : Edge) (least : Int) (l : Rw Edge) (n : Nat) (g : Nat → Nat → Int) (i : Int) (o : List Int) (k : Int) : subE 8 [.int false .i64 least, .ptr 8 0 0, .ptr 16 0 0, .slz 160 0 n (.of 0), .slz 3 0 l.n (.of 0), .int false .i64 l.n, .int false .i64 i] ([(8, .cells 0 25 (Enc.enc p).cells), (16, .cells 0 27 (Enc.enc s).cells), (160, .rowz true 3 [.int .i64] n g)] ++ ArgE.blk 3 l) (pickJ p s least l o k) = (
    some [least = least, (0 : Nat) = (0 : Nat), (0 : Nat) = (0 : Nat), (0 : Nat) = (0 : Nat), (0 : Nat) = (0 : Nat), (0 : Nat) = (0 : Nat), n = o.length, Cap.of (0 : Nat) = Cap.of (0 :
    Nat), (0 : Nat) = (0 : Nat), l.n = l.n, Cap.of (0 : Nat) = Cap.of (0 : Nat), (↑l.n : Int) = (↑l.n : Int), i = k, p.length = p.length, p.slack = p.slack, p.loose = p.loose, p.damp.lo
    = p.damp.lo, p.damp.hi = p.damp.hi, s.kind = s.kind, s.at_.lo = s.at_.lo, s.at_.hi = s.at_.hi, s.wide.lo = s.wide.lo, s.wide.hi = s.wide.hi, s.deep.lo = s.deep.lo, s.deep.hi =
    s.deep.hi, o.length ≤ n, RowsEq (1 : Nat) o.length g fun i => RowT.enc (o.getD i (0 : Int)), l.n ≤ l.n, RowsEq (7 : Nat) l.n (fun i => RowT.enc (l.get i)) fun i => RowT.enc (l.get
    i)]) := by kernel_rfl
def pickE (o : List Int) : JSt := ⟨30, [(8, .slz 24 0 o.length (.of 0))], [newL 3 24 o 0], 32⟩
set_option maxRecDepth 100000 in
theorem pick_end (n : Nat) (g : Nat → Nat → Int) (o : List Int) : subE 8 [.slz 24 0 n (.of 0)] [(24, .rowz true 3 [.int .i64] n g)] (pickE o) = (
    some [(0 : Nat) = (0 : Nat), n = o.length, Cap.of (0 : Nat) = Cap.of (0 : Nat), o.length ≤ n, RowsEq (1 : Nat) o.length g fun i => RowT.enc (o.getD i (0 : Int))]) := by kernel_rfl
def pickPre (p : Play) (s : Edge) (l : Rw Edge) : Prop := p.ok = true ∧ s.ok = true ∧ allN (fun i => (l.get i).ok) l.n = true ∧ l.n ≤ 1000
theorem pick_round (p : Play) (s : Edge) (least : Int) (l : Rw Edge) (hl : pickPre p s l) : RoundW (fun k : Nat => pickJ p s least l (picks (pickQ p s least l) k) k) (fun k => k ≤ l.n) (fun k => l.n - k) (fun _ e J => e = .exit 0 ∧ J = pickE (picks (pickQ p s least l) l.n)) 8 pickLs [] (mkE Try.prog tab_areS) (fun _ => hnd (mkE Try.prog tab_areS) 0) (bodyK Try.f66 0) := by
  obtain ⟨h1, h2, h3, h4⟩ := hl
  refine ⟨fun k g hk => ⟨den_of (pick_r p s least l _ k g) ?_⟩⟩
  have hlen := picks_len (pickQ p s least l) k
  refine den_br (fun h => ?_) (fun h => ?_)
  · have h : k < l.n := by have := of_decide_eq_true h; omega
    have hw : IntKind.i64.wrap ((k : Int) + 1) = ((k + 1 : Nat) : Int) := (w64 (by omega) (by omega)).trans (by omega)
    refine den_need (by simp; omega) (den_need (by simp; omega) (den_need (by simp only [okP, h1, h2, allN_get h3 h]; rfl) (den_br (fun hb => ?_) (fun hb => ?_))))
    · have e : picks (pickQ p s least l) (k + 1) = picks (pickQ p s least l) k ++ [(k : Int)] := by simp only [picks, pickQ]; rw [hb]
      refine den_need (by simp; omega) ⟨k + 1, h, by show l.n - (k + 1) < l.n - k; omega, fun _ _ h => h, rfl, rfl, _, pick_go1 _ _ _ _ _ _ _ _ _, ?_⟩
      rw [e]
      repeat' first | exact trivial | with_reducible rfl | exact Nat.le_refl _ | exact RowsEq.refl _ _ _ | exact hw | refine And.intro ?_ ?_
      · simp
      · simp
      · exact rows_snoc _ _
    · have e : picks (pickQ p s least l) (k + 1) = picks (pickQ p s least l) k := by simp only [picks, pickQ]; rw [hb]
      refine ⟨k + 1, h, by show l.n - (k + 1) < l.n - k; omega, fun _ _ h => h, rfl, rfl, _, pick_go0 _ _ _ _ _ _ _ _ _, ?_⟩
      rw [e]
      repeat' first | exact trivial | with_reducible rfl | exact Nat.le_refl _ | exact RowsEq.refl _ _ _ | exact hw | refine And.intro ?_ ?_
  · have : k = l.n := by have := of_decide_eq_false h; omega
    subst this
    refine ⟨_, ⟨rfl, rfl⟩, rfl, rfl, _, pick_end _ _ _, ?_⟩
    repeat' first | exact trivial | with_reducible rfl | exact Nat.le_refl _ | exact RowsEq.refl _ _ _ | refine And.intro ?_ ?_
theorem pick_hnd (p : Play) (s : Edge) (least : Int) (l : Rw Edge) (hl : pickPre p s l) (G : Ctx) (hrd : G.rd = none) (hG : G.n = 8) : HndOk (mkE Try.prog tab_areS) G { hnd (mkE Try.prog tab_areS) 1 with loop := fun _ => loopT 8 [] (pickJ p s least l [] (0 : Nat)) [(True, .exit 0, pickE (picks (pickQ p s least l) l.n))] } (bodyOf Try.f66) := by
  refine one_loop (body := bodyK Try.f66 0) (mkE_ok tab_areS_ok) hrd (by kernel_rfl) ?_
  refine loopT_ok (n0 := 8) (mkE_ok tab_areS_ok) (by omega) (fun s hs => hnd_hndOk (mkE_ok tab_areS_ok) 0 G _ hrd) (fun s hs => (by decide : 8 ≤ 32)) ?_ (pick_round p s least l hl) (s0 := 0) (Nat.zero_le _) ?_
  · rintro s e J ⟨_, rfl⟩; exact (by decide : 8 ≤ 32)
  · rintro e J ⟨rfl, rfl⟩
    exact ⟨_, List.mem_cons_self, trivial, rfl, rfl⟩
set_option maxRecDepth 100000 in
theorem pick_res (o : List Int) : subE 8 [.slz 24 0 o.length (.of 0)] [(24, .rowz true 3 [.int .i64] o.length fun i => RowT.enc (o.getD i 0))] (resJ 8 (.slz 0 0 o.length (.of 0)) [newL 3 0 o 0]) = (
    some [(0 : Nat) = (0 : Nat), o.length = o.length, Cap.of (0 : Nat) = Cap.of (0 : Nat), o.length ≤ o.length, RowsEq (1 : Nat) o.length (fun i => RowT.enc (o.getD i (0 : Int))) fun i
    => RowT.enc (o.getD i (0 : Int))]) := by kernel_rfl
def pickF : WF (Play × Edge × Int × (Rw Edge) × Unit) := fun | (p, (s, (least, (l, _)))) => (p.ok && s.ok && allN (fun i => (l.get i).ok) l.n && decide (l.n ≤ 1000), .slz 0 0 (picks (pickQ p s least l) l.n).length (.of 0), [newL 3 0 (picks (pickQ p s least l) l.n) 0])
def pickC : FC := wFC pickF
set_option maxRecDepth 100000 in
theorem pick_t (p : Play) (s : Edge) (least : Int) (l : (Rw Edge)) : execW (mkE Try.prog tab_areS) { hnd (mkE Try.prog tab_areS) 1 with loop := fun _ => loopT 8 [] (pickJ p s least l [] (0 : Nat)) [(True, .exit 0, pickE (picks (pickQ p s least l) l.n))] } Try.f66 (ArgsE.vals 0 ((p, s, least, l, ()) : Play × Edge × Int × (Rw Edge) × Unit)) (ArgsE.blks 0 ((p, s, least, l, ()) : Play × Edge × Int × (Rw Edge) × Unit)) 8 =
    Tree.ask (least = least) (Tree.ask ((0 : Nat) = (0 : Nat)) (Tree.ask ((0 : Nat) = (0 : Nat)) (Tree.ask ((0 : Nat) = (0 : Nat)) (Tree.ask ((0 : Nat) = (0 : Nat)) (Tree.ask ((0 : Nat)
    = (0 : Nat)) (Tree.ask ((0 : Nat) = (0 : Nat)) (Tree.ask (l.n = l.n) (Tree.ask (Cap.of (0 : Nat) = Cap.of (0 : Nat)) (Tree.ask ((↑l.n : Int) = (↑l.n : Int)) (Tree.ask ((0 : Int) =
    (0 : Int)) (Tree.ask (p.length = p.length) (Tree.ask (p.slack = p.slack) (Tree.ask (p.loose = p.loose) (Tree.ask (p.damp.lo = p.damp.lo) (Tree.ask (p.damp.hi = p.damp.hi) (Tree.ask
    (s.kind = s.kind) (Tree.ask (s.at_.lo = s.at_.lo) (Tree.ask (s.at_.hi = s.at_.hi) (Tree.ask (s.wide.lo = s.wide.lo) (Tree.ask (s.wide.hi = s.wide.hi) (Tree.ask (s.deep.lo =
    s.deep.lo) (Tree.ask (s.deep.hi = s.deep.hi) (Tree.ask ((0 : Nat) = (0 : Nat)) (Tree.ask (l.n ≤ l.n) (Tree.ask (RowsEq (7 : Nat) l.n (fun i => RowT.enc (l.get i)) fun i => RowT.enc
    (l.get i)) (Tree.asm True (Tree.all fun g0 => Tree.leaf (AV.slz (24 : Nat) (0 : Nat) (picks (pickQ p s least l) l.n).length (Cap.of (0 : Nat))) [((24 : Nat), Blk.rowz true (3 : Nat)
    [CK.int IntKind.i64] (picks (pickQ p s least l) l.n).length fun i => RowT.enc ((picks (pickQ p s least l) l.n).getD i (0 : Int)))]))))))))))))))))))))))))))) := by kernel_rfl
theorem pick_hs : WHnd (mkE Try.prog tab_areS) (bodyOf Try.f66) 8 pickF (fun x_ => { hnd (mkE Try.prog tab_areS) 1 with loop := fun _ => loopT 8 [] (pickJ x_.1 x_.2.1 x_.2.2.1 x_.2.2.2.1 [] (0 : Nat)) [(True, .exit 0, pickE (picks (pickQ x_.1 x_.2.1 x_.2.2.1 x_.2.2.2.1) x_.2.2.2.1.n))] }) := by
  refine ⟨?_⟩
  rintro ⟨p, ⟨s, ⟨least, ⟨l, ⟨⟩⟩⟩⟩⟩ hp G h1 h2
  exact pick_hnd p s least l (by simpa [pickF, pickPre, and_assoc] using hp) G h1 h2
theorem pick_run : WRun (mkE Try.prog tab_areS) Try.f66 8 pickF (fun x_ => { hnd (mkE Try.prog tab_areS) 1 with loop := fun _ => loopT 8 [] (pickJ x_.1 x_.2.1 x_.2.2.1 x_.2.2.2.1 [] (0 : Nat)) [(True, .exit 0, pickE (picks (pickQ x_.1 x_.2.1 x_.2.2.1 x_.2.2.2.1) x_.2.2.2.1.n))] }) := by
  refine ⟨?_⟩
  rintro ⟨p, ⟨s, ⟨least, ⟨l, ⟨⟩⟩⟩⟩⟩ hp
  refine ⟨⟨rfl, by simp [pickF, newL, Blk.own, Blk.all], rfl⟩, ⟨?_⟩⟩
  rw [pick_t p s least l]
  simp only [pickF] at hp
  repeat' first | refine den_ask (by with_reducible rfl) ?_ | refine den_ask (Nat.le_refl _) ?_ | refine den_ask (RowsEq.refl _ _ _) ?_
  refine den_asm fun _ => den_all fun g => ⟨rfl, rfl, _, pick_res _, ?_⟩
  repeat' first | exact trivial | with_reducible rfl | exact Nat.le_refl _ | exact RowsEq.refl _ _ _ | refine And.intro ?_ ?_
theorem pick_s : FSound Try.prog 66 pickC :=
  fn_W (mkE_ok tab_areS_ok) Try.func66 (by kernel_rfl) (by kernel_rfl) (by decide) pick_hs pick_run
def tab_pick : Tab := addF tab_areS 66 pickC
theorem tab_pick_ok : TabOk tab_pick := tab_areS_ok.add pick_s
def matO (p : Play) (s : Edge) (l : Rw Edge) : Bool := p.ok && (s.ok && allN (fun i => (l.get i).ok) l.n)
def matE (p : Play) (s : Edge) (l : Rw Edge) : Int := match matO p s l with
  | true => (match decide (l.n > 40) with | true => 3 | false => 0)
  | false => 1
def matL (p : Play) (s : Edge) (least : Int) (l : Rw Edge) : List Int := match matO p s l && decide (l.n ≤ 40) with
  | true => picks (pickQ p s least l) l.n
  | false => []
set_option maxRecDepth 100000 in
theorem mat_no (e f : Int) (o q : List Int) : subE 8 [.tup [.nils, .nils, .int true .i64 e]] [] (resJ 8 (.tup [.slz 0 0 o.length (.of 0), .slz 1 0 q.length (.of 0), .int false .i64 f]) [newL 3 0 o 0, newL 3 1 q 0]) = (
    some [o.length = (0 : Nat), q.length = (0 : Nat), e = f, o.length = (0 : Nat), q.length = (0 : Nat)]) := by kernel_rfl
set_option maxRecDepth 100000 in
theorem mat_yes (n m : Nat) (g h : Nat → Nat → Int) (e f : Int) (o q : List Int) : subE 8 [.tup [.slz 216 0 n (.of 0), .slz 248 0 m (.of 0), .int true .i64 e]] [(216, .rowz true 3 [.int .i64] n g), (248, .rowz true 3 [.int .i64] m h)] (resJ 8 (.tup [.slz 0 0 o.length (.of 0), .slz 1 0 q.length (.of 0), .int false .i64 f]) [newL 3 0 o 0, newL 3 1 q 0]) = (
    some [(0 : Nat) = (0 : Nat), n = o.length, Cap.of (0 : Nat) = Cap.of (0 : Nat), (0 : Nat) = (0 : Nat), m = q.length, Cap.of (0 : Nat) = Cap.of (0 : Nat), e = f, o.length ≤ n, RowsEq
    (1 : Nat) o.length g fun i => RowT.enc (o.getD i (0 : Int)), q.length ≤ m, RowsEq (1 : Nat) q.length h fun i => RowT.enc (q.getD i (0 : Int))]) := by kernel_rfl
def matF : WF (Play × Edge × (Rw Edge) × Unit) := fun | (p, (s, (l, _))) => (decide (l.n ≤ 1000), .tup [.slz 0 0 (matL p s 2 l).length (.of 0), .slz 1 0 (matL p s 1 l).length (.of 0), .int false .i64 (matE p s l)], [newL 3 0 (matL p s 2 l) 0, newL 3 1 (matL p s 1 l) 0])
def matC : FC := wFC matF
set_option maxRecDepth 100000 in
theorem mat_t (p : Play) (s : Edge) (l : (Rw Edge)) : execW (mkE Try.prog tab_pick) (hnd (mkE Try.prog tab_pick) 0) Try.f24 (ArgsE.vals 0 ((p, s, l, ()) : Play × Edge × (Rw Edge) × Unit)) (ArgsE.blks 0 ((p, s, l, ()) : Play × Edge × (Rw Edge) × Unit)) 8 =
    Tree.need true (Tree.br (!p.ok) (Tree.leaf (AV.tup [AV.nils, AV.nils, AV.int true IntKind.i64 (1 : Int)]) []) (Tree.need true (Tree.br (!s.ok) (Tree.leaf (AV.tup [AV.nils, AV.nils,
    AV.int true IntKind.i64 (1 : Int)]) []) (Tree.need (decide (l.n ≤ l.n) && true && decide (l.n ≤ (1000 : Nat))) (Tree.br (!allN (fun i => (l.get i).ok) l.n) (Tree.leaf (AV.tup
    [AV.nils, AV.nils, AV.int true IntKind.i64 (1 : Int)]) []) (Tree.br (decide ((↑l.n : Int) > (40 : Int))) (Tree.leaf (AV.tup [AV.nils, AV.nils, AV.int true IntKind.i64 (3 : Int)])
    []) (Tree.need (true && (true && (true && (decide (l.n ≤ l.n) && true))) && (p.ok && s.ok && allN (fun i => (l.get i).ok) l.n && decide (l.n ≤ (1000 : Nat)))) (Tree.need (true &&
    (true && (true && (decide (l.n ≤ l.n) && true))) && (p.ok && s.ok && allN (fun i => (l.get i).ok) l.n && decide (l.n ≤ (1000 : Nat)))) (Tree.leaf (AV.tup [AV.slz (216 : Nat) (0 :
    Nat) (picks (pickQ p s (2 : Int) l) l.n).length (Cap.of (0 : Nat)), AV.slz (248 : Nat) (0 : Nat) (picks (pickQ p s (1 : Int) l) l.n).length (Cap.of (0 : Nat)), AV.int true
    IntKind.i64 (0 : Int)]) [((216 : Nat), Blk.rowz true (3 : Nat) [CK.int IntKind.i64] (picks (pickQ p s (2 : Int) l) l.n).length fun i => RowT.enc ((picks (pickQ p s (2 : Int) l)
    l.n).getD i (0 : Int))), ((248 : Nat), Blk.rowz true (3 : Nat) [CK.int IntKind.i64] (picks (pickQ p s (1 : Int) l) l.n).length fun i => RowT.enc ((picks (pickQ p s (1 : Int) l)
    l.n).getD i (0 : Int)))]))))))))) := by kernel_rfl
theorem mat_hs : WHnd (mkE Try.prog tab_pick) (bodyOf Try.f24) 8 matF (fun x_ => (hnd (mkE Try.prog tab_pick) 0)) := by
  refine ⟨?_⟩
  rintro ⟨p, ⟨s, ⟨l, ⟨⟩⟩⟩⟩ hp G h1 h2
  exact hnd_hndOk (mkE_ok tab_pick_ok) 0 G _ h1
theorem mat_run : WRun (mkE Try.prog tab_pick) Try.f24 8 matF (fun x_ => (hnd (mkE Try.prog tab_pick) 0)) := by
  refine ⟨?_⟩
  rintro ⟨p, ⟨s, ⟨l, ⟨⟩⟩⟩⟩ hp
  refine ⟨⟨rfl, by simp [matF, newL, Blk.own, Blk.all], rfl⟩, ⟨?_⟩⟩
  rw [mat_t p s l]
  simp only [matF] at hp
  have hn : l.n ≤ 1000 := of_decide_eq_true hp
  have no : ∀ e : Int, matL p s 2 l = [] → matL p s 1 l = [] → matE p s l = e → (Tree.leaf (AV.tup [AV.nils, AV.nils, AV.int true IntKind.i64 e]) []).den (EndOk 8 (matF (p, s, l, ())).2.1 (matF (p, s, l, ())).2.2) := by
    intro e h1 h2 h3
    refine ⟨rfl, rfl, _, mat_no _ _ _ _, ?_⟩
    rw [h1, h2, h3]
    exact ⟨rfl, rfl, rfl, rfl, rfl, trivial⟩
  refine den_need rfl (den_br (fun h => ?_) (fun h => den_need rfl (den_br (fun h2 => ?_) (fun h2 => den_need (by simpa using hn) (den_br (fun h3 => ?_) (fun h3 => den_br (fun h4 => ?_) (fun h4 => ?_)))))))
  · have e : matO p s l = false := by simp [matO] at h ⊢; simp [h]
    exact no 1 (by simp [matL, e]) (by simp [matL, e]) (by simp [matE, e])
  · have e : matO p s l = false := by simp [matO] at h2 ⊢; simp [h2]
    exact no 1 (by simp [matL, e]) (by simp [matL, e]) (by simp [matE, e])
  · have e : matO p s l = false := by simp [matO] at h3 ⊢; simp [h3]
    exact no 1 (by simp [matL, e]) (by simp [matL, e]) (by simp [matE, e])
  · have h4 : l.n > 40 := by have := of_decide_eq_true h4; omega
    have e1 : decide (l.n > 40) = true := decide_eq_true h4
    have e2 : decide (l.n ≤ 40) = false := decide_eq_false (by omega)
    have e : matO p s l = true := by simp [matO] at h h2 h3 ⊢; exact ⟨h, h2, h3⟩
    exact no 3 (by simp only [matL, e, e2]; rfl) (by simp only [matL, e, e2]; rfl) (by simp only [matE, e, e1])
  · have h4 : ¬ l.n > 40 := by have := of_decide_eq_false h4; omega
    have e1 : decide (l.n > 40) = false := decide_eq_false h4
    have e2 : decide (l.n ≤ 40) = true := decide_eq_true (by omega)
    have e : matO p s l = true := by simp [matO] at h h2 h3 ⊢; exact ⟨h, h2, h3⟩
    have hq : (p.ok && s.ok && allN (fun i => (l.get i).ok) l.n && decide (l.n ≤ 1000)) = true := by simp at h h2 h3; simp [h, h2, h3, hn]
    refine den_need (by simp only [hq]; simp) (den_need (by simp only [hq]; simp) ⟨rfl, rfl, _, mat_yes _ _ _ _ _ _ _ _, ?_⟩)
    have k2 : matL p s 2 l = picks (pickQ p s 2 l) l.n := by simp only [matL, e, e2]; rfl
    have k1 : matL p s 1 l = picks (pickQ p s 1 l) l.n := by simp only [matL, e, e2]; rfl
    have k3 : matE p s l = 0 := by simp only [matE, e, e1]
    rw [k1, k2, k3]
    repeat' first | exact trivial | with_reducible rfl | exact Nat.le_refl _ | exact RowsEq.refl _ _ _ | refine And.intro ?_ ?_
theorem mat_s : FSound Try.prog 24 matC :=
  fn_W (mkE_ok tab_pick_ok) Try.func24 (by kernel_rfl) (by kernel_rfl) (by decide) mat_hs mat_run
def tab_mat : Tab := addF tab_pick 24 matC
theorem tab_mat_ok : TabOk tab_mat := tab_pick_ok.add mat_s
end Go.Proofs.Ytdaanchagjamfaa
