/- What FitStrokes calls. -/
import Derived.Test.YtdaanchagjamfaaTm
import Derived.Test.YtdaanchagjamfaaPd
namespace Go.Proofs.Ytdaanchagjamfaa
open Go.SX

def gooB (a : Edge) (w : Sp) (b : Edge) (p : Play) : List (Nat × Blk) := [(0, .cellsR 0 27 (Enc.enc a).cells), (1, .cellsR 0 23 (Enc.enc w).cells), (2, .cellsR 0 27 (Enc.enc b).cells), (3, .cellsR 0 25 (Enc.enc p).cells)]
set_option maxRecDepth 100000 in
theorem goo_t (a : Edge) (w : Sp) (b : Edge) (p : Play) (n : Int) : execFn (mkE Try.prog tab_rLast) (hnd (mkE Try.prog tab_rLast) 0) false Try.f43 [.int false .i64 n, .ptr 0 0 0, .ptr 1 0 0, .ptr 2 0 0, .ptr 3 0 0] (gooB a w b p) 4 =
    Tree.need true (Tree.need true (Tree.br ((WornF a w n).2 != (0 : Int)) (Tree.leaf (AV.bool true false) []) (Tree.br ((WornF b w n).2 != (0 : Int)) (Tree.leaf (AV.bool true false)
    []) (Tree.need true (Tree.br ((FitF p (WornF a w n).1 (WornF b w n).1).2 == (0 : Int)) (Tree.leaf (AV.bool false ((FitF p (WornF a w n).1 (WornF b w n).1).1 == (2 : Int))) [])
    (Tree.leaf (AV.bool true false) [])))))) := by kernel_rfl
def gooDec (h : List (Nat × Blk)) (ia iw ib ip : Nat) : Option (Edge × Sp × Edge × Play) := match Go.SX.look h ia, Go.SX.look h iw, Go.SX.look h ib, Go.SX.look h ip with
  | some (.cellsR 0 ta la), some (.cellsR 0 tw lw), some (.cellsR 0 tb lb), some (.cellsR 0 tp lp) => match ta == 27 && (tw == 23 && (tb == 27 && tp == 25)), Enc.dec (AV.agg la), Enc.dec (AV.agg lw), Enc.dec (AV.agg lb), Enc.dec (AV.agg lp) with
    | true, some a, some w, some b, some p => some (a, w, b, p)
    | _, _, _, _, _ => none
  | _, _, _, _ => none
theorem gooDec_spec {h : List (Nat × Blk)} {ia iw ib ip : Nat} {a b : Edge} {w : Sp} {p : Play} (e : gooDec h ia iw ib ip = some (a, w, b, p)) {q : Nat → Nat} (q0 : q 0 = ia) (q1 : q 1 = iw) (q2 : q 2 = ib) (q3 : q 3 = ip) : subW q h (gooB a w b p) := by
  unfold gooDec at e
  split at e <;> (try (cases e; done))
  rename_i l0 l1 l2 l3
  split at e <;> (try (cases e; done))
  rename_i c d0 d1 d2 d3
  simp only [Bool.and_eq_true, beq_iff_eq] at c
  obtain ⟨rfl, rfl, rfl, rfl⟩ := c
  simp only [Option.some.injEq, Prod.mk.injEq] at e
  obtain ⟨rfl, rfl, rfl, rfl⟩ := e
  exact ⟨vw q0 l0 (dec_edge q d0), vw q1 l1 (dec_sp q d1), vw q2 l2 (dec_edge q d2), vw q3 l3 (dec_play q d3), trivial⟩
def gooV : VF := fun args hp => match args with
  | [.int _ .i64 n, .ptr ia 0 0, .ptr iw 0 0, .ptr ib 0 0, .ptr ip 0 0] => match gooDec hp ia iw ib ip with
    | some (a, w, b, p) => some (p.ok, .bool false (lastsB p a b w n))
    | none => none
  | _ => none
theorem gooV_s : FSound Try.prog 43 (viewFC gooV) := by
  refine fn_view (c := bodyOf Try.f43) (n := 4) (H := hnd (mkE Try.prog tab_rLast) 0) (mkE_ok tab_rLast_ok) (f := 43) Try.func43 (by kernel_rfl) (by kernel_rfl) (fun G h1 h2 => hnd_hndOk (mkE_ok tab_rLast_ok) 0 G _ h1) ?_
  intro args hp v hv
  unfold gooV at hv
  split at hv <;> (try (cases hv; done))
  rename_i k n ia iw ib ip
  split at hv <;> (try (cases hv; done))
  rename_i a w b p ed
  simp only [Option.some.injEq, Prod.mk.injEq] at hv
  obtain ⟨hp, rfl⟩ := hv
  refine ⟨fun i => match i with | 0 => ia | 1 => iw | 2 => ib | _ => ip, [.int false .i64 n, .ptr 0 0 0, .ptr 1 0 0, .ptr 2 0 0, .ptr 3 0 0], gooB a w b p, ⟨⟨rfl, rfl⟩, ⟨rfl, rfl, rfl⟩, ⟨rfl, rfl, rfl⟩, ⟨rfl, rfl, rfl⟩, ⟨rfl, rfl, rfl⟩, trivial⟩, gooDec_spec ed rfl rfl rfl rfl, rfl, ?_⟩
  rw [goo_t]
  by_cases ha : (WornF a w n).2 = 0
  · by_cases hb : (WornF b w n).2 = 0
    · have hok := worn_okP hp ha hb
      unfold okP at hok
      simp only [Bool.and_eq_true] at hok
      have hF : FitF p (WornF a w n).1 (WornF b w n).1 = (fitsF p (WornF a w n).1 (WornF b w n).1, 0) := if_pos hok
      simp [Tree.den, ha, hb, hF, lastsB, AV.den]
    · have hb' : ((WornF b w n).2 == 0) = false := by simpa using hb
      simp [Tree.den, ha, hb, lastsB, AV.den]
  · simp [Tree.den, ha, lastsB, AV.den]
def tab_goo : Tab := addF tab_rLast 43 (viewFC gooV)
theorem tab_goo_ok : TabOk tab_goo := tab_rLast_ok.add gooV_s
structure U16 where
  n : Int
structure U8 where
  n : Int
instance : Enc U16 where
  enc x := .int false .u16 x.n
  dec | .int _ .u16 n => some ⟨n⟩ | _ => none
  ok v x h := by
    split at h <;> (try (cases h; done))
    simp only [Option.some.injEq] at h; subst h; exact ⟨fun _ => rfl, rfl⟩
instance : Enc U8 where
  enc x := .int false .u8 x.n
  dec | .int _ .u8 n => some ⟨n⟩ | _ => none
  ok v x h := by
    split at h <;> (try (cases h; done))
    simp only [Option.some.injEq] at h; subst h; exact ⟨fun _ => rfl, rfl⟩
def lawSpanF : Int × Int × Unit → Bool × AV := fun | (a, (b, _)) => (true, Enc.enc (Sp.mk a b))
def lawSpanC : FC := pureFC (pfOf lawSpanF)
set_option maxRecDepth 100000 in
theorem lawSpan_t (a : Int) (b : Int) : execFn (mkE Try.prog tab_goo) (hnd (mkE Try.prog tab_goo) 0) false Try.f31 (EncL.enc ((a, b, ()) : Int × Int × Unit)) [] 0 =
    Tree.leaf (AV.agg [AV.int false IntKind.i64 a, AV.int false IntKind.i64 b]) [] := by kernel_rfl
theorem lawSpan_s : FSound Try.prog 31 lawSpanC := by
  refine plain_fn tab_goo_ok 0 Try.func31 (by kernel_rfl) (by kernel_rfl) ?_
  rintro ⟨a, b, ⟨⟩⟩ hp
  rw [lawSpan_t a b]
  simp only [lawSpanF, Tree.den, AV.same, AV.sameL, and_true, true_and] at hp ⊢
  exact ⟨⟨rfl, rfl⟩, ⟨rfl, rfl⟩, trivial⟩
def tab_lawSpan : Tab := addF tab_goo 31 lawSpanC
theorem tab_lawSpan_ok : TabOk tab_lawSpan := tab_goo_ok.add lawSpan_s
end Go.Proofs.Ytdaanchagjamfaa
