/- This seat's program: the environment of the abstract runs. -/
import Derived.Test.YtdaanchagjamfaaProg
import Derived.Test.YtdaanchagjamfaaNpm
import Derived.Test.YtdaanchagjamfaaNpn
import Derived.KernelRfl
namespace Go.Proofs.Ytdaanchagjamfaa
open Go.SX

theorem mixed0 : Try.prog.follows .mixedOrders = true := by kernel_rfl
abbrev Tab := FuncId → Option FC
def tab0 : Tab := fun _ => none
def addF (C : Tab) (f : FuncId) (fc : FC) : Tab := fun g => match g == f with
  | true => some fc
  | false => C g
def TabOk (C : Tab) : Prop := ∀ f fc, C f = some fc → FSound Try.prog f fc
theorem TabOk.add {C : Tab} (h : TabOk C) {f : FuncId} {fc : FC} (hf : FSound Try.prog f fc) : TabOk (addF C f fc) := by
  intro g fc' e
  unfold addF at e
  split at e
  · rename_i hg
    simp only [Option.some.injEq] at e; subst e
    have : g = f := by simpa using hg
    subst this; exact hf
  · exact h g fc' e
theorem tab0_ok : TabOk tab0 := fun _ _ h => by cases h
instance : Enc Sp where
  enc x := .agg [.int false .i64 x.lo, .int false .i64 x.hi]
  dec | .agg [.int _ .i64 a0, .int _ .i64 a1] => some ⟨a0, a1⟩ | _ => none
  ok v x h := by
    split at h <;> (try (cases h; done))
    simp only [Option.some.injEq] at h; subst h; exact ⟨fun _ => rfl, rfl⟩
instance : Enc Edge where
  enc x := .agg [.int false .i64 x.kind, .int false .i64 x.at_.lo, .int false .i64 x.at_.hi, .int false .i64 x.wide.lo, .int false .i64 x.wide.hi, .int false .i64 x.deep.lo, .int false .i64 x.deep.hi]
  dec | .agg [.int _ .i64 a0, .int _ .i64 a1, .int _ .i64 a2, .int _ .i64 a3, .int _ .i64 a4, .int _ .i64 a5, .int _ .i64 a6] => some ⟨a0, ⟨a1, a2⟩, ⟨a3, a4⟩, ⟨a5, a6⟩⟩ | _ => none
  ok v x h := by
    split at h <;> (try (cases h; done))
    simp only [Option.some.injEq] at h; subst h; exact ⟨fun _ => rfl, rfl⟩
instance : Enc Play where
  enc x := .agg [.int false .i64 x.length, .int false .i64 x.slack, .int false .i64 x.loose, .int false .i64 x.damp.lo, .int false .i64 x.damp.hi]
  dec | .agg [.int _ .i64 a0, .int _ .i64 a1, .int _ .i64 a2, .int _ .i64 a3, .int _ .i64 a4] => some ⟨a0, a1, a2, ⟨a3, a4⟩⟩ | _ => none
  ok v x h := by
    split at h <;> (try (cases h; done))
    simp only [Option.some.injEq] at h; subst h; exact ⟨fun _ => rfl, rfl⟩

structure Couple where
  p : Play
  t : Edge
  h : Edge
inductive D where
  | off (c : Couple)
  | wide (c : Couple)
  | deep (c : Couple)
instance : Enc Couple where
  enc x := .agg [.int false .i64 x.p.length, .int false .i64 x.p.slack, .int false .i64 x.p.loose, .int false .i64 x.p.damp.lo, .int false .i64 x.p.damp.hi,
    .int false .i64 x.t.kind, .int false .i64 x.t.at_.lo, .int false .i64 x.t.at_.hi, .int false .i64 x.t.wide.lo, .int false .i64 x.t.wide.hi, .int false .i64 x.t.deep.lo, .int false .i64 x.t.deep.hi,
    .int false .i64 x.h.kind, .int false .i64 x.h.at_.lo, .int false .i64 x.h.at_.hi, .int false .i64 x.h.wide.lo, .int false .i64 x.h.wide.hi, .int false .i64 x.h.deep.lo, .int false .i64 x.h.deep.hi]
  dec | .agg [.int _ .i64 p0, .int _ .i64 p1, .int _ .i64 p2, .int _ .i64 p3, .int _ .i64 p4,
      .int _ .i64 a0, .int _ .i64 a1, .int _ .i64 a2, .int _ .i64 a3, .int _ .i64 a4, .int _ .i64 a5, .int _ .i64 a6,
      .int _ .i64 b0, .int _ .i64 b1, .int _ .i64 b2, .int _ .i64 b3, .int _ .i64 b4, .int _ .i64 b5, .int _ .i64 b6] =>
        some ⟨⟨p0, p1, p2, ⟨p3, p4⟩⟩, ⟨a0, ⟨a1, a2⟩, ⟨a3, a4⟩, ⟨a5, a6⟩⟩, ⟨b0, ⟨b1, b2⟩, ⟨b3, b4⟩, ⟨b5, b6⟩⟩⟩
      | _ => none
  ok v x h := by
    split at h <;> (try (cases h; done))
    simp only [Option.some.injEq] at h; subst h; exact ⟨fun _ => rfl, rfl⟩
instance : Enc D where
  enc | .off c => .ifc 90 (Enc.enc c)
      | .wide c => .ifc 91 (Enc.enc c)
      | .deep c => .ifc 92 (Enc.enc c)
  dec | .ifc t v => match (Enc.dec v : Option Couple) with
        | some c => if t = 90 then some (.off c) else if t = 91 then some (.wide c) else if t = 92 then some (.deep c) else none
        | none => none
      | _ => none
  ok v x h := by
    split at h <;> (try (cases h; done))
    split at h <;> (try (cases h; done))
    rename_i t v c hc
    have h1 := Enc.ok _ c hc
    split at h
    · rename_i e; simp only [Option.some.injEq] at h; subst h e
      exact ⟨fun r => by simp only [AV.den]; rw [h1.1 r], h1.2⟩
    · split at h
      · rename_i e; simp only [Option.some.injEq] at h; subst h e
        exact ⟨fun r => by simp only [AV.den]; rw [h1.1 r], h1.2⟩
      · split at h <;> (try (cases h; done))
        rename_i e; simp only [Option.some.injEq] at h; subst h e
        exact ⟨fun r => by simp only [AV.den]; rw [h1.1 r], h1.2⟩
theorem w64 {n : Int} (h1 : -9223372036854775808 ≤ n) (h2 : n ≤ 9223372036854775807) : IntKind.i64.wrap n = n := IntWalk.i64_in n ⟨h1, h2⟩
/-- Sides and what is allowed, within their limits as numbers. -/
def SideB (e : Edge) : Prop := (0 ≤ e.at_.lo ∧ e.at_.lo ≤ 10000 ∧ 0 ≤ e.at_.hi ∧ e.at_.hi ≤ 10000) ∧ (0 ≤ e.wide.lo ∧ e.wide.lo ≤ 3000 ∧ 0 ≤ e.wide.hi ∧ e.wide.hi ≤ 3000) ∧ (0 ≤ e.deep.lo ∧ e.deep.lo ≤ 3000 ∧ 0 ≤ e.deep.hi ∧ e.deep.hi ≤ 3000)
def PlayB (p : Play) : Prop := (1 ≤ p.length ∧ p.length ≤ 10000) ∧ (0 ≤ p.slack ∧ p.slack ≤ 500) ∧ (0 ≤ p.loose ∧ p.loose ≤ 500) ∧ (0 ≤ p.damp.lo ∧ p.damp.lo ≤ 100) ∧ 0 ≤ p.damp.hi ∧ p.damp.hi ≤ 100
def Couple.B (c : Couple) : Prop := PlayB c.p ∧ SideB c.t ∧ SideB c.h
instance (e : Edge) : Decidable (SideB e) := by unfold SideB; infer_instance
instance (p : Play) : Decidable (PlayB p) := by unfold PlayB; infer_instance
instance (c : Couple) : Decidable c.B := by unfold Couple.B; infer_instance
def D.by_ : D → Sp
  | .off c => offBy c.p c.t c.h
  | .wide c => wideBy c.t c.h
  | .deep c => deepBy c.t c.h
def D.lo : D → Int
  | .off c => -c.p.slack
  | _ => 0
def D.hi : D → Int
  | .off c => c.p.slack
  | .wide c => c.p.loose
  | .deep c => c.p.loose
def D.c : D → Couple
  | .off c => c
  | .wide c => c
  | .deep c => c
abbrev mkE (P : Program) (C : Tab) : Env := ⟨P, C, methA P, false, fun _ => false, false, false⟩
set_option maxRecDepth 100000 in
theorem mkE_ok {C : Tab} (hC : TabOk C) : (mkE Try.prog C).Sound := { c := hC, m := methA_ok Try.prog, mixed := mixed0 }
/-- The same, with operations under unknown guards done all the same, and choices joined. -/
abbrev mkS (P : Program) (C : Tab) : Env := ⟨P, C, methA P, true, fun _ => false, false, false⟩
set_option maxRecDepth 100000 in
theorem mkS_ok {C : Tab} (hC : TabOk C) : (mkS Try.prog C).Sound := { c := hC, m := methA_ok Try.prog, mixed := mixed0 }
/-- The same, and products, and what these functions return, have names. -/
def binds (fs : List FuncId) : Op → Bool
  | .call ⟨.value (.func f), _, _⟩ => fs.contains f
  | .binOp .mul _ _ _ _ => true
  | _ => false
abbrev mkB (P : Program) (C : Tab) (fs : List FuncId) : Env := ⟨P, C, methA P, true, binds fs, false, false⟩
set_option maxRecDepth 100000 in
theorem mkB_ok {C : Tab} (hC : TabOk C) (fs : List FuncId) : (mkB Try.prog C fs).Sound := { c := hC, m := methA_ok Try.prog, mixed := mixed0 }
/-- The same, and arms that only set slots are joined. -/
abbrev mkJ (P : Program) (C : Tab) (fs : List FuncId) : Env := ⟨P, C, methA P, true, binds fs, true, false⟩
set_option maxRecDepth 100000 in
theorem mkJ_ok {C : Tab} (hC : TabOk C) (fs : List FuncId) : (mkJ Try.prog C fs).Sound := { c := hC, m := methA_ok Try.prog, mixed := mixed0 }
def bodyOf (fn : Func) : Code := fn.body.getD .skip
set_option maxRecDepth 100000 in
/-- A function of plain data; what it calls without a contract is gone into, loops are gone round, d deep. -/
theorem plain_fn {C : Tab} (hC : TabOk C) (d : Nat) {f : FuncId} {fn : Func} (hf : Try.prog.funcs[f]? = some fn) (hb : fn.body = some (bodyOf fn)) (hgo : goFn Try.prog f = true) {α : Type} [EncL α] {F : α → Bool × AV}
    (hF : ∀ x, (F x).1 = true → (execFn (mkE Try.prog C) (hnd (mkE Try.prog C) d) false fn (EncL.enc x) [] 0).den fun u _ => u.same (F x).2) : FSound Try.prog f (pureFC (pfOf F)) :=
  fn_plain (mkE_ok hC) hf hb hgo (fun G _ hG => hnd_hndOk (mkE_ok hC) d G _ hG) hF
set_option maxRecDepth 100000 in
/-- The same: what it calls without a contract is gone into, loops are gone round, d deep. -/
theorem plain_fnS {C : Tab} (hC : TabOk C) (d : Nat) {f : FuncId} {fn : Func} (hf : Try.prog.funcs[f]? = some fn) (hb : fn.body = some (bodyOf fn)) (hgo : goFn Try.prog f = true) {α : Type} [EncL α] {F : α → Bool × AV}
    (hF : ∀ x, (F x).1 = true → (execFn (mkS Try.prog C) (hnd (mkS Try.prog C) d) false fn (EncL.enc x) [] 0).den fun u _ => u.same (F x).2) : FSound Try.prog f (pureFC (pfOf F)) :=
  fn_plain (mkS_ok hC) hf hb hgo (fun G _ hG => hnd_hndOk (mkS_ok hC) d G _ hG) hF
end Go.Proofs.Ytdaanchagjamfaa
/- The program's small functions. -/
namespace Go.Proofs.Ytdaanchagjamfaa
open Go.SX
def isInF : Sp × Int × Int × Unit → Bool × AV := fun | (s, (a, (b, _))) => (true, .bool false (s.isIn a b))
def isInC : FC := pureFC (pfOf isInF)
set_option maxRecDepth 100000 in
theorem isIn_t (s : Sp) (a : Int) (b : Int) : execFn (mkE Try.prog tab0) (hnd (mkE Try.prog tab0) 0) false Try.f54 (EncL.enc ((s, a, b, ()) : Sp × Int × Int × Unit)) [] 0 =
    Tree.br (decide (a ≤ s.lo)) (Tree.br (decide (s.lo ≤ s.hi)) (Tree.leaf (AV.bool false (decide (s.hi ≤ b))) []) (Tree.leaf (AV.bool true false) [])) (Tree.leaf (AV.bool true false)
    []) := by kernel_rfl
theorem isIn_s : FSound Try.prog 54 isInC := by
  refine plain_fn tab0_ok 0 Try.func54 (by kernel_rfl) (by kernel_rfl) ?_
  rintro ⟨s, a, b, ⟨⟩⟩ hp
  rw [isIn_t s a b]
  simp only [isInF, Tree.den, AV.same, AV.sameL, and_true, true_and] at hp ⊢
  (repeat' (first | (refine And.intro ?_ ?_) | (intro _))) <;> simp_all [Sp.isIn] <;> omega
def tab_isIn : Tab := addF tab0 54 isInC
theorem tab_isIn_ok : TabOk tab_isIn := tab0_ok.add isIn_s
def withinF : Int × Int × Int × Unit → Bool × AV := fun | (n, (a, (b, _))) => (true, .bool false (within n a b))
def withinC : FC := pureFC (pfOf withinF)
set_option maxRecDepth 100000 in
theorem within_t (n : Int) (a : Int) (b : Int) : execFn (mkE Try.prog tab_isIn) (hnd (mkE Try.prog tab_isIn) 0) false Try.f55 (EncL.enc ((n, a, b, ()) : Int × Int × Int × Unit)) [] 0 =
    Tree.br (decide (a ≤ n)) (Tree.leaf (AV.bool false (decide (n ≤ b))) []) (Tree.leaf (AV.bool true false) []) := by kernel_rfl
theorem within_s : FSound Try.prog 55 withinC := by
  refine plain_fn tab_isIn_ok 0 Try.func55 (by kernel_rfl) (by kernel_rfl) ?_
  rintro ⟨n, a, b, ⟨⟩⟩ hp
  rw [within_t n a b]
  simp only [withinF, Tree.den, AV.same, AV.sameL, and_true, true_and] at hp ⊢
  (repeat' (first | (refine And.intro ?_ ?_) | (intro _))) <;> simp_all [within] <;> omega
def tab_within : Tab := addF tab_isIn 55 withinC
theorem tab_within_ok : TabOk tab_within := tab_isIn_ok.add within_s
def isSideF : Edge × Unit → Bool × AV := fun | (a, _) => (true, .bool false a.ok)
def isSideC : FC := pureFC (pfOf isSideF)
set_option maxRecDepth 100000 in
theorem isSide_t (a : Edge) : execFn (mkE Try.prog tab_within) (hnd (mkE Try.prog tab_within) 0) false Try.f53 (EncL.enc ((a, ()) : Edge × Unit)) [] 0 =
    Tree.br (a.kind == (0 : Int)) (Tree.leaf (AV.bool true true) []) (Tree.br (a.kind == (1 : Int)) (Tree.need true (Tree.br (a.at_.isIn (0 : Int) (10000 : Int)) (Tree.need true
    (Tree.br (a.wide.isIn (1 : Int) (3000 : Int)) (Tree.need true (Tree.leaf (AV.bool false (a.deep.isIn (1 : Int) (3000 : Int))) [])) (Tree.leaf (AV.bool true false) []))) (Tree.leaf
    (AV.bool true false) []))) (Tree.br (a.kind == (2 : Int)) (Tree.need true (Tree.br (a.at_.isIn (0 : Int) (10000 : Int)) (Tree.need true (Tree.br (a.wide.isIn (1 : Int) (3000 : Int))
    (Tree.need true (Tree.leaf (AV.bool false (a.deep.isIn (1 : Int) (3000 : Int))) [])) (Tree.leaf (AV.bool true false) []))) (Tree.leaf (AV.bool true false) []))) (Tree.leaf (AV.bool
    true false) []))) := by kernel_rfl
theorem isSide_s : FSound Try.prog 53 isSideC := by
  refine plain_fn tab_within_ok 0 Try.func53 (by kernel_rfl) (by kernel_rfl) ?_
  rintro ⟨a, ⟨⟩⟩ hp
  rw [isSide_t a]
  simp only [isSideF, Tree.den, AV.same, AV.sameL, and_true, true_and] at hp ⊢
  (repeat' (first | (refine And.intro ?_ ?_) | (intro _))) <;> simp_all [Edge.ok]
def tab_isSide : Tab := addF tab_within 53 isSideC
theorem tab_isSide_ok : TabOk tab_isSide := tab_within_ok.add isSide_s
def isPlayF : Play × Unit → Bool × AV := fun | (p, _) => (true, .bool false p.ok)
def isPlayC : FC := pureFC (pfOf isPlayF)
set_option maxRecDepth 100000 in
theorem isPlay_t (p : Play) : execFn (mkE Try.prog tab_isSide) (hnd (mkE Try.prog tab_isSide) 0) false Try.f46 (EncL.enc ((p, ()) : Play × Unit)) [] 0 =
    Tree.need true (Tree.br (within p.length (1 : Int) (10000 : Int)) (Tree.need true (Tree.br (within p.slack (0 : Int) (500 : Int)) (Tree.need true (Tree.br (within p.loose (0 : Int)
    (500 : Int)) (Tree.need true (Tree.leaf (AV.bool false (p.damp.isIn (0 : Int) (100 : Int))) [])) (Tree.leaf (AV.bool true false) []))) (Tree.leaf (AV.bool true false) [])))
    (Tree.leaf (AV.bool true false) [])) := by kernel_rfl
theorem isPlay_s : FSound Try.prog 46 isPlayC := by
  refine plain_fn tab_isSide_ok 0 Try.func46 (by kernel_rfl) (by kernel_rfl) ?_
  rintro ⟨p, ⟨⟩⟩ hp
  rw [isPlay_t p]
  simp only [isPlayF, Tree.den, AV.same, AV.sameL, and_true, true_and] at hp ⊢
  (repeat' (first | (refine And.intro ?_ ?_) | (intro _))) <;> simp_all [Play.ok]
def tab_isPlay : Tab := addF tab_isSide 46 isPlayC
theorem tab_isPlay_ok : TabOk tab_isPlay := tab_isSide_ok.add isPlay_s
def lessF : Sp × Sp × Unit → Bool × AV := fun | (s, (o, _)) => (decide (Sm s.lo ∧ Sm s.hi ∧ Sm o.lo ∧ Sm o.hi), Enc.enc (s.less o))
def lessC : FC := pureFC (pfOf lessF)
set_option maxRecDepth 100000 in
theorem less_t (s : Sp) (o : Sp) : execFn (mkE Try.prog tab_isPlay) (hnd (mkE Try.prog tab_isPlay) 0) false Try.f79 (EncL.enc ((s, o, ()) : Sp × Sp × Unit)) [] 0 =
    Tree.leaf (AV.agg [AV.int false IntKind.i64 (IntKind.i64.wrap (s.lo - o.hi)), AV.int false IntKind.i64 (IntKind.i64.wrap (s.hi - o.lo))]) [] := by kernel_rfl
theorem less_s : FSound Try.prog 79 lessC := by
  refine plain_fn tab_isPlay_ok 0 Try.func79 (by kernel_rfl) (by kernel_rfl) ?_
  rintro ⟨s, o, ⟨⟩⟩ hp
  rw [less_t s o]
  simp only [lessF, Tree.den, AV.same, AV.sameL, and_true, true_and] at hp ⊢
  have hp := of_decide_eq_true hp
  unfold Sm at hp
  simp only [Sp.less, Enc.enc, AV.same, AV.sameL]
  rw [w64 (by omega) (by omega), w64 (by omega) (by omega)]; simp
def tab_less : Tab := addF tab_isPlay 79 lessC
theorem tab_less_ok : TabOk tab_less := tab_isPlay_ok.add less_s
def plusF : Sp × Sp × Unit → Bool × AV := fun | (s, (o, _)) => (decide (Sm s.lo ∧ Sm s.hi ∧ Sm o.lo ∧ Sm o.hi), Enc.enc (s.plus o))
def plusC : FC := pureFC (pfOf plusF)
set_option maxRecDepth 100000 in
theorem plus_t (s : Sp) (o : Sp) : execFn (mkE Try.prog tab_less) (hnd (mkE Try.prog tab_less) 0) false Try.f80 (EncL.enc ((s, o, ()) : Sp × Sp × Unit)) [] 0 =
    Tree.leaf (AV.agg [AV.int false IntKind.i64 (IntKind.i64.wrap (s.lo + o.lo)), AV.int false IntKind.i64 (IntKind.i64.wrap (s.hi + o.hi))]) [] := by kernel_rfl
theorem plus_s : FSound Try.prog 80 plusC := by
  refine plain_fn tab_less_ok 0 Try.func80 (by kernel_rfl) (by kernel_rfl) ?_
  rintro ⟨s, o, ⟨⟩⟩ hp
  rw [plus_t s o]
  simp only [plusF, Tree.den, AV.same, AV.sameL, and_true, true_and] at hp ⊢
  have hp := of_decide_eq_true hp
  unfold Sm at hp
  simp only [Sp.plus, Enc.enc, AV.same, AV.sameL]
  rw [w64 (by omega) (by omega), w64 (by omega) (by omega)]; simp
def tab_plus : Tab := addF tab_less 80 plusC
theorem tab_plus_ok : TabOk tab_plus := tab_less_ok.add plus_s
def downF : Int × Unit → Bool × AV := fun | (n, _) => (decide (Sm n), .int false .i64 (down n))
def downC : FC := pureFC (pfOf downF)
set_option maxRecDepth 100000 in
theorem down_t (n : Int) : execFn (mkE Try.prog tab_plus) (hnd (mkE Try.prog tab_plus) 0) false Try.f77 (EncL.enc ((n, ()) : Int × Unit)) [] 0 =
    Tree.br (decide (n.tmod (1000 : Int) < (0 : Int))) (Tree.leaf (AV.int false IntKind.i64 (IntKind.i64.wrap (IntKind.i64.wrap (n.tdiv (1000 : Int)) - (1 : Int)))) []) (Tree.leaf
    (AV.int false IntKind.i64 (IntKind.i64.wrap (n.tdiv (1000 : Int)))) []) := by kernel_rfl
theorem down_s : FSound Try.prog 77 downC := by
  refine plain_fn tab_plus_ok 0 Try.func77 (by kernel_rfl) (by kernel_rfl) ?_
  rintro ⟨n, ⟨⟩⟩ hp
  rw [down_t n]
  simp only [downF, Tree.den, AV.same, AV.sameL, and_true, true_and] at hp ⊢
  simp only [decide_eq_true_eq] at hp
  obtain ⟨b1, b2⟩ := tdiv_bd n hp
  simp only [decide_eq_true_eq, decide_eq_false_iff_not]
  rw [w64 (n := n.tdiv 1000) (by omega) (by omega), w64 (by omega) (by omega)]
  exact ⟨fun h => down_neg n h, fun h => down_pos n (by omega)⟩
def tab_down : Tab := addF tab_plus 77 downC
theorem tab_down_ok : TabOk tab_down := tab_plus_ok.add down_s
def upF : Int × Unit → Bool × AV := fun | (n, _) => (decide (Sm n), .int false .i64 (up n))
def upC : FC := pureFC (pfOf upF)
set_option maxRecDepth 100000 in
theorem up_t (n : Int) : execFn (mkE Try.prog tab_down) (hnd (mkE Try.prog tab_down) 0) false Try.f78 (EncL.enc ((n, ()) : Int × Unit)) [] 0 =
    Tree.need (decide (Sm (IntKind.i64.wrap ((0 : Int) - n)))) (Tree.leaf (AV.int false IntKind.i64 (IntKind.i64.wrap ((0 : Int) - down (IntKind.i64.wrap ((0 : Int) - n))))) []) := by kernel_rfl
theorem up_s : FSound Try.prog 78 upC := by
  refine plain_fn tab_down_ok 0 Try.func78 (by kernel_rfl) (by kernel_rfl) ?_
  rintro ⟨n, ⟨⟩⟩ hp
  rw [up_t n]
  simp only [upF, Tree.den, AV.same, AV.sameL, and_true, true_and] at hp ⊢
  simp only [decide_eq_true_eq] at hp ⊢
  have h2 : Sm (-n) := by unfold Sm at *; omega
  have h3 := down_sm h2
  have e : IntKind.i64.wrap (0 - n) = -n := by unfold Sm at hp; rw [w64 (by omega) (by omega)]; omega
  rw [e]
  refine ⟨h2, ?_⟩
  unfold Sm at h3
  rw [w64 (by omega) (by omega)]
  show 0 - down (-n) = up n
  unfold up down; omega
def tab_up : Tab := addF tab_down 78 upC
theorem tab_up_ok : TabOk tab_up := tab_down_ok.add up_s
def offByF : Couple × Unit → Bool × AV := fun | (c, _) => (decide c.B, Enc.enc (offBy c.p c.t c.h))
def offByC : FC := pureFC (pfOf offByF)
set_option maxRecDepth 100000 in
theorem offBy_t (c : Couple) : execFn (mkE Try.prog tab_up) (hnd (mkE Try.prog tab_up) 0) false Try.f109 (EncL.enc ((c, ()) : Couple × Unit)) [] 0 =
    Tree.need (decide (Sm c.t.at_.lo ∧ Sm c.t.at_.hi ∧ Sm c.h.at_.lo ∧ Sm c.h.at_.hi)) (Tree.need (decide (Sm (c.t.at_.plus c.h.at_).lo ∧ Sm (c.t.at_.plus c.h.at_).hi ∧ Sm
    (IntKind.i64.wrap ((0 : Int) - c.p.length)) ∧ Sm (IntKind.i64.wrap ((0 : Int) - c.p.length)))) (Tree.leaf (AV.agg [AV.int false IntKind.i64 ((c.t.at_.plus c.h.at_).plus (Sp.mk
    (IntKind.i64.wrap ((0 : Int) - c.p.length)) (IntKind.i64.wrap ((0 : Int) - c.p.length)))).lo, AV.int false IntKind.i64 ((c.t.at_.plus c.h.at_).plus (Sp.mk (IntKind.i64.wrap ((0 :
    Int) - c.p.length)) (IntKind.i64.wrap ((0 : Int) - c.p.length)))).hi]) [])) := by kernel_rfl
theorem offBy_s : FSound Try.prog 109 offByC := by
  refine plain_fn tab_up_ok 0 Try.func109 (by kernel_rfl) (by kernel_rfl) ?_
  rintro ⟨c, ⟨⟩⟩ hp
  rw [offBy_t c]
  simp only [offByF, Tree.den, AV.same, AV.sameL, and_true, true_and] at hp ⊢
  have hp := of_decide_eq_true hp
  obtain ⟨h1, h2, h3⟩ := hp
  unfold PlayB at h1; unfold SideB at h2 h3
  have e : IntKind.i64.wrap (0 - c.p.length) = -c.p.length := by rw [w64 (by omega) (by omega)]; omega
  rw [e]
  refine ⟨decide_eq_true (by unfold Sm; omega), decide_eq_true (by unfold Sm Sp.plus; simp only; omega), ?_⟩
  simp [offBy, Sp.plus, Enc.enc, AV.same, AV.sameL]
def tab_offBy : Tab := addF tab_up 109 offByC
theorem tab_offBy_ok : TabOk tab_offBy := tab_up_ok.add offBy_s
def wideByF : Couple × Unit → Bool × AV := fun | (c, _) => (decide c.B, Enc.enc (wideBy c.t c.h))
def wideByC : FC := pureFC (pfOf wideByF)
set_option maxRecDepth 100000 in
theorem wideBy_t (c : Couple) : execFn (mkE Try.prog tab_offBy) (hnd (mkE Try.prog tab_offBy) 0) false Try.f62 (EncL.enc ((c, ()) : Couple × Unit)) [] 0 =
    Tree.need (decide (Sm c.h.wide.lo ∧ Sm c.h.wide.hi ∧ Sm c.t.wide.lo ∧ Sm c.t.wide.hi)) (Tree.leaf (AV.agg [AV.int false IntKind.i64 (c.h.wide.less c.t.wide).lo, AV.int false
    IntKind.i64 (c.h.wide.less c.t.wide).hi]) []) := by kernel_rfl
theorem wideBy_s : FSound Try.prog 62 wideByC := by
  refine plain_fn tab_offBy_ok 0 Try.func62 (by kernel_rfl) (by kernel_rfl) ?_
  rintro ⟨c, ⟨⟩⟩ hp
  rw [wideBy_t c]
  simp only [wideByF, Tree.den, AV.same, AV.sameL, and_true, true_and] at hp ⊢
  have hp := of_decide_eq_true hp
  obtain ⟨h1, h2, h3⟩ := hp
  unfold PlayB at h1; unfold SideB at h2 h3
  refine ⟨decide_eq_true (by unfold Sm; omega), ?_⟩
  simp [wideBy, Sp.less, Enc.enc, AV.same, AV.sameL]
def tab_wideBy : Tab := addF tab_offBy 62 wideByC
theorem tab_wideBy_ok : TabOk tab_wideBy := tab_offBy_ok.add wideBy_s
def deepByF : Couple × Unit → Bool × AV := fun | (c, _) => (decide c.B, Enc.enc (deepBy c.t c.h))
def deepByC : FC := pureFC (pfOf deepByF)
set_option maxRecDepth 100000 in
theorem deepBy_t (c : Couple) : execFn (mkE Try.prog tab_wideBy) (hnd (mkE Try.prog tab_wideBy) 0) false Try.f112 (EncL.enc ((c, ()) : Couple × Unit)) [] 0 =
    Tree.need (decide (Sm c.h.deep.lo ∧ Sm c.h.deep.hi ∧ Sm c.t.deep.lo ∧ Sm c.t.deep.hi)) (Tree.leaf (AV.agg [AV.int false IntKind.i64 (c.h.deep.less c.t.deep).lo, AV.int false
    IntKind.i64 (c.h.deep.less c.t.deep).hi]) []) := by kernel_rfl
theorem deepBy_s : FSound Try.prog 112 deepByC := by
  refine plain_fn tab_wideBy_ok 0 Try.func112 (by kernel_rfl) (by kernel_rfl) ?_
  rintro ⟨c, ⟨⟩⟩ hp
  rw [deepBy_t c]
  simp only [deepByF, Tree.den, AV.same, AV.sameL, and_true, true_and] at hp ⊢
  have hp := of_decide_eq_true hp
  obtain ⟨h1, h2, h3⟩ := hp
  unfold PlayB at h1; unfold SideB at h2 h3
  refine ⟨decide_eq_true (by unfold Sm; omega), ?_⟩
  simp [deepBy, Sp.less, Enc.enc, AV.same, AV.sameL]
def tab_deepBy : Tab := addF tab_wideBy 112 deepByC
theorem tab_deepBy_ok : TabOk tab_deepBy := tab_wideBy_ok.add deepBy_s
def offBoundsF : Couple × Unit → Bool × AV := fun | (c, _) => (decide c.B, .tup [.int false .i64 (-c.p.slack), .int false .i64 c.p.slack])
def offBoundsC : FC := pureFC (pfOf offBoundsF)
set_option maxRecDepth 100000 in
theorem offBounds_t (c : Couple) : execFn (mkE Try.prog tab_deepBy) (hnd (mkE Try.prog tab_deepBy) 0) false Try.f108 (EncL.enc ((c, ()) : Couple × Unit)) [] 0 =
    Tree.leaf (AV.tup [AV.int false IntKind.i64 (IntKind.i64.wrap ((0 : Int) - c.p.slack)), AV.int false IntKind.i64 c.p.slack]) [] := by kernel_rfl
theorem offBounds_s : FSound Try.prog 108 offBoundsC := by
  refine plain_fn tab_deepBy_ok 0 Try.func108 (by kernel_rfl) (by kernel_rfl) ?_
  rintro ⟨c, ⟨⟩⟩ hp
  rw [offBounds_t c]
  simp only [offBoundsF, Tree.den, AV.same, AV.sameL, and_true, true_and] at hp ⊢
  have hp := of_decide_eq_true hp
  obtain ⟨h1, h2, h3⟩ := hp
  unfold PlayB at h1
  rw [w64 (by omega) (by omega)]; omega
def tab_offBounds : Tab := addF tab_deepBy 108 offBoundsC
theorem tab_offBounds_ok : TabOk tab_offBounds := tab_deepBy_ok.add offBounds_s
def wideBoundsF : Couple × Unit → Bool × AV := fun | (c, _) => (decide c.B, .tup [.int false .i64 0, .int false .i64 c.p.loose])
def wideBoundsC : FC := pureFC (pfOf wideBoundsF)
set_option maxRecDepth 100000 in
theorem wideBounds_t (c : Couple) : execFn (mkE Try.prog tab_offBounds) (hnd (mkE Try.prog tab_offBounds) 0) false Try.f110 (EncL.enc ((c, ()) : Couple × Unit)) [] 0 =
    Tree.leaf (AV.tup [AV.int true IntKind.i64 (0 : Int), AV.int false IntKind.i64 c.p.loose]) [] := by kernel_rfl
theorem wideBounds_s : FSound Try.prog 110 wideBoundsC := by
  refine plain_fn tab_offBounds_ok 0 Try.func110 (by kernel_rfl) (by kernel_rfl) ?_
  rintro ⟨c, ⟨⟩⟩ hp
  rw [wideBounds_t c]
  simp only [wideBoundsF, Tree.den, AV.same, AV.sameL, and_true, true_and] at hp ⊢
def tab_wideBounds : Tab := addF tab_offBounds 110 wideBoundsC
theorem tab_wideBounds_ok : TabOk tab_wideBounds := tab_offBounds_ok.add wideBounds_s
def deepBoundsF : Couple × Unit → Bool × AV := fun | (c, _) => (decide c.B, .tup [.int false .i64 0, .int false .i64 c.p.loose])
def deepBoundsC : FC := pureFC (pfOf deepBoundsF)
set_option maxRecDepth 100000 in
theorem deepBounds_t (c : Couple) : execFn (mkE Try.prog tab_wideBounds) (hnd (mkE Try.prog tab_wideBounds) 0) false Try.f111 (EncL.enc ((c, ()) : Couple × Unit)) [] 0 =
    Tree.leaf (AV.tup [AV.int true IntKind.i64 (0 : Int), AV.int false IntKind.i64 c.p.loose]) [] := by kernel_rfl
theorem deepBounds_s : FSound Try.prog 111 deepBoundsC := by
  refine plain_fn tab_wideBounds_ok 0 Try.func111 (by kernel_rfl) (by kernel_rfl) ?_
  rintro ⟨c, ⟨⟩⟩ hp
  rw [deepBounds_t c]
  simp only [deepBoundsF, Tree.den, AV.same, AV.sameL, and_true, true_and] at hp ⊢
def tab_deepBounds : Tab := addF tab_wideBounds 111 deepBoundsC
theorem tab_deepBounds_ok : TabOk tab_deepBounds := tab_wideBounds_ok.add deepBounds_s
theorem always_w {sl sh lo hi dh : Int} (h1 : -100000 ≤ sl ∧ sl ≤ 100000) (h2 : -100000 ≤ sh ∧ sh ≤ 100000) (h3 : -500 ≤ lo ∧ lo ≤ 500) (h4 : -500 ≤ hi ∧ hi ≤ 500) (h5 : 0 ≤ dh ∧ dh ≤ 100) :
    (decide (IntKind.i64.wrap (sl * IntKind.i64.wrap (1000 + dh)) ≥ IntKind.i64.wrap (1000 * lo)) = true → decide (IntKind.i64.wrap (sh * IntKind.i64.wrap (1000 + dh)) ≤ IntKind.i64.wrap (1000 * hi)) = alwaysB sl sh lo hi dh) ∧
    (decide (IntKind.i64.wrap (sl * IntKind.i64.wrap (1000 + dh)) ≥ IntKind.i64.wrap (1000 * lo)) = false → false = alwaysB sl sh lo hi dh) := by
  obtain ⟨m1, m2⟩ := mul_sm (a := sl) (m := 1000 + dh) (by omega) (by omega) (by omega) (by omega)
  obtain ⟨m3, m4⟩ := mul_sm (a := sh) (m := 1000 + dh) (by omega) (by omega) (by omega) (by omega)
  rw [w64 (n := 1000 + dh) (by omega) (by omega), w64 (n := sl * _) (by omega) (by omega), w64 (n := sh * _) (by omega) (by omega), w64 (n := 1000 * lo) (by omega) (by omega), w64 (n := 1000 * hi) (by omega) (by omega)]
  exact ⟨fun h => alwaysB_t (of_decide_eq_true h), fun h => alwaysB_f (by have := of_decide_eq_false h; omega)⟩
theorem perhaps_w {sl sh lo hi dl : Int} (h1 : -100000 ≤ sl ∧ sl ≤ 100000) (h2 : -100000 ≤ sh ∧ sh ≤ 100000) (h3 : -500 ≤ lo ∧ lo ≤ 500) (h4 : -500 ≤ hi ∧ hi ≤ 500) (h5 : 0 ≤ dl ∧ dl ≤ 100) :
    (decide (IntKind.i64.wrap (1000 * lo) ≤ IntKind.i64.wrap (min (max 0 sl) sh * IntKind.i64.wrap (1000 + dl))) = true → decide (IntKind.i64.wrap (min (max 0 sl) sh * IntKind.i64.wrap (1000 + dl)) ≤ IntKind.i64.wrap (1000 * hi)) = perhapsB sl sh lo hi dl) ∧
    (decide (IntKind.i64.wrap (1000 * lo) ≤ IntKind.i64.wrap (min (max 0 sl) sh * IntKind.i64.wrap (1000 + dl))) = false → false = perhapsB sl sh lo hi dl) := by
  obtain ⟨m1, m2⟩ := mul_sm (a := min (max 0 sl) sh) (m := 1000 + dl) (by omega) (by omega) (by omega) (by omega)
  rw [w64 (n := 1000 + dl) (by omega) (by omega), w64 (n := min (max 0 sl) sh * _) (by omega) (by omega), w64 (n := 1000 * lo) (by omega) (by omega), w64 (n := 1000 * hi) (by omega) (by omega)]
  exact ⟨fun h => perhapsB_t (of_decide_eq_true h), fun h => perhapsB_f (by have := of_decide_eq_false h; omega)⟩
def alwaysF : Couple × D × Unit → Bool × AV := fun | (x, (d, _)) => (decide (x.B ∧ d.c.B), .bool false (alwaysB d.by_.lo d.by_.hi d.lo d.hi x.p.damp.hi))
def alwaysC : FC := pureFC (pfOf alwaysF)
set_option maxRecDepth 100000 in
theorem always_t0 (x : Couple) (c : Couple) : execFn (mkE Try.prog tab_deepBounds) (hnd (mkE Try.prog tab_deepBounds) 0) false Try.f64 (EncL.enc ((x, (D.off c), ()) : Couple × D × Unit)) [] 0 =
    Tree.need (decide c.B) (Tree.need (decide c.B) (Tree.br (decide (IntKind.i64.wrap ((offBy c.p c.t c.h).lo * IntKind.i64.wrap ((1000 : Int) + x.p.damp.hi)) ≥ IntKind.i64.wrap ((1000
    : Int) * -c.p.slack))) (Tree.leaf (AV.bool false (decide (IntKind.i64.wrap ((offBy c.p c.t c.h).hi * IntKind.i64.wrap ((1000 : Int) + x.p.damp.hi)) ≤ IntKind.i64.wrap ((1000 : Int)
    * c.p.slack)))) []) (Tree.leaf (AV.bool true false) []))) := by kernel_rfl
set_option maxRecDepth 100000 in
theorem always_t1 (x : Couple) (c : Couple) : execFn (mkE Try.prog tab_deepBounds) (hnd (mkE Try.prog tab_deepBounds) 0) false Try.f64 (EncL.enc ((x, (D.wide c), ()) : Couple × D × Unit)) [] 0 =
    Tree.need (decide c.B) (Tree.need (decide c.B) (Tree.br (decide (IntKind.i64.wrap ((wideBy c.t c.h).lo * IntKind.i64.wrap ((1000 : Int) + x.p.damp.hi)) ≥ IntKind.i64.wrap ((1000 :
    Int) * (0 : Int)))) (Tree.leaf (AV.bool false (decide (IntKind.i64.wrap ((wideBy c.t c.h).hi * IntKind.i64.wrap ((1000 : Int) + x.p.damp.hi)) ≤ IntKind.i64.wrap ((1000 : Int) *
    c.p.loose)))) []) (Tree.leaf (AV.bool true false) []))) := by kernel_rfl
set_option maxRecDepth 100000 in
theorem always_t2 (x : Couple) (c : Couple) : execFn (mkE Try.prog tab_deepBounds) (hnd (mkE Try.prog tab_deepBounds) 0) false Try.f64 (EncL.enc ((x, (D.deep c), ()) : Couple × D × Unit)) [] 0 =
    Tree.need (decide c.B) (Tree.need (decide c.B) (Tree.br (decide (IntKind.i64.wrap ((deepBy c.t c.h).lo * IntKind.i64.wrap ((1000 : Int) + x.p.damp.hi)) ≥ IntKind.i64.wrap ((1000 :
    Int) * (0 : Int)))) (Tree.leaf (AV.bool false (decide (IntKind.i64.wrap ((deepBy c.t c.h).hi * IntKind.i64.wrap ((1000 : Int) + x.p.damp.hi)) ≤ IntKind.i64.wrap ((1000 : Int) *
    c.p.loose)))) []) (Tree.leaf (AV.bool true false) []))) := by kernel_rfl
theorem always_s : FSound Try.prog 64 alwaysC := by
  refine plain_fn tab_deepBounds_ok 0 Try.func64 (by kernel_rfl) (by kernel_rfl) ?_
  rintro ⟨x, (c | c | c), ⟨⟩⟩ hp
  · rw [always_t0 x c]
    simp only [alwaysF, Tree.den, AV.same, AV.sameL, and_true, true_and] at hp ⊢
    have hq := of_decide_eq_true hp
    obtain ⟨⟨hx, _⟩, hc⟩ := hq
    refine ⟨decide_eq_true hc, decide_eq_true hc, ?_⟩
    obtain ⟨h1, h2, h3⟩ := hc
    unfold PlayB at h1 hx; unfold SideB at h2 h3; simp only [D.c] at h1 h2 h3
    refine always_w ?_ ?_ ?_ ?_ ?_ <;> (try simp only [offBy, wideBy, deepBy]) <;> omega
  · rw [always_t1 x c]
    simp only [alwaysF, Tree.den, AV.same, AV.sameL, and_true, true_and] at hp ⊢
    have hq := of_decide_eq_true hp
    obtain ⟨⟨hx, _⟩, hc⟩ := hq
    refine ⟨decide_eq_true hc, decide_eq_true hc, ?_⟩
    obtain ⟨h1, h2, h3⟩ := hc
    unfold PlayB at h1 hx; unfold SideB at h2 h3; simp only [D.c] at h1 h2 h3
    refine always_w ?_ ?_ ?_ ?_ ?_ <;> (try simp only [offBy, wideBy, deepBy]) <;> omega
  · rw [always_t2 x c]
    simp only [alwaysF, Tree.den, AV.same, AV.sameL, and_true, true_and] at hp ⊢
    have hq := of_decide_eq_true hp
    obtain ⟨⟨hx, _⟩, hc⟩ := hq
    refine ⟨decide_eq_true hc, decide_eq_true hc, ?_⟩
    obtain ⟨h1, h2, h3⟩ := hc
    unfold PlayB at h1 hx; unfold SideB at h2 h3; simp only [D.c] at h1 h2 h3
    refine always_w ?_ ?_ ?_ ?_ ?_ <;> (try simp only [offBy, wideBy, deepBy]) <;> omega
def tab_always : Tab := addF tab_deepBounds 64 alwaysC
theorem tab_always_ok : TabOk tab_always := tab_deepBounds_ok.add always_s
def perhapsF : Couple × D × Unit → Bool × AV := fun | (x, (d, _)) => (decide (x.B ∧ d.c.B), .bool false (perhapsB d.by_.lo d.by_.hi d.lo d.hi x.p.damp.lo))
def perhapsC : FC := pureFC (pfOf perhapsF)
set_option maxRecDepth 100000 in
theorem perhaps_t0 (x : Couple) (c : Couple) : execFn (mkE Try.prog tab_always) (hnd (mkE Try.prog tab_always) 0) false Try.f88 (EncL.enc ((x, (D.off c), ()) : Couple × D × Unit)) [] 0 =
    Tree.need (decide c.B) (Tree.need (decide c.B) (Tree.br (decide (IntKind.i64.wrap ((1000 : Int) * -c.p.slack) ≤ IntKind.i64.wrap (min (max (0 : Int) (offBy c.p c.t c.h).lo) (offBy
    c.p c.t c.h).hi * IntKind.i64.wrap ((1000 : Int) + x.p.damp.lo)))) (Tree.leaf (AV.bool false (decide (IntKind.i64.wrap (min (max (0 : Int) (offBy c.p c.t c.h).lo) (offBy c.p c.t
    c.h).hi * IntKind.i64.wrap ((1000 : Int) + x.p.damp.lo)) ≤ IntKind.i64.wrap ((1000 : Int) * c.p.slack)))) []) (Tree.leaf (AV.bool true false) []))) := by kernel_rfl
set_option maxRecDepth 100000 in
theorem perhaps_t1 (x : Couple) (c : Couple) : execFn (mkE Try.prog tab_always) (hnd (mkE Try.prog tab_always) 0) false Try.f88 (EncL.enc ((x, (D.wide c), ()) : Couple × D × Unit)) [] 0 =
    Tree.need (decide c.B) (Tree.need (decide c.B) (Tree.br (decide (IntKind.i64.wrap ((1000 : Int) * (0 : Int)) ≤ IntKind.i64.wrap (min (max (0 : Int) (wideBy c.t c.h).lo) (wideBy c.t
    c.h).hi * IntKind.i64.wrap ((1000 : Int) + x.p.damp.lo)))) (Tree.leaf (AV.bool false (decide (IntKind.i64.wrap (min (max (0 : Int) (wideBy c.t c.h).lo) (wideBy c.t c.h).hi *
    IntKind.i64.wrap ((1000 : Int) + x.p.damp.lo)) ≤ IntKind.i64.wrap ((1000 : Int) * c.p.loose)))) []) (Tree.leaf (AV.bool true false) []))) := by kernel_rfl
set_option maxRecDepth 100000 in
theorem perhaps_t2 (x : Couple) (c : Couple) : execFn (mkE Try.prog tab_always) (hnd (mkE Try.prog tab_always) 0) false Try.f88 (EncL.enc ((x, (D.deep c), ()) : Couple × D × Unit)) [] 0 =
    Tree.need (decide c.B) (Tree.need (decide c.B) (Tree.br (decide (IntKind.i64.wrap ((1000 : Int) * (0 : Int)) ≤ IntKind.i64.wrap (min (max (0 : Int) (deepBy c.t c.h).lo) (deepBy c.t
    c.h).hi * IntKind.i64.wrap ((1000 : Int) + x.p.damp.lo)))) (Tree.leaf (AV.bool false (decide (IntKind.i64.wrap (min (max (0 : Int) (deepBy c.t c.h).lo) (deepBy c.t c.h).hi *
    IntKind.i64.wrap ((1000 : Int) + x.p.damp.lo)) ≤ IntKind.i64.wrap ((1000 : Int) * c.p.loose)))) []) (Tree.leaf (AV.bool true false) []))) := by kernel_rfl
theorem perhaps_s : FSound Try.prog 88 perhapsC := by
  refine plain_fn tab_always_ok 0 Try.func88 (by kernel_rfl) (by kernel_rfl) ?_
  rintro ⟨x, (c | c | c), ⟨⟩⟩ hp
  · rw [perhaps_t0 x c]
    simp only [perhapsF, Tree.den, AV.same, AV.sameL, and_true, true_and] at hp ⊢
    have hq := of_decide_eq_true hp
    obtain ⟨⟨hx, _⟩, hc⟩ := hq
    refine ⟨decide_eq_true hc, decide_eq_true hc, ?_⟩
    obtain ⟨h1, h2, h3⟩ := hc
    unfold PlayB at h1 hx; unfold SideB at h2 h3; simp only [D.c] at h1 h2 h3
    refine perhaps_w ?_ ?_ ?_ ?_ ?_ <;> (try simp only [offBy, wideBy, deepBy]) <;> omega
  · rw [perhaps_t1 x c]
    simp only [perhapsF, Tree.den, AV.same, AV.sameL, and_true, true_and] at hp ⊢
    have hq := of_decide_eq_true hp
    obtain ⟨⟨hx, _⟩, hc⟩ := hq
    refine ⟨decide_eq_true hc, decide_eq_true hc, ?_⟩
    obtain ⟨h1, h2, h3⟩ := hc
    unfold PlayB at h1 hx; unfold SideB at h2 h3; simp only [D.c] at h1 h2 h3
    refine perhaps_w ?_ ?_ ?_ ?_ ?_ <;> (try simp only [offBy, wideBy, deepBy]) <;> omega
  · rw [perhaps_t2 x c]
    simp only [perhapsF, Tree.den, AV.same, AV.sameL, and_true, true_and] at hp ⊢
    have hq := of_decide_eq_true hp
    obtain ⟨⟨hx, _⟩, hc⟩ := hq
    refine ⟨decide_eq_true hc, decide_eq_true hc, ?_⟩
    obtain ⟨h1, h2, h3⟩ := hc
    unfold PlayB at h1 hx; unfold SideB at h2 h3; simp only [D.c] at h1 h2 h3
    refine perhaps_w ?_ ?_ ?_ ?_ ?_ <;> (try simp only [offBy, wideBy, deepBy]) <;> omega
def tab_perhaps : Tab := addF tab_always 88 perhapsC
theorem tab_perhaps_ok : TabOk tab_perhaps := tab_always_ok.add perhaps_s
def verdictF : Couple × Unit → Bool × AV := fun | (x, _) => (decide x.B, .int false .i64 (verd x.p x.t x.h))
def verdictC : FC := pureFC (pfOf verdictF)
set_option maxRecDepth 100000 in
theorem verdict_t (x : Couple) : execFn (mkE Try.prog tab_perhaps) (hnd (mkE Try.prog tab_perhaps) 14) false Try.f74 (EncL.enc ((x, ()) : Couple × Unit)) [] 0 =
    Tree.need (decide (x.B ∧ (D.off x).c.B)) (Tree.br (!alwaysB (D.off x).by_.lo (D.off x).by_.hi (D.off x).lo (D.off x).hi x.p.damp.hi) (Tree.need (decide (x.B ∧ (D.off x).c.B))
    (Tree.br (!perhapsB (D.off x).by_.lo (D.off x).by_.hi (D.off x).lo (D.off x).hi x.p.damp.lo) (Tree.leaf (AV.int true IntKind.i64 (0 : Int)) []) (Tree.need (decide (x.B ∧ (D.wide
    x).c.B)) (Tree.br (!perhapsB (D.wide x).by_.lo (D.wide x).by_.hi (D.wide x).lo (D.wide x).hi x.p.damp.lo) (Tree.leaf (AV.int true IntKind.i64 (0 : Int)) []) (Tree.need (decide (x.B
    ∧ (D.deep x).c.B)) (Tree.br (!perhapsB (D.deep x).by_.lo (D.deep x).by_.hi (D.deep x).lo (D.deep x).hi x.p.damp.lo) (Tree.leaf (AV.int true IntKind.i64 (0 : Int)) []) (Tree.leaf
    (AV.int true IntKind.i64 (1 : Int)) []))))))) (Tree.need (decide (x.B ∧ (D.wide x).c.B)) (Tree.br (!alwaysB (D.wide x).by_.lo (D.wide x).by_.hi (D.wide x).lo (D.wide x).hi
    x.p.damp.hi) (Tree.need (decide (x.B ∧ (D.off x).c.B)) (Tree.br (!perhapsB (D.off x).by_.lo (D.off x).by_.hi (D.off x).lo (D.off x).hi x.p.damp.lo) (Tree.leaf (AV.int true
    IntKind.i64 (0 : Int)) []) (Tree.need (decide (x.B ∧ (D.wide x).c.B)) (Tree.br (!perhapsB (D.wide x).by_.lo (D.wide x).by_.hi (D.wide x).lo (D.wide x).hi x.p.damp.lo) (Tree.leaf
    (AV.int true IntKind.i64 (0 : Int)) []) (Tree.need (decide (x.B ∧ (D.deep x).c.B)) (Tree.br (!perhapsB (D.deep x).by_.lo (D.deep x).by_.hi (D.deep x).lo (D.deep x).hi x.p.damp.lo)
    (Tree.leaf (AV.int true IntKind.i64 (0 : Int)) []) (Tree.leaf (AV.int true IntKind.i64 (1 : Int)) []))))))) (Tree.need (decide (x.B ∧ (D.deep x).c.B)) (Tree.br (!alwaysB (D.deep
    x).by_.lo (D.deep x).by_.hi (D.deep x).lo (D.deep x).hi x.p.damp.hi) (Tree.need (decide (x.B ∧ (D.off x).c.B)) (Tree.br (!perhapsB (D.off x).by_.lo (D.off x).by_.hi (D.off x).lo
    (D.off x).hi x.p.damp.lo) (Tree.leaf (AV.int true IntKind.i64 (0 : Int)) []) (Tree.need (decide (x.B ∧ (D.wide x).c.B)) (Tree.br (!perhapsB (D.wide x).by_.lo (D.wide x).by_.hi
    (D.wide x).lo (D.wide x).hi x.p.damp.lo) (Tree.leaf (AV.int true IntKind.i64 (0 : Int)) []) (Tree.need (decide (x.B ∧ (D.deep x).c.B)) (Tree.br (!perhapsB (D.deep x).by_.lo (D.deep
    x).by_.hi (D.deep x).lo (D.deep x).hi x.p.damp.lo) (Tree.leaf (AV.int true IntKind.i64 (0 : Int)) []) (Tree.leaf (AV.int true IntKind.i64 (1 : Int)) []))))))) (Tree.leaf (AV.int
    true IntKind.i64 (2 : Int)) [])))))) := by kernel_rfl
theorem verdict_s : FSound Try.prog 74 verdictC := by
  refine plain_fn tab_perhaps_ok 14 Try.func74 (by kernel_rfl) (by kernel_rfl) ?_
  rintro ⟨x, ⟨⟩⟩ hp
  rw [verdict_t x]
  simp only [verdictF, Tree.den, AV.same, AV.sameL, and_true, true_and] at hp ⊢
  have hB := of_decide_eq_true hp
  have d1 : decide (x.B ∧ (D.off x).c.B) = true := decide_eq_true ⟨hB, hB⟩
  have d2 : decide (x.B ∧ (D.wide x).c.B) = true := decide_eq_true ⟨hB, hB⟩
  have d3 : decide (x.B ∧ (D.deep x).c.B) = true := decide_eq_true ⟨hB, hB⟩
  have a0 : alwaysB (D.off x).by_.lo (D.off x).by_.hi (D.off x).lo (D.off x).hi x.p.damp.hi = alw x.p x.t x.h 0 := rfl
  have a1 : alwaysB (D.wide x).by_.lo (D.wide x).by_.hi (D.wide x).lo (D.wide x).hi x.p.damp.hi = alw x.p x.t x.h 1 := rfl
  have a2 : alwaysB (D.deep x).by_.lo (D.deep x).by_.hi (D.deep x).lo (D.deep x).hi x.p.damp.hi = alw x.p x.t x.h 2 := rfl
  have b0 : perhapsB (D.off x).by_.lo (D.off x).by_.hi (D.off x).lo (D.off x).hi x.p.damp.lo = may x.p x.t x.h 0 := rfl
  have b1 : perhapsB (D.wide x).by_.lo (D.wide x).by_.hi (D.wide x).lo (D.wide x).hi x.p.damp.lo = may x.p x.t x.h 1 := rfl
  have b2 : perhapsB (D.deep x).by_.lo (D.deep x).by_.hi (D.deep x).lo (D.deep x).hi x.p.damp.lo = may x.p x.t x.h 2 := rfl
  simp only [d1, d2, d3, a0, a1, a2, b0, b1, b2, verd_eq, true_and]
  cases alw x.p x.t x.h 0 <;> cases alw x.p x.t x.h 1 <;> cases alw x.p x.t x.h 2 <;> cases may x.p x.t x.h 0 <;> cases may x.p x.t x.h 1 <;> cases may x.p x.t x.h 2 <;> simp
def tab_verdict : Tab := addF tab_perhaps 74 verdictC
theorem tab_verdict_ok : TabOk tab_verdict := tab_perhaps_ok.add verdict_s
theorem play_B {p : Play} (h : p.ok = true) : PlayB p := by rw [Play.ok_iff] at h; unfold PlayB; omega
theorem side_B {e : Edge} (h : e.ok = true) (hk : e.kind = 1 ∨ e.kind = 2) : SideB e := by rw [Edge.ok_iff] at h; unfold SideB; omega
end Go.Proofs.Ytdaanchagjamfaa
