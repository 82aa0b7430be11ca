/- This seat's program: the environment of the abstract runs. -/
import Derived.Test.YtdaanchagjamfaaProg
import Derived.Test.YtdaanchagjamfaaSn
import Derived.Test.YtdaanchagjamfaaSpec
import Derived.Test.YtdaanchagjamfaaVerd
import Derived.Test.YtdaanchagjamfaaGap
import Derived.KernelRfl
namespace Go.Proofs.Ytdaanchagjamfaa
open Go.SX

theorem mixed0 : Try.prog.follows .mixedOrders = true := by kernel_rfl
abbrev Tab := FuncId → Option FC
def tab0 : Tab := fun _ => none
def addF (C : Tab) (f : FuncId) (fc : FC) : Tab := fun g => match g == f with
  | true => some fc
  | false => C g
def TabOk (C : Tab) : Prop := ∀ f fc, C f = some fc → FSound Try.prog f fc
theorem TabOk.add {C : Tab} (h : TabOk C) {f : FuncId} {fc : FC} (hf : FSound Try.prog f fc) : TabOk (addF C f fc) := by
  intro g fc' e
  unfold addF at e
  split at e
  · rename_i hg
    simp only [Option.some.injEq] at e; subst e
    have : g = f := by simpa using hg
    subst this; exact hf
  · exact h g fc' e
theorem tab0_ok : TabOk tab0 := fun _ _ h => by cases h
instance : Enc Sp where
  enc x := .agg [.int false .i64 x.lo, .int false .i64 x.hi]
  dec | .agg [.int _ .i64 a0, .int _ .i64 a1] => some ⟨a0, a1⟩ | _ => none
  ok v x h := by
    split at h <;> (try (cases h; done))
    simp only [Option.some.injEq] at h; subst h; exact ⟨fun _ => rfl, rfl⟩
instance : Enc Edge where
  enc x := .agg [.int false .i64 x.kind, .int false .i64 x.at_.lo, .int false .i64 x.at_.hi, .int false .i64 x.wide.lo, .int false .i64 x.wide.hi, .int false .i64 x.deep.lo, .int false .i64 x.deep.hi]
  dec | .agg [.int _ .i64 a0, .int _ .i64 a1, .int _ .i64 a2, .int _ .i64 a3, .int _ .i64 a4, .int _ .i64 a5, .int _ .i64 a6] => some ⟨a0, ⟨a1, a2⟩, ⟨a3, a4⟩, ⟨a5, a6⟩⟩ | _ => none
  ok v x h := by
    split at h <;> (try (cases h; done))
    simp only [Option.some.injEq] at h; subst h; exact ⟨fun _ => rfl, rfl⟩
instance : Enc Play where
  enc x := .agg [.int false .i64 x.length, .int false .i64 x.slack, .int false .i64 x.loose, .int false .i64 x.damp.lo, .int false .i64 x.damp.hi]
  dec | .agg [.int _ .i64 a0, .int _ .i64 a1, .int _ .i64 a2, .int _ .i64 a3, .int _ .i64 a4] => some ⟨a0, a1, a2, ⟨a3, a4⟩⟩ | _ => none
  ok v x h := by
    split at h <;> (try (cases h; done))
    simp only [Option.some.injEq] at h; subst h; exact ⟨fun _ => rfl, rfl⟩

structure Couple where
  p : Play
  t : Edge
  h : Edge
inductive D where
  | off (c : Couple)
  | wide (c : Couple)
  | deep (c : Couple)
instance : Enc Couple where
  enc x := .agg [.int false .i64 x.p.length, .int false .i64 x.p.slack, .int false .i64 x.p.loose, .int false .i64 x.p.damp.lo, .int false .i64 x.p.damp.hi,
    .int false .i64 x.t.kind, .int false .i64 x.t.at_.lo, .int false .i64 x.t.at_.hi, .int false .i64 x.t.wide.lo, .int false .i64 x.t.wide.hi, .int false .i64 x.t.deep.lo, .int false .i64 x.t.deep.hi,
    .int false .i64 x.h.kind, .int false .i64 x.h.at_.lo, .int false .i64 x.h.at_.hi, .int false .i64 x.h.wide.lo, .int false .i64 x.h.wide.hi, .int false .i64 x.h.deep.lo, .int false .i64 x.h.deep.hi]
  dec | .agg [.int _ .i64 p0, .int _ .i64 p1, .int _ .i64 p2, .int _ .i64 p3, .int _ .i64 p4,
      .int _ .i64 a0, .int _ .i64 a1, .int _ .i64 a2, .int _ .i64 a3, .int _ .i64 a4, .int _ .i64 a5, .int _ .i64 a6,
      .int _ .i64 b0, .int _ .i64 b1, .int _ .i64 b2, .int _ .i64 b3, .int _ .i64 b4, .int _ .i64 b5, .int _ .i64 b6] =>
        some ⟨⟨p0, p1, p2, ⟨p3, p4⟩⟩, ⟨a0, ⟨a1, a2⟩, ⟨a3, a4⟩, ⟨a5, a6⟩⟩, ⟨b0, ⟨b1, b2⟩, ⟨b3, b4⟩, ⟨b5, b6⟩⟩⟩
      | _ => none
  ok v x h := by
    split at h <;> (try (cases h; done))
    simp only [Option.some.injEq] at h; subst h; exact ⟨fun _ => rfl, rfl⟩
instance : Enc D where
  enc | .off c => .ifc 90 (Enc.enc c)
      | .wide c => .ifc 91 (Enc.enc c)
      | .deep c => .ifc 92 (Enc.enc c)
  dec | .ifc t v => match (Enc.dec v : Option Couple) with
        | some c => if t = 90 then some (.off c) else if t = 91 then some (.wide c) else if t = 92 then some (.deep c) else none
        | none => none
      | _ => none
  ok v x h := by
    split at h <;> (try (cases h; done))
    split at h <;> (try (cases h; done))
    rename_i t v c hc
    have h1 := Enc.ok _ c hc
    split at h
    · rename_i e; simp only [Option.some.injEq] at h; subst h e
      exact ⟨fun r => by simp only [AV.den]; rw [h1.1 r], h1.2⟩
    · split at h
      · rename_i e; simp only [Option.some.injEq] at h; subst h e
        exact ⟨fun r => by simp only [AV.den]; rw [h1.1 r], h1.2⟩
      · split at h <;> (try (cases h; done))
        rename_i e; simp only [Option.some.injEq] at h; subst h e
        exact ⟨fun r => by simp only [AV.den]; rw [h1.1 r], h1.2⟩
theorem w64 {n : Int} (h1 : -9223372036854775808 ≤ n) (h2 : n ≤ 9223372036854775807) : IntKind.i64.wrap n = n := IntWalk.i64_in n ⟨h1, h2⟩
/-- Sides and what is allowed, within their limits as numbers. -/
def SideB (e : Edge) : Prop := (0 ≤ e.at_.lo ∧ e.at_.lo ≤ 10000 ∧ 0 ≤ e.at_.hi ∧ e.at_.hi ≤ 10000) ∧ (0 ≤ e.wide.lo ∧ e.wide.lo ≤ 3000 ∧ 0 ≤ e.wide.hi ∧ e.wide.hi ≤ 3000) ∧ (0 ≤ e.deep.lo ∧ e.deep.lo ≤ 3000 ∧ 0 ≤ e.deep.hi ∧ e.deep.hi ≤ 3000)
def PlayB (p : Play) : Prop := (1 ≤ p.length ∧ p.length ≤ 10000) ∧ (0 ≤ p.slack ∧ p.slack ≤ 500) ∧ (0 ≤ p.loose ∧ p.loose ≤ 500) ∧ (0 ≤ p.damp.lo ∧ p.damp.lo ≤ 100) ∧ 0 ≤ p.damp.hi ∧ p.damp.hi ≤ 100
def Couple.B (c : Couple) : Prop := PlayB c.p ∧ SideB c.t ∧ SideB c.h
instance (e : Edge) : Decidable (SideB e) := by unfold SideB; infer_instance
instance (p : Play) : Decidable (PlayB p) := by unfold PlayB; infer_instance
instance (c : Couple) : Decidable c.B := by unfold Couple.B; infer_instance
def D.by_ : D → Sp
  | .off c => offBy c.p c.t c.h
  | .wide c => wideBy c.t c.h
  | .deep c => deepBy c.t c.h
def D.lo : D → Int
  | .off c => -c.p.slack
  | _ => 0
def D.hi : D → Int
  | .off c => c.p.slack
  | .wide c => c.p.loose
  | .deep c => c.p.loose
def D.c : D → Couple
  | .off c => c
  | .wide c => c
  | .deep c => c
abbrev mkE (P : Program) (C : Tab) : Env := ⟨P, C, methA P, false, fun _ => false, false⟩
set_option maxRecDepth 100000 in
theorem mkE_ok {C : Tab} (hC : TabOk C) : (mkE Try.prog C).Sound := { c := hC, m := methA_ok Try.prog, mixed := mixed0 }
/-- The same, with operations under unknown guards done all the same, and choices joined. -/
abbrev mkS (P : Program) (C : Tab) : Env := ⟨P, C, methA P, true, fun _ => false, false⟩
set_option maxRecDepth 100000 in
theorem mkS_ok {C : Tab} (hC : TabOk C) : (mkS Try.prog C).Sound := { c := hC, m := methA_ok Try.prog, mixed := mixed0 }
/-- The same, and products, and what these functions return, have names. -/
def binds (fs : List FuncId) : Op → Bool
  | .call ⟨.value (.func f), _, _⟩ => fs.contains f
  | .binOp .mul _ _ _ _ => true
  | _ => false
abbrev mkB (P : Program) (C : Tab) (fs : List FuncId) : Env := ⟨P, C, methA P, true, binds fs, false⟩
set_option maxRecDepth 100000 in
theorem mkB_ok {C : Tab} (hC : TabOk C) (fs : List FuncId) : (mkB Try.prog C fs).Sound := { c := hC, m := methA_ok Try.prog, mixed := mixed0 }
/-- The same, and arms that only set slots are joined. -/
abbrev mkJ (P : Program) (C : Tab) (fs : List FuncId) : Env := ⟨P, C, methA P, true, binds fs, true⟩
set_option maxRecDepth 100000 in
theorem mkJ_ok {C : Tab} (hC : TabOk C) (fs : List FuncId) : (mkJ Try.prog C fs).Sound := { c := hC, m := methA_ok Try.prog, mixed := mixed0 }
def bodyOf (fn : Func) : Code := fn.body.getD .skip
set_option maxRecDepth 100000 in
/-- A function of plain data; what it calls without a contract is gone into, loops are gone round, d deep. -/
theorem plain_fn {C : Tab} (hC : TabOk C) (d : Nat) {f : FuncId} {fn : Func} (hf : Try.prog.funcs[f]? = some fn) (hb : fn.body = some (bodyOf fn)) (hgo : goFn Try.prog f = true) {α : Type} [EncL α] {F : α → Bool × AV}
    (hF : ∀ x, (F x).1 = true → (execFn (mkE Try.prog C) (hnd (mkE Try.prog C) d) false fn (EncL.enc x) [] 0).den fun u _ => u.same (F x).2) : FSound Try.prog f (pureFC (pfOf F)) :=
  fn_plain (mkE_ok hC) hf hb hgo (fun G _ hG => hnd_hndOk (mkE_ok hC) d G _ hG) hF
set_option maxRecDepth 100000 in
/-- The same: what it calls without a contract is gone into, loops are gone round, d deep. -/
theorem plain_fnS {C : Tab} (hC : TabOk C) (d : Nat) {f : FuncId} {fn : Func} (hf : Try.prog.funcs[f]? = some fn) (hb : fn.body = some (bodyOf fn)) (hgo : goFn Try.prog f = true) {α : Type} [EncL α] {F : α → Bool × AV}
    (hF : ∀ x, (F x).1 = true → (execFn (mkS Try.prog C) (hnd (mkS Try.prog C) d) false fn (EncL.enc x) [] 0).den fun u _ => u.same (F x).2) : FSound Try.prog f (pureFC (pfOf F)) :=
  fn_plain (mkS_ok hC) hf hb hgo (fun G _ hG => hnd_hndOk (mkS_ok hC) d G _ hG) hF
end Go.Proofs.Ytdaanchagjamfaa
