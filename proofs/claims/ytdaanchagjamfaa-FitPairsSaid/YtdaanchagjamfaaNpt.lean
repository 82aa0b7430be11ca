/- What every law ends with: results that the document fixes, run whole. -/
import Derived.Test.YtdaanchagjamfaaNpr
import Derived.Test.YtdaanchagjamfaaNps
namespace Go.Proofs.Ytdaanchagjamfaa
open Go.SX

/-- A function gone into within a drawn region. -/
def inl (P : Program) (C : Tab) (d f : Nat) : Tab := match P.funcs[f]? with
  | some fn => addF C f (callC false (mkE P C) (hnd (mkE P C) d) fn)
  | none => C
theorem inl_ok {C : Tab} (hC : TabOk C) {d f : Nat} {fn : Func} (hf : Try.prog.funcs[f]? = some fn) (hb : fn.body = some (bodyOf fn)) (hgo : goFn Try.prog f = true) : TabOk (inl Try.prog C d f) := by
  unfold inl
  rw [hf]
  exact hC.add (callC_ok (E := mkE Try.prog C) (mkE_ok hC) hf hb hgo fun G hG => hnd_hndOk (mkE_ok hC) d G _ hG)
def tabI (P : Program) (C : Tab) : Tab := inl P (inl P (inl P (inl P (inl P C 40 81) 40 66) 40 86) 40 31) 40 28
set_option maxRecDepth 100000 in
theorem tabI_ok {C : Tab} (hC : TabOk C) : TabOk (tabI Try.prog C) :=
  inl_ok (inl_ok (inl_ok (inl_ok (inl_ok hC Try.func81 (by kernel_rfl) (by kernel_rfl)) Try.func66 (by kernel_rfl) (by kernel_rfl)) Try.func86 (by kernel_rfl) (by kernel_rfl)) Try.func31 (by kernel_rfl) (by kernel_rfl)) Try.func28 (by kernel_rfl) (by kernel_rfl)
def tabA (P : Program) : Tab := tabI P tab_rFit
theorem tabA_ok : TabOk (tabA Try.prog) := tabI_ok tab_rFit_ok
def yesF : Unit → Bool × AV := fun _ => (true, .bool false true)
def yesC : FC := pureFC (pfOf yesF)
set_option maxRecDepth 100000 in
theorem alive_t : execFn (mkE Try.prog (tabA Try.prog)) (hnd (mkE Try.prog (tabA Try.prog)) 60) false Try.f21 (EncL.enc ()) [] 0 = .leaf (.bool true true) [] := by kernel_rfl
set_option maxRecDepth 100000 in
theorem alive_s : FSound Try.prog 21 yesC := by
  refine plain_fn tabA_ok 60 Try.func21 (by kernel_rfl) (by kernel_rfl) ?_
  rintro ⟨⟩ _
  rw [alive_t]
  rfl
def tab_alive : Tab := addF tab_rFit 21 yesC
theorem tab_alive_ok : TabOk tab_alive := tab_rFit_ok.add alive_s
/-- The law file's own functions without arguments. -/
def tabL (P : Program) (C : Tab) : Tab := inl P (inl P (inl P (inl P (inl P (tabI P C) 40 29) 40 30) 40 32) 40 33) 40 34
theorem tabL_ok {C : Tab} (hC : TabOk C) : TabOk (tabL Try.prog C) :=
  inl_ok (inl_ok (inl_ok (inl_ok (inl_ok (tabI_ok hC) Try.func29 (by kernel_rfl) (by kernel_rfl)) Try.func30 (by kernel_rfl) (by kernel_rfl)) Try.func32 (by kernel_rfl) (by kernel_rfl)) Try.func33 (by kernel_rfl) (by kernel_rfl)) Try.func34 (by kernel_rfl) (by kernel_rfl)
def tabB (P : Program) : Tab := inl P (tabL P tab_alive) 60 22
theorem tabB_ok : TabOk (tabB Try.prog) := inl_ok (tabL_ok tab_alive_ok) Try.func22 (by kernel_rfl) (by kernel_rfl)

end Go.Proofs.Ytdaanchagjamfaa
