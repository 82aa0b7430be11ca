/- The law SolveNames, which has no arguments, answers true: errors and limits have the document's values, and the chapter's examples hold. No condition. -/
import Derived.Test.YtekbmehgcofnkaaGreatMzr
import Derived.Test.YtekbmehgcofnkaaGreatMzt
open Go.Proofs.Tryz
set_option maxRecDepth 100000
namespace Go.Proofs.YtekbmehgcofnkaaGreat
open Go.SX Go.RowKit Go.ChangeShapes Go.WideShapes Go.ChangeAt
theorem Qb8(os:Os)(started:os.Started)(H:Type)(enc:TypeId×Value->H):
  ReturnsInHanded {} checked os 10 .any (Rows.solveNamesSpec.pre6 enc prog f10 Rows.solveNamesRow.domain false) (Rows.solveNamesSpec.post enc prog f10 false true false false):=by
 refine returnsInHanded_of_change (C:=checked) own started (by kernel_rfl) func10
  (ChangeSpec.witness6 (enc:=enc) (C:=checked) false ⟨#[],#[],[]⟩ 8 (by kernel_rfl) (by kernel_rfl) (by kernel_rfl) (by kernel_rfl)) ?_
 intro W base args ds gs before hval0 hW _ _;have hval:∀(j:Nat) t v,f10.params[j]? = some t->args[j]? = some v->Value.okWide prog W .any base t v:=hval0;have hW':=hW;obtain⟨p,q,hA0,hV,rfl,_,_⟩:=hW;have hA:DataW.TrodAll enc prog W 0 (λ_=>true) true f10.params.toList args.toList ds p:=hA0;rw[params10]at hA hval;obtain⟨rfl,rfl⟩:=trodVars_none hV;obtain⟨args⟩:=args;obtain⟨e0,rfl⟩:=QOD hA;simp only at e0;subst e0;clear hA0 hval0;simp only[List.append_nil]at hW';refine(Qg7 QcR (x:=()) (u := .bool true) rfl rfl (λ_=>rfl) r0 W).mono λe W' ⟨he,hg⟩=>?_
 subst he;exact⟨_,rfl,QOB (pa:=p) (pv:=[]) hW' (λ_ _ _=>QP4) (λsp _=>QM5 (n:=5) _ _ _ _ (by kernel_rfl) hA) (λ_ _=>rfl) hg⟩
theorem solveNames_holds:Rows.SolveNamesSaid:=
 OpenClaim.holds_of_wide 10 f10 rfl rfl rfl rfl rfl rfl rfl ⟨rfl,rfl,rfl,rfl,rfl⟩ rfl rfl rfl rfl rfl (by kernel_rfl) func10 (by kernel_rfl)
  (qdt (by kernel_rfl)) (by unfold Func.isWrapper;first|(rw[if_pos (by decide +kernel)];kernel_rfl)|(rw[if_neg (by decide +kernel)];exact⟨rfl,rfl⟩))
  (λos started H enc _=>Qb8 os started H enc)
#print axioms solveNames_holds
