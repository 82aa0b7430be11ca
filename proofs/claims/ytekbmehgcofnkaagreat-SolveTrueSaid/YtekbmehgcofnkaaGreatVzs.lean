/- - -/
import Derived.Test.YtekbmehgcofnkaaGreatRows
import Derived.Test.YtekbmehgcofnkaaGreatVm
import Derived.ProofKit
import Derived.OpenShut
namespace Go.SX
open Go Go.RowKit Go.ChangeShapes Go.WideShapes Go.ChangeAt Go.Proofs.YtekbmehgcofnkaaGreat
theorem Qit{w w':World}(h:Fr w w' (λ_=>False))(may:MemPlace->Prop):w.keptBut w' may:=by
 refine⟨h.os,h.output,λi hi=>?_⟩;have:=h.block i hi (λh=>h);unfold bk at this;rw[this];split
 .rename_i c t fr c' t' fr' h1 h2;rw[h1]at h2;simp only[qsI,Obj.cells.injEq]at h2;obtain⟨rfl,rfl,rfl⟩:=h2;exact⟨rfl,rfl,rfl,λ_ _=>rfl⟩
 .rename_i es cl es' cl' h1 h2;rw[h1]at h2;simp only[qsI,Obj.map.injEq]at h2;exact .inr ⟨h2.1.symm,h2.2.symm⟩
 .rfl
theorem QK4{H:Type}{enc:TypeId×Value->H}{P:Program}{f:Func}{s:ChangeSpec}{apart fresh handsOn:Bool}{W W':World}{args:Array Value}{v:Value}{ds gs:List (DataW H)}{before pa pv:List MemPlace}(hW:DataW.Whole enc P f.params.toList s.vars apart W args.toList ds gs before)(hres:∀(b:Nat) (sp:Nat->Bool) (hd:Bool),DataW.TrodAll enc P W' b sp hd f.resultTypes.toList (v.resultList f.resultTypes.size) (s.fn H (ds++gs)).results [])(hargs:∀ sp:Nat->Bool,(∀ p∈before,sp p.block=true)->DataW.TrodAll enc P W' 0 sp true f.params.toList args.toList (s.fn H (ds++gs)).args pa)(hvars:∀ sp:Nat->Bool,(∀ p∈before,sp p.block=true)->DataW.TrodVars enc P W' sp s.vars (s.fn H (ds++gs)).vars pv)(hk:Fr W W' (λ_=>False)):
  s.post enc P f apart fresh handsOn false W args v W':=by
 have hold:∀ p∈before,(λb=>decide (b<W.heap.size)) p.block=true:=λp hp=>by simpa using hW.lt p hp
 exact⟨ds,gs,before,[],pa,pv,hW,hres _ _ _,hargs _ hold,hvars _ hold,Qit hk _,λh=>by cases h⟩
