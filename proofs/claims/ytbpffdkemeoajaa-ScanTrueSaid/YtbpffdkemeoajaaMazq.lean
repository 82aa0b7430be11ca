/- - -/
import Derived.Test.YtbpffdkemeoajaaRows
import Derived.Test.YtbpffdkemeoajaaMam
import Derived.WalkKit
import Derived.ProofKit
import Derived.OpenShut
namespace Go.SX
open Go Go.RowKit Go.ChangeShapes Go.WideShapes Go.ChangeAt Go.Proofs.Ytbpffdkemeoajaa
theorem Qcq{w w':World}(h:Fr w w' (fun _=>False))(may:MemPlace→Prop):w.keptBut w' may:=by
 refine⟨h.os,h.output,fun i hi => ?_⟩;have:=h.block i hi (fun h=>h);unfold bk at this;rw[this];split
 ·rename_i c t fr c' t' fr' h1 h2;rw[h1]at h2;simp only[qsI,Obj.cells.injEq]at h2;obtain⟨rfl,rfl,rfl⟩:=h2;exact⟨rfl,rfl,rfl,fun _ _=>rfl⟩
 ·rename_i es cl es' cl' h1 h2;rw[h1]at h2;simp only[qsI,Obj.map.injEq]at h2;exact .inr ⟨h2.1.symm,h2.2.symm⟩
 ·rfl
theorem Qc4{H:Type}{enc:TypeId×Value→H}{P:Program}{f:Func}{s:ChangeSpec}{apart fresh handsOn:Bool}{W W':World}{args:Array Value}{v:Value}{ds gs:List (DataW H)}{before pa pv:List MemPlace}(hW:DataW.Whole enc P f.params.toList s.vars apart W args.toList ds gs before)(hres:∀(b:Nat) (sp:Nat→Bool) (hd:Bool),DataW.TrodAll enc P W' b sp hd f.resultTypes.toList (v.resultList f.resultTypes.size) (s.fn H (ds++gs)).results [])(hargs:∀ sp:Nat→Bool,(∀ p∈before,sp p.block=true)→DataW.TrodAll enc P W' 0 sp true f.params.toList args.toList (s.fn H (ds++gs)).args pa)(hvars:∀ sp:Nat→Bool,(∀ p∈before,sp p.block=true)→DataW.TrodVars enc P W' sp s.vars (s.fn H (ds++gs)).vars pv)(hk:Fr W W' (fun _=>False)):
  s.post enc P f apart fresh handsOn false W args v W':=by
 have hold:∀ p∈before,(fun b=>decide (b<W.heap.size)) p.block=true:=fun p hp=>by simpa using hW.lt p hp
 exact⟨ds,gs,before,[],pa,pv,hW,hres _ _ _,hargs _ hold,hvars _ hold,Qcq hk _,fun h=>by cases h⟩
theorem QUy{P:Program}{w:World}{r:Reach}{base:Nat}{t:TypeId}{v:Value}{fs:Array Field}{k:IntKind}{ts:List TypeId}(ht:P.underlying t=some (.struct fs))(hc:P.cellTypes P.depth t=some ts)(hk:ts.all (fun u=>match P.underlying u with|some (.int k')=>k'==k|_=>false)=true)(hn:P.cellsOf t=ts.length)(h:Value.okWide P w r base t v):
  ∃ ns:List Int,ns.length=ts.length∧v = .agg (ns.map (Value.int k)).toArray:=by
 unfold Value.okWide at h;simp only[ht]at h;obtain⟨cs,rfl,hsz,ts',hc',_,hall⟩:=h;rw[hc]at hc';simp only[qsI]at hc';subst hc'
 have key:∀(l:List Value),(∀ v∈l,∃ n,v=Value.int k n)→∃ ns:List Int,l=ns.map (Value.int k):=by
  intro l
  induction l with
  | nil=>intro _;exact⟨[],rfl⟩
  | cons v l ih=>
   intro h;obtain⟨n,rfl⟩:=h v (by simp)
   obtain⟨ns,rfl⟩:=ih fun u hu=>h u (by simp[hu])
   exact⟨n::ns,rfl⟩
 obtain⟨ns,hns⟩:=key cs.toList (by
  intro v hv;obtain⟨i,hi⟩:=List.getElem?_of_mem hv;obtain⟨u,hu,hok⟩:=hall i v (by simpa using hi)
  have:=List.all_eq_true.1 hk u (List.mem_of_getElem? hu);split at this<;>(try (cases this;done))
  rename_i k' hu';have hk':k'=k:=by simpa using this
  subst hk';exact okWide_int hu' (by unfold Value.okWide;simp only[hu'];exact hok))
 refine⟨ns,?_,?_⟩
 ·have:cs.toList.length=ns.length:=by rw[hns];simp
  simp at this;omega
 ·rw[←hns]
end Go.SX
