/- - -/
import Derived.Test.YtekbmehgcofnkaaGreatRows
import Derived.Test.YtekbmehgcofnkaaGreatMn
import Derived.WalkKit
import Derived.ProofKit
import Derived.OpenShut
namespace Go.SX
open Go Go.RowKit Go.ChangeShapes Go.WideShapes Go.ChangeAt Go.Proofs.YtekbmehgcofnkaaGreat
theorem QbX{w w':World}(h:Fr w w' (λ_=>False))(may:MemPlace->Prop):w.keptBut w' may:=by
 refine⟨h.os,h.output,λi hi=>?_⟩;have:=h.block i hi (λh=>h);unfold bk at this;rw[this];split
 .rename_i c t fr c' t' fr' h1 h2;rw[h1]at h2;simp only[qsI,Obj.cells.injEq]at h2;obtain⟨rfl,rfl,rfl⟩:=h2;exact⟨rfl,rfl,rfl,λ_ _=>rfl⟩
 .rename_i es cl es' cl' h1 h2;rw[h1]at h2;simp only[qsI,Obj.map.injEq]at h2;exact .inr ⟨h2.1.symm,h2.2.symm⟩
 .rfl
theorem Qg7{P:Program}{f:FuncId}{α:Type}[Q3 α]{F:α->Bool×AV}(h:QS P f (Kb (Kh F))){x:α}{v:AV}{u:Value}(hd:Q3.dec (Q3.enc x)=some x)(hF:F x=(true,v))(hv:∀ r,v.den r=u)(r:Nat->Loc)(w:World):
  Calls P f (AV.denL r (Q3.enc x)).toArray w λe w'=>e = .returned u/\Fr w w' (λ_=>False):=by
 have key:∃ eff,(Kb (Kh F) (Q3.enc x) 0 []).2 []=some eff/\eff.pre=true/\eff.upd=[]/\∀ r,eff.val.den r=u:=by
  simp only[Kb,Kh,hd,hF];split<;>exact⟨_,rfl,rfl,rfl,λr=>(Wf r _ v).trans (hv r)⟩
 obtain⟨eff,h1,h2,h3,h4⟩:=key;have:=h.2 (Q3.enc x) 0 [] r w (λ_=>none) [] eff ⟨by simp,by simp,by simp,by simp⟩ (allL_mono (p:=λ_=>false) (λ_ h=>by cases h) _ (Q3.ok _ _ hd).2) rfl h1 h2
 refine this.mono ?_;rintro e w' ⟨r',rfl,hp⟩;refine⟨by rw[h4],hp.fr.os,hp.fr.tape,hp.fr.output,hp.fr.size,hp.fr.drawn,λk hk _=>hp.fr.block k hk ?_⟩
 rintro⟨p,hm,_⟩;rw[h3]at hm;cases hm
def QBw(P:Program):Nat->TypeId->Bool
 | 0,_=>false
 | n+1,t=>match P.underlying t with
  | some .bool=>true
  | some (.int _)=>true
  | some (.struct fs)=>fs.toList.all λf=>QBw P n f.type
  | some (.array _ e)=>QBw P n e
  | _=>false
theorem QJz{H:Type}{enc:TypeId×Value->H}{P:Program}{w w':World}{b b':Nat}{sp sp':Nat->Bool}{hd hd':Bool}:∀(n:Nat) (t:TypeId),QBw P n t=true->∀ fuel cs,DataW.trod enc P w b sp hd fuel t cs=DataW.trod enc P w' b' sp' hd' fuel t cs
 | 0,t,h,_,_=>by cases h
 | n+1,t,h,0,cs=>rfl
 | n+1,t,h,fuel+1,cs=>by
  unfold QBw at h;split at h
  .rename_i ht;unfold DataW.trod;simp only[ht];rcases cs with _|⟨c,_|⟨d,l⟩⟩<;>(try rfl)
   all_goals (cases c<;>rfl)
  .rename_i ht;unfold DataW.trod;simp only[ht];rcases cs with _|⟨c,_|⟨d,l⟩⟩<;>(try rfl)
   all_goals (cases c<;>rfl)
  .rename_i fs ht;unfold DataW.trod;simp only[ht];rw[List.all_eq_true]at h
   have:∀ l:List Field,(∀ f∈l,f∈fs.toList)->l.mapM (λf=>DataW.trod enc P w b sp hd fuel f.type ((cs.drop f.offset).take (P.cellsOf f.type)))=l.mapM (λf=>DataW.trod enc P w' b' sp' hd' fuel f.type ((cs.drop f.offset).take (P.cellsOf f.type))):=by
    intro l
    induction l with
    | nil=>intro _;rfl
    | cons f l ih=>
     intro hl;rw[List.mapM_cons,List.mapM_cons,ih λg hg=>hl g (by simp[hg]),QJz n f.type (h f (hl f (by simp))) fuel]
   rw[this fs.toList λ_ hf=>hf]
  .rename_i m e ht;unfold DataW.trod;simp only[ht]
   have:∀ l:List Nat,l.mapM (λi=>DataW.trod enc P w b sp hd fuel e ((cs.drop (i*P.cellsOf e)).take (P.cellsOf e)))=l.mapM (λi=>DataW.trod enc P w' b' sp' hd' fuel e ((cs.drop (i*P.cellsOf e)).take (P.cellsOf e))):=by
    intro l
    induction l with
    | nil=>rfl
    | cons i l ih=>rw[List.mapM_cons,List.mapM_cons,ih,QJz n e h fuel]
   rw[this]
  .cases h
theorem QM5{H:Type}{enc:TypeId×Value->H}{P:Program}{w w':World}{b b':Nat}{sp sp':Nat->Bool}{hd hd':Bool}{n:Nat}:∀(ts:List TypeId) (vs:List Value) (ds:List (DataW H)) (ps:List MemPlace),ts.all (QBw P n)=true->DataW.TrodAll enc P w b sp hd ts vs ds ps->DataW.TrodAll enc P w' b' sp' hd' ts vs ds ps
 | [],[],[],_,_,h=>h
 | t::ts,v::vs,d::ds,ps,hf,h=>by
  simp only[List.all_cons,qbA]at hf;obtain⟨p,q,⟨fuel,h1⟩,h2,h3⟩:=h;exact⟨p,q,⟨fuel,by rw[<-QJz (w:=w) (b:=b) (sp:=sp) (hd:=hd) n t hf.1 fuel];exact h1⟩,QM5 ts vs ds q hf.2 h2,h3⟩
 | [],[],_::_,_,_,h=>h.elim
 | [],_::_,_,_,_,h=>h.elim
 | _::_,[],_,_,_,h=>h.elim
 | _::_,_::_,[],_,_,h=>h.elim
theorem QOB{H:Type}{enc:TypeId×Value->H}{P:Program}{f:Func}{s:ChangeSpec}{apart fresh handsOn:Bool}{W W':World}{args:Array Value}{v:Value}{ds gs:List (DataW H)}{before pa pv:List MemPlace}(hW:DataW.Whole enc P f.params.toList s.vars apart W args.toList ds gs before)(hres:∀(b:Nat) (sp:Nat->Bool) (hd:Bool),DataW.TrodAll enc P W' b sp hd f.resultTypes.toList (v.resultList f.resultTypes.size) (s.fn H (ds++gs)).results [])(hargs:∀ sp:Nat->Bool,(∀ p∈before,sp p.block=true)->DataW.TrodAll enc P W' 0 sp true f.params.toList args.toList (s.fn H (ds++gs)).args pa)(hvars:∀ sp:Nat->Bool,(∀ p∈before,sp p.block=true)->DataW.TrodVars enc P W' sp s.vars (s.fn H (ds++gs)).vars pv)(hk:Fr W W' (λ_=>False)):
  s.post enc P f apart fresh handsOn false W args v W':=by
 have hold:∀ p∈before,(λb=>decide (b<W.heap.size)) p.block=true:=λp hp=>by simpa using hW.lt p hp
 exact⟨ds,gs,before,[],pa,pv,hW,hres _ _ _,hargs _ hold,hvars _ hold,QbX hk _,λh=>by cases h⟩
