/- - -/
import Derived.Test.YtekbmehgcofnkaaGreatJze
set_option linter.all false
noncomputable section
open Go.Proofs.Tryz
open Go.IntKind (i64)
set_option maxRecDepth 100000
namespace Go.Proofs.YtekbmehgcofnkaaGreat
open Go.SX Go.SX.Told
variable {k:Nat}(pb:List Prop->Bool)(d:Puz)(E:ECt)(C:Cap)(cells p:Int)(c:Nat)(K:Rw Pt)(ac body:Code)(v:Bool)(u' u:Nat->Nat->Int)(l:List Lay)(rec:List Lay->Unit->Qb Unit)
def Wz(n:Nat)(a:Int):Tab:=QZ QU 52 (KI pb (tnU d n a))
abbrev QDw(P:Program)(pb:List Prop->Bool)(d:Puz)(E:ECt)(C:Cap)(K:Rw Pt)(ac body:Code)(u:Nat->Nat->Int)(l:List Lay)(p:Nat)(X:List (Prop×Ex×JSt)):Hnd:={ hnd (mkE P (Wz pb d l.length p)) 0 with loop:=λ_=>J9 (p<d.ps.n/\u p 0=0) (KJ 416 Zq (jg d E C K ac body u l p (tnV d p) (0:Nat)) X) }
abbrev QPZ(p:Nat):List AV:=(.nilp::.ptr 101 0 0::List.append (waI) ([vi (d.ps.n:Int),vi (i64.wrap ((p:Int)+1))]))
abbrev X3:Nat×Blk:=(200,.cells 0 152 (List.append (waf d) ([.map 201,.slz 424 0 l.length cO])))
abbrev YL:Nat×Blk:=(368,.cells 0 114 [.slz 432 0 d.ps.n cO])
abbrev HQ:Nat×Blk:=(297,.lp LoopState.ready none (haT C K) (Array.mk [8]) ac body)
abbrev jI:Nat×Blk:=(256,.cellsR 0 90 [.ptr 200 0 0])
abbrev vL:Nat×Blk:=(264,.cellsR 0 96 [.slz 216 0 K.n C])
abbrev QCu:Nat×Blk:=(384,.cellsR 0 31 [.fn (Fn.func 103) (waI)])
abbrev vZ:Nat×Blk:=(0,.frz (wae) d.ps.n λi=>QA.enc (d.ps.get i))
abbrev YF:Nat×Blk:=(424,.rowz true 49 kB l.length λi=>QA.enc (l.getD i (Lay.mk (0:Int) (0:Int))))
abbrev jc:Nat×Blk:=(216,.frz (wbI) K.n λi=>QA.enc (K.get i))
theorem QQW(u u':Nat->Nat->Int)(l:List Lay)(p:Nat)(A B:Prop)(g0:Nat->Value):exec (mkE prog (Wz pb d l.length p)) (QDw prog pb d E C K ac body u l p [(A,.exit 2,Hr d E C K ac body u' l p),(B,.ret,haF d E C K ac body u' l)]) (QJ f103 0) (JSt.inst (Gp d E C K ac body u l p) g0) (KD Zq QRX) = .br (decide ((p:Int)<(d.ps.n:Int))) (.need (decide ((0:Int)<=(p:Int)/\(p:Int)<(d.ps.n:Int))&&decide (d.ps.n<=d.ps.n)) (.need (decide (p<d.ps.n)) (.br (decide (u ((p:Int).toNat+0) 0=1)) (.leaf (.tup (QPZ d p)) ([(X3 d l),(201,.mp E.1 E.2),(YL d), (HQ C K ac body),(232,.cells 0 4 [.bool true false]),jI,(304,.cellsR 0 105 [.yld 297]),(vL C K),QCu,(vZ d),(YF l),(432,.rowz true 4 [CK.bool] d.ps.n u),(jc K)])) (.need (pb (([0=0,0=0,(p:Int)=(p:Int)]++waa d++((wb3 l)++wad d)))) (.ak [p<d.ps.n/\u p 0=0] (.ak (rz 10) (.ak ((wbp d p++(wbU d p))++waa d++(([cO=cO,0=0]++wbO E l)++wag l++((wbo d++[QB 1 d.ps.n u u])++wai++([Array.mk [(8:Tmp)]=Array.mk [(8:Tmp)],ac=ac,body=body,0=0,0=0,0=0,K.n=K.n,C=C,0=0,0=0,0=0,0=0,0=0]++wbc C K++[0=0,0=0,0=0,0=0,false=false,Fn.func (103:FuncId)=Fn.func (103:FuncId)])))) (.ak (rz 11) (.ak (([K.n=K.n,C=C,0=0,0=0]++waX K)++wad d) (.both (.asm (A) (.all (λ(g0:Nat->Value)=>.leaf (.tup (QPZ d p)) ([(X3 d l),(201,.mp E.1 E.2),(YL d),(HQ C K ac body),(232,.cells 0 4 [.bool true false]),jI,(304,.cellsR 0 105 [.yld 297]),(vL C K),QCu,(vZ d),(YF l),(432,.rowz true 4 [CK.bool] d.ps.n u'),(jc K)])))) (.asm (B) (.all (λ(g1:Nat->Value)=>.leaf (.tup [.nili,.ptr 101 0 0, .bool false false]) (((X3 d l)::(201,.mp E.1 E.2)::(YL d)::List.append (waV C K ac body) ([(YF l),(432,.rowz true 4 [CK.bool] d.ps.n u')])))))))))))))))) (.leaf (.tup [.ptr 0 0 0,.ptr 101 0 0]) ([(X3 d l),(201,.mp E.1 E.2),(YL d),(HQ C K ac body),(232,.cells 0 4 [.bool true false]),(vZ d),(YF l),(432,.rowz true 4 [CK.bool] d.ps.n u),(jc K), jI,(vL C K)])):=by kernel_rfl
abbrev QMi(p:Nat):List AV:=(List.append (waI) ([vi (d.ps.n:Int),vi (i64.wrap ((p:Int)+1))]))
abbrev Jb:List Prop:=[0=0,0=0,0=0,0=0]
abbrev jT(d:Puz)(l:List Lay):List Prop:=(([d.pK.aK=d.pK.aK]++waD d++([0=0,d.ps.n=d.ps.n,cO=cO,0=0]++wbO E l))++wag l++[0=0,d.ps.n=d.ps.n,cO=cO])
abbrev QJT:List Prop:=(wai++[Array.mk [8]=Array.mk [(8:Tmp)],ac=ac])
abbrev WO:List Prop:=[0=0,0=0,0=0,K.n=K.n,C=C]
abbrev jP:List Prop:=([0=0]++wbc C K)
abbrev QS4(d:Puz):List Prop:=(([0=0,0=0]++waX K)++wad d)
theorem QTr(p p':Nat):QF 416 (QMi d p) ([(X3 d l),(201,.mp E.1 E.2),(YL d),(HQ C K ac body),(232,.cells 0 4 [.bool true false]),jI,(304,.cellsR 0 105 [.yld 297]),(vL C K),QCu, (vZ d),(YF l),(432,.rowz true 4 [CK.bool] d.ps.n u),(jc K)]) (Gp d E C K ac body u l p')=(some (Jb++Jb++([0=0,0=0]++wbP d p p')++(jT E d l)++[d.ps.n<=d.ps.n,QB 1 d.ps.n u u]++(QJT ac)++[body=body]++(WO C K)++Jb++(jP C K)++Jb++[false=false,Fn.func 103=Fn.func (103:FuncId)]++Jb++Jb++(WO C K)++(QS4 K d))):=by kernel_rfl
theorem QXW(p p':Nat):QF 416 (QMi d p) ([(X3 d l),(201,.mp E.1 E.2),(YL d),(HQ C K ac body),(232,.cells 0 4 [.bool true false]),jI,(304,.cellsR 0 105 [.yld 297]),(vL C K),QCu, (vZ d),(YF l),(432,.rowz true 4 [CK.bool] d.ps.n u'),(jc K)]) (Gp d E C K ac body u' l p')=(some (Jb++Jb++([0=0,0=0]++wbP d p p')++(jT E d l)++[d.ps.n<=d.ps.n,QB 1 d.ps.n u' u']++(QJT ac)++[body=body]++(WO C K)++Jb++(jP C K)++Jb++[false=false,Fn.func 103=Fn.func (103:FuncId)]++Jb++Jb++(WO C K)++(QS4 K d))):=by kernel_rfl
theorem QXo :QF 416 [.bool false false] (((X3 d l)::(201,.mp E.1 E.2)::(YL d)::List.append (waV C K ac body) ([(YF l),(432,.rowz true 4 [CK.bool] d.ps.n u')]))) (haF d E C K ac body u' l)=(some ([false=false,d.pK.length=d.pK.length]++(jT E d l)++[d.ps.n<=d.ps.n, QB 1 d.ps.n u' u',LoopState.done=LoopState.done,some Code.ret=some Code.ret,Array.mk [8]=Array.mk [(8:Tmp)],ac=ac,body=body]++(WO C K)++Jb++(jP C K)++Jb++[true=true])):=by kernel_rfl
theorem QSz :QF 416 [] ([(X3 d l),(201,.mp E.1 E.2),(YL d),(HQ C K ac body),(232,.cells 0 4 [.bool true false]),(vZ d),(YF l),(432,.rowz true 4 [CK.bool] d.ps.n u),(jc K),jI,(vL C K)]) (HP d E C K ac body u l)=(some ([d.pK.length=d.pK.length]++(jT E d l)++[d.ps.n<=d.ps.n,QB 1 d.ps.n u u]++(QJT ac)++[body=body] ++ (WO C K)++Jb++(jP C K)++Jb++[false=false])):=by kernel_rfl
abbrev haN(P : Program)(T : Tab): Hnd := { hnd (mkE P T) 2 with loop := λ_ _ _=>.fail "a loop" }
abbrev haX(P:Program)(J:JSt)(X:List (Prop×Ex×JSt)):Hnd:={ hnd (mkE P QU) 2 with loop:=λ_=>KJ 416 Zq J X }
abbrev QJJ:Nat×Blk:=(297,.lp LoopState.done (some Code.ret) (haT C K) (Array.mk [8]) (QM f53 0).1 (QM f53 0).2)
abbrev QGY(E:ECt)(K:Rw Pt)(d:Puz)(l:List Lay)(u:Nat->Nat->Int):List (Nat×Blk):=[(200,.cells 0 152 (List.append (waf d) ([.map 201,.slz 400 0 l.length cO]))),(201,.mp E.1 E.2),(368,.cells 0 114 [.slz 408 0 d.ps.n cO]),(QJJ C K),(232,.cells 0 4 [.bool true true]),(vZ d),(400,.rowz true 49 kB l.length λi=>QA.enc (l.getD i (Lay.mk (0:Int) (0:Int)))),(408,.rowz true 4 [CK.bool] d.ps.n u),(jc K),jI,(vL C K)]
theorem QgI :(Vu (mkE prog QU) (haN prog QU) f103 QF1 (HL d E C K (QM f53 0).1 (QM f53 0).2 u l).hp 416 λv h _=>Zf Zq v h) = .br
  ((l.length : Int) == (d.ps.n : Int)) (.leaf (.bool true false) ((QGY C E K d l u))) (.fail ("a loop")) := by kernel_rfl
abbrev wbz:List Prop:=[(QM f53 0).1=(QM f53 0).1,(QM f53 0).2=(QM f53 0).2]
theorem QNJ(u u':Nat->Nat->Int)(l:List Lay)(A B:Prop):(Vu (mkE prog QU) (haX prog (Gp d E C K (QM f53 0).1 (QM f53 0).2 u l 0) [(A,.exit 0,HP d E C K (QM f53 0).1 (QM f53 0).2 u' l),(B,.ret,haF d E C K (QM f53 0).1 (QM f53 0).2 u' l)]) f103 QF1 (HL d E C K (QM f53 0).1 (QM f53 0).2 u l).hp 416 λv h _=>Zf Zq v h) = .br ((l.length:Int)==(d.ps.n:Int)) (.leaf (.bool true false) ((QGY C E K d l u))) (.ak (rz 10) (.ak ([(d.ps.n:Int)=(d.ps.n:Int),(0:Int)=0]++waa d++(([cO=cO,0=0]++wbO E l)++wag l++((wbo d++[QB 1 d.ps.n u u])++wai++(([Array.mk [(8:Tmp)]=Array.mk [(8:Tmp)]]++wbz++[0=0,0=0,0=0,K.n=K.n,C=C,0=0,0=0,0=0,0=0,0=0])++wbc C K++[0=0,0=0,0=0,0=0,false=false,Fn.func (103:FuncId)=Fn.func (103:FuncId)])))) (.ak (rz 11) (.ak (([K.n=K.n,C=C,0=0,0=0]++waX K)++wad d) (.both (.asm (A) (.all (λ(g0:Nat->Value)=>.leaf (.bool true true) ([(X3 d l),(201,.mp E.1 E.2),(YL d),(297,.lp LoopState.ready none (haT C K) (Array.mk [8]) (QM f53 0).1 (QM f53 0).2),(232,.cells 0 4 [.bool true false]),(YF l),(432,.rowz true 4 [CK.bool] d.ps.n u')])))) (.asm (B) (.all (λ(g1:Nat->Value)=>.leaf (.bool false false) ([(X3 d l),(201,.mp E.1 E.2),(YL d), (QJJ C K),(232,.cells 0 4 [.bool true true]),(YF l),(432,.rowz true 4 [CK.bool] d.ps.n u')]))))))))):=by kernel_rfl
abbrev QOG:List Prop:=([LoopState.done=LoopState.done,some Code.ret=some Code.ret,Array.mk [8]=Array.mk [(8:Tmp)]]++wbz)
theorem QbC :QF 416 [(.bool true false)] ((QGY C E K d l u)) (KX (haV d E C K (QM f53 0).1 (QM f53 0).2 u l))=(some ([false=false,d.pK.length=d.pK.length] ++ (jT E d l)++[d.ps.n<=d.ps.n,QB 1 d.ps.n u u]++QOG++(WO C K)++Jb++(jP C K)++Jb++[true=true])):=by kernel_rfl
theorem QU0(u u':Nat->Nat->Int)(l:List Lay):QF 416 [(.bool true true)] ([(X3 d l),(201,.mp E.1 E.2),(YL d),(297,.lp LoopState.ready none (haT C K) (Array.mk [8]) (QM f53 0).1 (QM f53 0).2),(232, .cells 0 4 [.bool true false]),(YF l),(432,.rowz true 4 [CK.bool] d.ps.n u')]) (KX (haU d E C K (QM f53 0).1 (QM f53 0).2 u l))=(some ([true=true, d.pK.length=d.pK.length]++(jT E d l)++([d.ps.n<=d.ps.n,QB 1 d.ps.n u' u]++wai++([Array.mk [8]=Array.mk [(8:Tmp)]]++wbz))++(WO C K)++Jb++(jP C K)++Jb++[false=false])):=by kernel_rfl
theorem Qht(u u':Nat->Nat->Int)(l:List Lay):QF 416 [(.bool false false)] ([(X3 d l),(201,.mp E.1 E.2),(YL d),(QJJ C K),(232,.cells 0 4 [.bool true true]),(YF l),(432,.rowz true 4 [CK.bool] d.ps.n u')]) (KX (haV d E C K (QM f53 0).1 (QM f53 0).2 u l))=(some ([false=false,d.pK.length=d.pK.length]++(jT E d l)++[d.ps.n<=d.ps.n,QB 1 d.ps.n u' u]++QOG++(WO C K)++Jb++(jP C K)++Jb++[true=true])):=by kernel_rfl
def WN(_:Unit):Qb Unit->UC
 | .go _=>haU d E C K ac body (QD l) l
 | .stop _=>haV d E C K ac body (QD l) l
open Classical in
def WK(p t:Nat):List Prop->Bool:=if t<turnN d p then QO else λ_=>false
def vC(P:Program)(d:Puz)(E:ECt)(C:Cap)(K:Rw Pt)(ac body:Code)(rec:List Lay->Unit->Qb Unit)(l:List Lay)(p:Nat)(k:Nat×Unit):Env:=
 mkE P (QA2 (WK d p k.1) (WK d p k.1) d E C K l ⟨p,k.1⟩ (Q3 d E l ⟨p,k.1⟩) (WN d E C K ac body (l++[⟨p,k.1⟩]) k.2 (rec (l++[⟨p,k.1⟩]) k.2)))
def ZV(l:List Lay)(p:Nat)(k:Nat×Unit)(e:Ex)(J:JSt):Prop:=match Q4 (Jw (Qs K) d E rec l p) ((List.range (turnN d p)).drop k.1) k.2 with
 | .go _=>e = .exit 2/\J=Hr d E C K ac body (QD l) l p
 | .stop _=>e = .ret/\J=haF d E C K ac body (QD l) l
set_option maxHeartbeats 1000000 in
theorem QgE(l:List Lay)(p:Nat)(hp:p<d.ps.n)(hn:d.ps.n<=1000)(hK:K.n<=1000)(hl:l.length<=1000)(hu:KM l p=false):Jm (λk:Nat×Unit=>jg d E C K ac body (QD l) l p (tnV d p) k.1) (λk=>k.1<=turnN d p) (λk=>turnN d p-k.1) (ZV d E C K ac body rec l p) 416 QFk Zq (vC prog d E C K ac body rec l p) (λk=>hnd (vC prog d E C K ac body rec l p k) 0) (Qa (QJ f103 0)):=by
 refine⟨λk g0 hk=>?_⟩;obtain⟨t,s⟩:=k;have hk:t<=turnN d p:=hk;obtain⟨ht1,ht4⟩:=WA d p;have hlen:(l++[(⟨p,t⟩:Lay)]).length=l.length+1:=by rw[List.length_append,List.length_singleton]
 have hw1:i64.wrap (((l++[(⟨p,t⟩:Lay)]).length:Int)-1)=l.length:=(w64 (by omega) (by omega)).trans (by omega)
 have hpop:(i64.wrap (((l++[(⟨p,t⟩:Lay)]).length:Int)-1)).toNat=l.length:=by rw[hw1];exact Int.toNat_natCast _
 have hle:l.length<=(l++[(⟨p,t⟩:Lay)]).length:=by omega
 have hpb:t<turnN d p->WK d p t=QO:=λh=>by unfold WK;rw[if_pos h]
 have wt:t<turnN d p->i64.wrap ((t:Int)+1)=((t+1:Nat):Int):=λh=>(w64 (by omega) (by omega)).trans (by omega)
 have step:=λh:t<turnN d p=>Wl (f:=Jw (Qs K) d E rec l p) h s;unfold vC;simp only
 have next:t<turnN d p->∀{s2:Unit},Jw (Qs K) d E rec l p s t = .go s2->∀ e J,ZV d E C K ac body rec l p (t+1,s2) e J->ZV d E C K ac body rec l p (t,s) e J:=by
  intro h s2 he e J hr;unfold ZV at hr ⊢;simp only at hr ⊢;rw[step h,he];exact hr
 have last:turnN d p<=t->ZV d E C K ac body rec l p (t,s) (.exit 2) (Hr d E C K ac body (QD l) l p):=by
  intro h;unfold ZV;simp only[W8 h,and_self]
 cases hr:rec (l++[⟨p,t⟩]) s with
 | go s'=>
  simp only[WN];have et:=QdH (WK d p t) (WK d p t) d E C K ac body (QD l) (QD (l++[⟨p,t⟩])) l (l++[⟨p,t⟩]) (Q3 d E l ⟨p,t⟩) p (tnV d p) t g0;refine Qe et ?_;clear et;refine QE (λb0=>?_) (λb0=>?_);have h:t<turnN d p:=by have:=qdt b0;omega
  rw[hpb h];have hw:=wt h;refine QG ?_ ?_;rotate_left;refine QE (λb1=>?_) (λb1=>?_);have hA:Qs K l.length ⟨p,t⟩=false:=by simpa using b1
  have ho:Jw (Qs K) d E rec l p s t = .go s:=by unfold Jw;rw[hA];rfl
  refine⟨(t+1,s),h,by show turnN d p-(t+1)<turnN d p-t;omega,next h ho,rfl,rfl,_,QO0 d E C K ac body (QD l) l p (tnV d p) t (t+1),?_⟩
  rotate_left
  refine QG ?_ ?_;rotate_left;refine QE (λb2=>?_) (λb2=>?_);have hA:Qs K l.length ⟨p,t⟩=true:=by simpa using b1
  have hv:Q3 d E l ⟨p,t⟩=false:=by simpa using b2
  have ho:Jw (Qs K) d E rec l p s t = .go s:=by unfold Jw KF;rw[hA,hv];rfl
  refine⟨(t+1,s),h,by show turnN d p-(t+1)<turnN d p-t;omega,next h ho,rfl,rfl,_,QOu d E C K ac body (QD l) l p (tnV d p) t (t+1),?_⟩
  rotate_left
  iterate 7 (refine QG ?_ ?_;rotate_left)
  refine QE ?_ ?_<;>intro b3
  .cases b3
  have hA:Qs K l.length ⟨p,t⟩=true:=by simpa using b1
  have hv:Q3 d E l ⟨p,t⟩=true:=by simpa using b2
  have ho:Jw (Qs K) d E rec l p s t = .go s':=by unfold Jw KF;rw[hA,hv];exact hr
  have hb:=qO l d.ps.n p t hu;have hq:=Wt l ⟨p,t⟩;have hnx:=next h ho
  clear next last step hr ho
  generalize QD (l++[⟨p,t⟩])=u2 at hb ⊢;generalize l++[⟨p,t⟩]=l2 at hpop hle hq ⊢;generalize hu1:QD l=u1 at hb ⊢;refine⟨(t+1,s'),h,by show turnN d p-(t+1)<turnN d p-t;omega,hnx,rfl,rfl,_,QgB d E C K ac body u1 u2 u1 l l2 p (tnV d p) t (t+1),?_⟩
  rotate_left
  have h:turnN d p<=t:=by have:=qdf b0;omega
  refine⟨_,last h,rfl,rfl,_,QQC d E C K ac body (QD l) l p,?_⟩
  rotate_left
  all_goals first|((with_reducible show _=true);(first|rfl|exact qde hK|(refine Q9.2 ?_;repeat' first|with_reducible refine QN ?_ ?_|exact tv|with_reducible exact qRr|with_reducible exact hlen|with_reducible exact hlen.symm|with_reducible exact Nat.le_of_eq hlen|with_reducible exact Ww l ⟨p,t⟩|with_reducible exact Wa l _ p t|exact rfl|refine aI ?_ ?_)|(rw[hw1];simp)|(simp;omega)))|(repeat' first|with_reducible refine QN ?_ ?_|exact tv|with_reducible exact qRr|with_reducible exact hw|with_reducible exact hpop|with_reducible exact hle|with_reducible exact hq|with_reducible exact hb|exact rfl|refine aI ?_ ?_)
 | stop s'=>
  simp only[WN];have et:=QXA (WK d p t) (WK d p t) d E C K ac body (QD l) (QD (l++[⟨p,t⟩])) l (l++[⟨p,t⟩]) (Q3 d E l ⟨p,t⟩) p (tnV d p) t g0;refine Qe et ?_;clear et;refine QE (λb0=>?_) (λb0=>?_);have h:t<turnN d p:=by have:=qdt b0;omega
  rw[hpb h];have hw:=wt h;refine QG ?_ ?_;rotate_left;refine QE (λb1=>?_) (λb1=>?_);have hA:Qs K l.length ⟨p,t⟩=false:=by simpa using b1
  have ho:Jw (Qs K) d E rec l p s t = .go s:=by unfold Jw;rw[hA];rfl
  refine⟨(t+1,s),h,by show turnN d p-(t+1)<turnN d p-t;omega,next h ho,rfl,rfl,_,QO0 d E C K ac body (QD l) l p (tnV d p) t (t+1),?_⟩
  rotate_left
  refine QG ?_ ?_;rotate_left;refine QE (λb2=>?_) (λb2=>?_);have hA:Qs K l.length ⟨p,t⟩=true:=by simpa using b1
  have hv:Q3 d E l ⟨p,t⟩=false:=by simpa using b2
  have ho:Jw (Qs K) d E rec l p s t = .go s:=by unfold Jw KF;rw[hA,hv];rfl
  refine⟨(t+1,s),h,by show turnN d p-(t+1)<turnN d p-t;omega,next h ho,rfl,rfl,_,QOu d E C K ac body (QD l) l p (tnV d p) t (t+1),?_⟩
  rotate_left
  iterate 7 (refine QG ?_ ?_;rotate_left)
  refine QE (λb3=>?_) (λb3=>?_);have hA:Qs K l.length ⟨p,t⟩=true:=by simpa using b1
  have hv:Q3 d E l ⟨p,t⟩=true:=by simpa using b2
  have ho:Jw (Qs K) d E rec l p s t = .stop s':=by unfold Jw KF;rw[hA,hv];exact hr
  have hrel:ZV d E C K ac body rec l p (t,s) .ret (haF d E C K ac body (QD l) l):=by
   unfold ZV;simp only[step h,ho,and_self]
  have hb:=qO l d.ps.n p t hu;have hq:=Wt l ⟨p,t⟩;clear next last step hr ho
  generalize QD (l++[⟨p,t⟩])=u2 at hb ⊢;generalize l++[⟨p,t⟩]=l2 at hpop hle hq ⊢;generalize hu1:QD l=u1 at hb hrel ⊢;refine⟨_,hrel,rfl,rfl,_,QYI d E C K ac body u2 u1 l l2 p,?_⟩
  rotate_left
  .cases b3
  have h:turnN d p<=t:=by have:=qdf b0;omega
  refine⟨_,last h,rfl,rfl,_,QQC d E C K ac body (QD l) l p,?_⟩
  rotate_left
  all_goals first|((with_reducible show _=true);(first|rfl|exact qde hK|(refine Q9.2 ?_;repeat' first|with_reducible refine QN ?_ ?_|exact tv|with_reducible exact qRr|with_reducible exact hlen|with_reducible exact hlen.symm|with_reducible exact Nat.le_of_eq hlen|with_reducible exact Ww l ⟨p,t⟩|with_reducible exact Wa l _ p t|exact rfl|refine aI ?_ ?_)|(rw[hw1];simp)|(simp;omega)))|(repeat' first|with_reducible refine QN ?_ ?_|exact tv|with_reducible exact qRr|with_reducible exact hw|with_reducible exact hpop|with_reducible exact hle|with_reducible exact hq|with_reducible exact hb|exact rfl|refine aI ?_ ?_)
def QFO(l:List Lay)(p:Nat):Prop:=∀ t,t<turnN d p->∀ s,QQ prog 103 (uFC (WN d E C K ac body (l++[⟨p,t⟩]) s (rec (l++[⟨p,t⟩]) s)))
theorem QdI{d:Puz}{E:ECt}{C:Cap}{K:Rw Pt}{ac body:Code}{rec:List Lay->Unit->Qb Unit}{l:List Lay}{p:Nat}(hd:KB d)(hE:WfE E)(hK:K.n<=1000)(hl:l.length<=1000)(hL:∀ y∈l,Q0 d y)(hp:p<d.ps.n)(IH:QFO d E C K ac body rec l p)(k:Nat×Unit):(vC prog d E C K ac body rec l p k).Sound:=by
 unfold vC WK
 by_cases h:k.1<turnN d p
 .rw[if_pos h];have h4:=(WA d p).2;exact QP ((Qd.add (QCM d E l ⟨p,k.1⟩ hd hE hl hL ⟨⟨by show(0:Int)<=p;omega,by show(p:Int)<_;omega⟩,by show(0:Int)<=k.1;omega,by show(k.1:Int)<=3;omega⟩)).add (IH k.1 h k.2))
 .rw[if_neg h];exact QP ((Qd.add (Jl (by kernel_rfl) _)).add (Jl (by kernel_rfl) _))
def QBW(l:List Lay)(p:Nat)(s:Unit):List (Prop×Ex×JSt):=
 [((inA (Qs K) d E rec l p s).isGo=true,.exit 2,Hr d E C K ac body (QD l) l p),((inA (Qs K) d E rec l p s).isGo=false,.ret,haF d E C K ac body (QD l) l)]
theorem QWF{d:Puz}{E:ECt}{C:Cap}{K:Rw Pt}{ac body:Code}{rec:List Lay->Unit->Qb Unit}{l:List Lay}(hd:KB d)(hE:WfE E)(hK:K.n<=1000)(hl:l.length<=1000)(hL:∀ y∈l,Q0 d y)(p:Nat)(s:Unit)(IH:p<d.ps.n->QFO d E C K ac body rec l p)(G:Ctx)(hrd:G.rd=none)(hG:G.n<=416):
  Q1 (mkE prog (Wz QO d l.length p)) G (QDw prog QO d E C K ac body (QD l) l p (QBW d E C K ac body rec l p s)) (QJ f103 0):=by
 have hT:Qc (Wz QO d l.length p):=Qd.add (Yg d l.length p);refine Kk (body:=Qa (QJ f103 0)) (QP hT) hrd (by kernel_rfl) ?_
 refine Vy λhp=>?_;have hu:=QCZ hp.2;have hEnv:=QdI (ac:=ac) (body:=body) hd hE hK hl hL hp.1 (IH hp.1);refine Jz (E0:=mkE prog (Wz QO d l.length p)) (E:=vC prog d E C K ac body rec l p) (H:=λk=>hnd (vC prog d E C K ac body rec l p k) 0) (n0:=416) (s0:=(0,s)) (λ_=>rfl) hEnv hG (λk _=>Qw (hEnv k) 0 G _ hrd) (λk _=>(by decide:416<=440)) ?_ (QgE d E C K ac body rec l p hp.1 hd.n hK hl hu) (Nat.zero_le _) ?_
 .intro k e J hr;unfold ZV at hr;split at hr<;>(rw[hr.2];exact(by decide:416<=440))
 .intro e J hr;unfold ZV at hr;simp only[List.drop_zero]at hr;have hi:inA (Qs K) d E rec l p s=Q4 (Jw (Qs K) d E rec l p) (List.range (turnN d p)) s:=rfl;unfold QBW;rw[hi];cases hc:Q4 (Jw (Qs K) d E rec l p) (List.range (turnN d p)) s with
  | go s'=>
   rw[hc]at hr;exact⟨_,qmc,rfl,hr.1.symm,hr.2.symm⟩
  | stop s'=>
   rw[hc]at hr;exact⟨_,List.mem_cons_of_mem _ qmc,rfl,hr.1.symm,hr.2.symm⟩
def YR(l:List Lay)(k:Nat×Unit)(e:Ex)(J:JSt):Prop:=match Q4 (Xl (Qs K) d E rec l) ((List.range d.ps.n).drop k.1) k.2 with
 | .go s'=>e = .exit 0/\J=HP d E C K ac body (QD l) l
 | .stop s'=>e = .ret/\J=haF d E C K ac body (QD l) l
set_option maxHeartbeats 1000000 in
theorem Qhn(l:List Lay)(hn:d.ps.n<=1000):Jm (λk:Nat×Unit=>Gp d E C K ac body (QD l) l k.1) (λk=>k.1<=d.ps.n) (λk=>d.ps.n-k.1) (YR d E C K ac body rec l) 416 QRX Zq (λk=>mkE prog (Wz QO d l.length k.1)) (λk=>QDw prog QO d E C K ac body (QD l) l k.1 (QBW d E C K ac body rec l k.1 k.2)) (QJ f103 0):=by
 refine⟨λk g0 hk=>?_⟩;obtain⟨p,s⟩:=k;have hk:p<=d.ps.n:=hk;have wp:p<d.ps.n->i64.wrap ((p:Int)+1)=((p+1:Nat):Int):=λh=>VJ h hn;have step:=λh:p<d.ps.n=>Wl (f:=Xl (Qs K) d E rec l) h s
 have next:p<d.ps.n->∀{s2:Unit},Xl (Qs K) d E rec l s p = .go s2->∀ e J,YR d E C K ac body rec l (p+1,s2) e J->YR d E C K ac body rec l (p,s) e J:=by
  intro h s2 he e J hr;unfold YR at hr ⊢;simp only at hr ⊢;rw[step h,he];exact hr
 have stop:p<d.ps.n->∀{s2:Unit},Xl (Qs K) d E rec l s p = .stop s2->YR d E C K ac body rec l (p,s) .ret (haF d E C K ac body (QD l) l):=by
  intro h s2 he;unfold YR;simp only[step h,he,and_self]
 have last:d.ps.n<=p->YR d E C K ac body rec l (p,s) (.exit 0) (HP d E C K ac body (QD l) l):=by
  intro h;unfold YR;simp only[W8 h,and_self]
 have hpz:KM l p=false->Xl (Qs K) d E rec l s p=inA (Qs K) d E rec l p s:=λh=>by unfold Xl;rw[h];rfl
 have hpu:KM l p=true->Xl (Qs K) d E rec l s p = .go s:=λh=>by unfold Xl;rw[h];rfl
 unfold QBW;simp only;cases hr:inA (Qs K) d E rec l p s with
 | go s'=>
  simp only[Qb.isGo,Qb.s,Bool.true_eq_false,Bool.false_eq_true];have et:=QQW QO d E C K ac body (QD l) (QD l) l p True False g0;refine Qe et ?_;clear et;refine QE (λb0=>?_) (λb0=>?_);have h:p<d.ps.n:=by have:=qdt b0;omega
  have hw:=wp h
  iterate 2 (refine QG ?_ ?_;rotate_left)
  refine QE (λb1=>?_) (λb1=>?_);have hub:KM l p=true:=Vt.symm.trans b1;refine⟨(p+1,s),h,by show d.ps.n-(p+1)<d.ps.n-p;omega,next h (hpu hub),rfl,rfl,_,QTr d E C K ac body (QD l) l p (p+1),?_⟩
  rotate_left
  have hub:KM l p=false:=Vt.symm.trans b1;have hu0:QD l p 0=0:=by unfold QD;rw[hub];rfl
  refine QG ?_ ?_;rotate_left
  iterate 82 refine Q2 (by first|exact tv|exact⟨h,hu0⟩|with_reducible exact qRr|exact rfl) ?_
  refine Km ?_ ?_;refine Qh λa0=>?_;refine Qj λg0=>?_;refine⟨(p+1,s'),h,by show d.ps.n-(p+1)<d.ps.n-p;omega,next h ((hpz hub).trans hr),rfl,rfl,_,QXW d E C K ac body (QD l) l p (p+1),?_⟩
  rotate_left
  refine Qh λa1=>?_;refine Qj λg1=>?_
  .exact a1.elim
  have h:d.ps.n<=p:=by have:=qdf b0;omega
  refine⟨_,last h,rfl,rfl,_,QSz d E C K ac body (QD l) l,?_⟩
  rotate_left
  all_goals first|((with_reducible show _=true);(first|(refine Q9.2 ?_;repeat' first|exact tv|with_reducible exact qRr|exact rfl|refine aI ?_ ?_)|(simp;omega)))|(repeat' first|with_reducible refine QN ?_ ?_|exact tv|with_reducible exact qRr|with_reducible exact hw|exact rfl|refine aI ?_ ?_)
 | stop s'=>
  simp only[Qb.isGo,Qb.s,Bool.true_eq_false,Bool.false_eq_true];have et:=QQW QO d E C K ac body (QD l) (QD l) l p False True g0;refine Qe et ?_;clear et;refine QE (λb0=>?_) (λb0=>?_);have h:p<d.ps.n:=by have:=qdt b0;omega
  have hw:=wp h
  iterate 2 (refine QG ?_ ?_;rotate_left)
  refine QE (λb1=>?_) (λb1=>?_);have hub:KM l p=true:=Vt.symm.trans b1;refine⟨(p+1,s),h,by show d.ps.n-(p+1)<d.ps.n-p;omega,next h (hpu hub),rfl,rfl,_,QTr d E C K ac body (QD l) l p (p+1),?_⟩
  rotate_left
  have hub:KM l p=false:=Vt.symm.trans b1;have hu0:QD l p 0=0:=by unfold QD;rw[hub];rfl
  refine QG ?_ ?_;rotate_left
  iterate 82 refine Q2 (by first|exact tv|exact⟨h,hu0⟩|with_reducible exact qRr|exact rfl) ?_
  refine Km ?_ ?_;refine Qh λa0=>?_;refine Qj λg0=>?_
  .exact a0.elim
  refine Qh λa1=>?_;refine Qj λg1=>?_;refine⟨_,stop h ((hpz hub).trans hr),rfl,rfl,_,QXo d E C K ac body (QD l) l,?_⟩
  rotate_left
  have h:d.ps.n<=p:=by have:=qdf b0;omega
  refine⟨_,last h,rfl,rfl,_,QSz d E C K ac body (QD l) l,?_⟩
  rotate_left
  all_goals first|((with_reducible show _=true);(first|(refine Q9.2 ?_;repeat' first|exact tv|with_reducible exact qRr|exact rfl|refine aI ?_ ?_)|(simp;omega)))|(repeat' first|with_reducible refine QN ?_ ?_|exact tv|with_reducible exact qRr|with_reducible exact hw|exact rfl|refine aI ?_ ?_)
abbrev Xc:Code:=(QM f53 0).1
abbrev Xd:Code:=(QM f53 0).2
theorem QeW  :(haU d E C K ac body u l).Ok:=by
 refine⟨(by decide:392<=416),rfl,rfl,?_,rfl,λ_ _=>rfl,λnid h=>?_⟩
 .intro q hq;simp only[UC.po,haU,haW,rwY,rwU,List.mem_cons,List.not_mem_nil,or_false]at hq;rcases hq with rfl|rfl|rfl|rfl|rfl|rfl|rfl|rfl|rfl|rfl|rfl<;>refine⟨rfl,rfl,rfl,?_⟩<;>first|exact λ_=>rfl|exact λh=>absurd (show 416<392 from h) (by decide)|exact λh=>absurd (show 417<392 from h) (by decide)|exact λh=>absurd (show 418<392 from h) (by decide)|exact λh=>absurd (show 419<392 from h) (by decide)
 .have e0:=Kj 392 416 0 nid (by decide)
  have e1:=Kj 392 416 1 nid (by decide)
  simp only[UC.po,haU,haW,rwY,rwU,HL,haT,Kb,Qo.val,List.cons_append,List.nil_append,List.map_cons,List.map_nil,Blk.mapId,AV.mapId,AV.mapIdL,Nat.add_zero]at e0 e1 ⊢;rw[e0,e1];rfl
theorem QSF  :(haV d E C K ac body u l).Ok:=by
 refine⟨(by decide:392<=416),rfl,rfl,?_,rfl,λ_ _=>rfl,λnid h=>?_⟩
 .intro q hq;simp only[UC.po,haV,haW,rwY,rwU,List.mem_cons,List.not_mem_nil,or_false]at hq;rcases hq with rfl|rfl|rfl|rfl|rfl|rfl|rfl|rfl|rfl|rfl|rfl<;>refine⟨rfl,rfl,rfl,?_⟩<;>first|exact λ_=>rfl|exact λh=>absurd (show 416<392 from h) (by decide)|exact λh=>absurd (show 417<392 from h) (by decide)|exact λh=>absurd (show 418<392 from h) (by decide)|exact λh=>absurd (show 419<392 from h) (by decide)
 .have e0:=Kj 392 416 0 nid (by decide)
  have e1:=Kj 392 416 1 nid (by decide)
  simp only[UC.po,haV,haW,rwY,rwU,HL,haT,Kb,Qo.val,List.cons_append,List.nil_append,List.map_cons,List.map_nil,Blk.mapId,AV.mapId,AV.mapIdL,Nat.add_zero]at e0 e1 ⊢;rw[e0,e1];rfl
theorem Qcp(T:Tab)(hT:Qc T)(G:Ctx)(hrd:G.rd=none):Q1 (mkE prog T) G (haN prog T) (Qk f103):=
 Kk (body:=QJ f103 0) (QP hT) hrd (by kernel_rfl) (λ_ _ _ _ _ _ _ h _ _=>h.elim)
set_option maxHeartbeats 1000000 in
theorem Qho(hn:l.length=d.ps.n):QQ prog 103 (uFC (haV d E C K Xc Xd (QD l) l)):=by
 have et:=QgI d E C K (QD l) l;have hlen:((l.length:Int)==(d.ps.n:Int))=true:=by rw[hn];simp
 refine K4 (E:=mkE prog QU) (QP Qd) func103 (by kernel_rfl) (by kernel_rfl) (QSF ..) (λG hG _=>Qcp _ Qd G hG) ⟨?_⟩
 refine Qe et ?_;clear et;refine QE (λb0=>?_) (λb0=>?_);refine⟨rfl,rfl,_,QbC d E C K (QD l) l,?_⟩
 rotate_left
 .exact Bool.noConfusion (hlen.symm.trans b0)
 all_goals (repeat' first|with_reducible refine QN ?_ ?_|exact tv|with_reducible exact qRr|exact rfl|refine aI ?_ ?_)
theorem QTN{d:Puz}{E:ECt}{C:Cap}{K:Rw Pt}{ac body:Code}{rec:List Lay->Unit->Qb Unit}{l:List Lay}(hd:KB d)(hE:WfE E)(hK:K.n<=1000)(hl:l.length<=1000)(hL:∀ y∈l,Q0 d y)(s:Unit)(IH:∀ p,p<d.ps.n->QFO d E C K ac body rec l p){X:List (Prop×Ex×JSt)}(hX:∀ e J,YR d E C K ac body rec l (0,s) e J->∃ y∈X,y.1/\y.2.1=e/\y.2.2=J)(G:Ctx)(hrd:G.rd=none)(hG:G.n=416):
  Q1 (mkE prog QU) G (haX prog (Gp d E C K ac body (QD l) l 0) X) (Qk f103):=by
 refine Kk (body:=QJ f103 0) (QP Qd) hrd (by kernel_rfl) ?_
 have hEnv:∀ k:Nat×Unit,(mkE prog (Wz QO d l.length k.1)).Sound:=λk=>QP (Qd.add (Yg d l.length k.1));refine Jz (E0:=mkE prog QU) (E:=λk:Nat×Unit=>mkE prog (Wz QO d l.length k.1)) (H:=λk=>QDw prog QO d E C K ac body (QD l) l k.1 (QBW d E C K ac body rec l k.1 k.2)) (n0:=416) (s0:=(0,s)) (λ_=>rfl) hEnv (by omega) (λk _=>QWF hd hE hK hl hL k.1 k.2 (IH k.1) G hrd (by omega)) (λk _=>(by decide:416<=440)) ?_ (Qhn d E C K ac body rec l hd.n) (Nat.zero_le _) hX
 intro k e J hr;unfold YR at hr;split at hr<;>(rw[hr.2];exact(by decide:416<=440))
set_option maxHeartbeats 1000000 in
theorem QeX{d:Puz}{E:ECt}{C:Cap}{K:Rw Pt}(hd:KB d)(hE:WfE E)(hK:K.n<=1000){l:List Lay}(hk:l.length+(k+1)=d.ps.n)(hL:∀ y∈l,Q0 d y)(IH:∀ p,p<d.ps.n->QFO d E C K Xc Xd (onA (Qs K) d E WQ k) l p)(s:Unit):QQ prog 103 (uFC (WN d E C K Xc Xd l s (onA (Qs K) d E WQ (k+1) l s))):=by
 have hdn:=hd.n;have hr0:onA (Qs K) d E WQ (k+1) l s=Q4 (Xl (Qs K) d E (onA (Qs K) d E WQ k) l) (List.range d.ps.n) s:=rfl;rw[hr0];have hne:((l.length:Int)==(d.ps.n:Int))=false:=by rw[beq_eq_false_iff_ne];omega
 cases hc:Q4 (Xl (Qs K) d E (onA (Qs K) d E WQ k) l) (List.range d.ps.n) s with
 | go s'=>
  simp only[WN];have et:=QNJ d E C K (QD l) (QD l) l True False;refine K4 (E:=mkE prog QU) (QP Qd) func103 (by kernel_rfl) (by kernel_rfl) (QeW ..) (QTN hd hE hK (by omega) hL s IH (X:=[(True,.exit 0,HP d E C K Xc Xd (QD l) l),(False,.ret,haF d E C K Xc Xd (QD l) l)]) ?_) ⟨?_⟩
  .intro e J hr;unfold YR at hr;simp only[List.drop_zero,hc]at hr;exact⟨_,qmc,trivial,hr.1.symm,hr.2.symm⟩
  refine Qe et ?_;clear et;refine QE ?_ ?_<;>intro b0
  .exact Bool.noConfusion (hne.symm.trans b0)
  iterate 78 refine Q2 (by first|exact tv|with_reducible exact qRr|exact rfl) ?_
  refine Km ?_ ?_;refine Qh λa0=>?_;refine Qj λg0=>?_;refine⟨rfl,rfl,_,QU0 d E C K (QD l) (QD l) l,?_⟩
  rotate_left
  refine Qh λa1=>?_;refine Qj λg1=>?_
  .exact a1.elim
  all_goals (repeat' first|with_reducible refine QN ?_ ?_|exact tv|with_reducible exact qRr|exact rfl|refine aI ?_ ?_)
 | stop s'=>
  simp only[WN];have et:=QNJ d E C K (QD l) (QD l) l False True;refine K4 (E:=mkE prog QU) (QP Qd) func103 (by kernel_rfl) (by kernel_rfl) (QSF ..) (QTN hd hE hK (by omega) hL s IH (X:=[(False,.exit 0,HP d E C K Xc Xd (QD l) l),(True,.ret,haF d E C K Xc Xd (QD l) l)]) ?_) ⟨?_⟩
  .intro e J hr;unfold YR at hr;simp only[List.drop_zero,hc]at hr;exact⟨_,List.mem_cons_of_mem _ qmc,trivial,hr.1.symm,hr.2.symm⟩
  refine Qe et ?_;clear et;refine QE ?_ ?_<;>intro b0
  .exact Bool.noConfusion (hne.symm.trans b0)
  iterate 78 refine Q2 (by first|exact tv|with_reducible exact qRr|exact rfl) ?_
  refine Km ?_ ?_;refine Qh λa0=>?_;refine Qj λg0=>?_
  .exact a0.elim
  refine Qh λa1=>?_;refine Qj λg1=>?_;refine⟨rfl,rfl,_,Qht d E C K (QD l) (QD l) l,?_⟩
  rotate_left
  all_goals (repeat' first|with_reducible refine QN ?_ ?_|exact tv|with_reducible exact qRr|exact rfl|refine aI ?_ ?_)
theorem QYa{d:Puz}{E:ECt}{C:Cap}{K:Rw Pt}(s:Unit)(hk:l.length=d.ps.n):QQ prog 103 (uFC (WN d E C K Xc Xd l s (onA (Qs K) d E WQ 0 l s))):=Qho d E C K l hk
theorem QWo{d:Puz}{E:ECt}{C:Cap}{K:Rw Pt}(hd:KB d)(hE:WfE E)(hK:K.n<=1000)(k:Nat):∀(l:List Lay) (s:Unit),l.length+k=d.ps.n->(∀ y∈l,Q0 d y)->QQ prog 103 (uFC (WN d E C K Xc Xd l s (onA (Qs K) d E WQ k l s))):=by
 induction k with
 | zero=>exact λl s hk _=>QYa l s hk
 | succ k ih=>
  intro l s hk hL;refine QeX hd hE hK hk hL ?_ s;intro p hp t ht s;exact ih _ s (QEo l _ hk) (QEX hp ht hL)
def qE(U:UC):Tab:=QZ QU 103 (KI pb U)
def bdL(a:Nat):Nat×Blk:=(200,.cells 0 152 (Kb d++[.map 201,.slz a 0 0 (.of 0)]))
def hsU:UC:=⟨208,⟨2,[(0,.ptr 200 0 0),(1,(.slz 216 0 K.n C))],[bdL d 224,(201,.mp E.1 E.2),rwY 224 []]++Qo.blk 216 K++Qo.blk 0 d.ps,232⟩,λ_=>.bool false v,λm=>[bdL d m,(201,.mp E.1 E.2),rwY m []]⟩
abbrev wam:List Prop:=[0<=0,QB 2 0 (λi=>QA.enc ([].getD i (Lay.mk (0:Int) (0:Int)))) λi=>QA.enc ([].getD i (Lay.mk (0:Int) (0:Int)))]
abbrev wb4(E:ECt):List Prop:=[cO=cO,0=0,0=0,cO=cO,E.1=E.1,E.2=E.2]
abbrev QPP(E:ECt)(K:Rw Pt)(d:Puz)(u:Nat->Nat->Int):List Prop:=((wbN)++waa d++((((wb4 E)++wam++(wbo d++[QB 1 d.ps.n (λx x_1=>(0:Int)) u]))++wai++(([Array.mk [8]=Array.mk [8]]++wbz++(([0=0,0=0,0=0,K.n=K.n,C=C,0=0,0=0,0=0,0=0,0=0,K.n=K.n,C=C]++wb6++[false=false,Fn.func 103=Fn.func 103])++wbN++[0=0,K.n=K.n,C=C,0=0,0=0]))++waX K))++wad d))
abbrev QCy(d:Puz):List (Nat×Blk):=[(200,.cells 0 152 (List.append (waf d) ([.map 201,.slz 416 0 0 cO]))),(201,.mp E.1 E.2),(0,.frz (wae) d.ps.n λi=>QA.enc (d.ps.get i)),(416,.rowz true 49 [.int .i64,.int .i64] 0 λi=>QA.enc ([].getD i (Lay.mk (0:Int) (0:Int))))]
theorem Qec(v:Bool):VZ (mkE prog (qE pb (haU d E C K (QM f53 0).1 (QM f53 0).2 u []))) (hnd (mkE prog (qE pb (haU d E C K (QM f53 0).1 (QM f53 0).2 u []))) 8) f53 (hsU d E C K v) = .need (decide ((d.ps.n:Int)=(d.ps.n:Int))&&decide ((0:Int)<=(d.ps.n:Int)/\(d.ps.n:Int)<=17179869184)) (.need (pb ((QPP C E K d u))) (.leaf (.bool true false) ((QCy E d)))):=by kernel_rfl
theorem Qfc(v:Bool):VZ (mkE prog (qE pb (haV d E C K (QM f53 0).1 (QM f53 0).2 u []))) (hnd (mkE prog (qE pb (haV d E C K (QM f53 0).1 (QM f53 0).2 u []))) 8) f53 (hsU d E C K v) = .need (decide ((d.ps.n:Int)=(d.ps.n:Int))&&decide ((0:Int)<=(d.ps.n:Int)/\(d.ps.n:Int)<=17179869184)) (.need (pb ((QPP C E K d u))) (.leaf (.bool true true) ((QCy E d)))):=by kernel_rfl
abbrev QPx(d:Puz):List Prop:=((waD d++([0=0,d.ps.n=d.ps.n]++wb4 E))++wam)
theorem QfX :QF 232 [(.bool true false)] ((QCy E d)) (KX (hsU d E C K v))=(some (([false=v]++wbu d)++(QPx E d))):=by kernel_rfl
theorem QZS :QF 232 [(.bool true true)] ((QCy E d)) (KX (hsU d E C K v))=(some (([true=v]++wbu d)++(QPx E d))):=by kernel_rfl
theorem QOL:(hsU d E C K v).Ok:=by
 refine⟨(by decide:208<=232),rfl,rfl,?_,rfl,λ_ _=>rfl,λnid h=>?_⟩
 .intro q hq;simp only[UC.po,hsU,bdL,rwY,List.mem_cons,List.not_mem_nil,or_false]at hq;rcases hq with rfl|rfl|rfl<;>refine⟨rfl,rfl,rfl,?_⟩<;>first|exact λ_=>rfl|exact λh=>absurd (show 232<208 from h) (by decide)
 .have e0:=Kj 208 232 0 nid (by decide)
  simp only[UC.po,hsU,bdL,rwY,Kb,Qo.val,List.cons_append,List.nil_append,List.map_cons,List.map_nil,Blk.mapId,AV.mapId,AV.mapIdL,Nat.add_zero]at e0 ⊢;rw[e0];rfl
def hsV(A:Int->Lay->Bool):Bool := !(onA A d E WQ d.ps.n [] ()).isGo
theorem QGs{d:Puz}{E:ECt}{K:Rw Pt}(hd:KB d)(hE:WfE E)(hK:K.n<=1000):QQ prog 53 (uFC (hsU d E C K (hsV d E (Qs K)))):=by
 have hon:=QWo (C:=C) hd hE hK d.ps.n [] () (by simp) (λc hc=>by cases hc)
 have hdn:=hd.n;have hz:∀ k,QB 1 k (λ_ _=>0) (QD []):=λk i _=>⟨rfl,trivial⟩;cases he:onA (Qs K) d E WQ d.ps.n [] ()with
 | go s=>
  rw[he]at hon;have hv:hsV d E (Qs K)=false:=by unfold hsV;rw[he];rfl
  rw[hv];have hT:Qc (qE QO (haU d E C K Xc Xd (QD []) [])):=Qd.add hon;have et:=Qec QO d E C K (QD []) false;refine K4 (c:=Qk f53) (E:=mkE prog (qE QO (haU d E C K Xc Xd (QD []) []))) (QP hT) func53 (by kernel_rfl) (by kernel_rfl) (QOL ..) (λG h1 _=>Qw (QP hT) 8 G _ h1) ⟨?_⟩
  refine Qe et ?_;clear et
  iterate 2 (refine QG ?_ ?_;rotate_left)
  refine⟨rfl,rfl,_,QfX d E C K false,?_⟩
  rotate_left
  all_goals first|((with_reducible show _=true);(first|(refine Q9.2 ?_;repeat' first|with_reducible refine QN ?_ ?_|exact tv|with_reducible exact qRr|with_reducible exact hz _|exact rfl|refine aI ?_ ?_)|(simp;omega)))|(repeat' first|with_reducible refine QN ?_ ?_|exact tv|with_reducible exact qRr|exact rfl|refine aI ?_ ?_)
 | stop s=>
  rw[he]at hon;have hv:hsV d E (Qs K)=true:=by unfold hsV;rw[he];rfl
  rw[hv];have hT:Qc (qE QO (haV d E C K Xc Xd (QD []) [])):=Qd.add hon;have et:=Qfc QO d E C K (QD []) true;refine K4 (c:=Qk f53) (E:=mkE prog (qE QO (haV d E C K Xc Xd (QD []) []))) (QP hT) func53 (by kernel_rfl) (by kernel_rfl) (QOL ..) (λG h1 _=>Qw (QP hT) 8 G _ h1) ⟨?_⟩
  refine Qe et ?_;clear et
  iterate 2 (refine QG ?_ ?_;rotate_left)
  refine⟨rfl,rfl,_,QZS d E C K true,?_⟩
  rotate_left
  all_goals first|((with_reducible show _=true);(first|(refine Q9.2 ?_;repeat' first|with_reducible refine QN ?_ ?_|exact tv|with_reducible exact qRr|with_reducible exact hz _|exact rfl|refine aI ?_ ?_)|(simp;omega)))|(repeat' first|with_reducible refine QN ?_ ?_|exact tv|with_reducible exact qRr|exact rfl|refine aI ?_ ?_)
def XR(p:Int)(t:Nat):Rw Pt:=⟨1,λ_=>⟨c,⟨p,t⟩⟩⟩
def whB:List (Nat×Blk):=[bdL d 392,(201,.mp E.1 E.2),rwY 392 []]
def QOE(n:Nat)(p cells:Int)(c:Nat):List (Nat×AV):=[(1,.int false .i64 p),(4,.int false .i64 cells),(6,.ptr 200 0 0),(28,.int false .i64 n),(29,.int false .i64 c)]
def Yj(p cells:Int)(c:Nat):JSt:=⟨62,QOE d.ps.n p cells c,whB d E++Qo.blk 0 d.ps,400⟩
def HI(p cells:Int)(c:Nat)(tn:Int)(t:Nat):JSt:=⟨62,QOE d.ps.n p cells c++[(7,.int false .i64 c),(34,.int false .i64 tn),(35,.int false .i64 t)],whB d E++Qo.blk 0 d.ps,400⟩
def vy:JSt:=⟨62,[(4,.int false .i64 cells)],[],400⟩
def QSZ:Ex->List Nat
 | .normal=>[1,4,6,28,29]
 | .exit _=>[4]
 | .ret=>[]
def QPU:Ex->List Nat
 | .normal=>[1,4,6,28,29,7,34,35]
 | .exit _=>[1,4,6,28,29]
 | .ret=>[]
def QJ8:Tab:=QZ QU 53 (KI pb (hsU d E (.lit 1) K v))
abbrev QJH(cells:Int):Int:=(↑(BitVec.ofInt 64 cells ||| BitVec.ofInt 64 (i64.wrap ((1:Int)*2^min c 64))).toNat:Int)
abbrev QNn:Nat×Blk:=(0,.frz (wae) d.ps.n λi=>QA.enc (d.ps.get i))
abbrev QB6(d:Puz):List (Nat×Blk):=[(200,.cells 0 152 (List.append (waf d) ([.map 201,.slz 528 0 0 cO]))),(201,.mp E.1 E.2),(QNn d),(528,.rowz true 49 kB 0 λi=>QA.enc ([].getD i (Lay.mk (0:Int) (0:Int))))]
abbrev wb0(c:Nat)(d:Puz):List AV:=[.ptr 200 0 0,vi (d.ps.n:Int),vi (c:Int)]
abbrev QMl(cells:Int)(d:Puz)(p:Int)(t:Nat)(tn:Int):List AV:=(.nilp::.ptr 62 0 0::vi p::vi cells::List.append (wb0 c d) ([vi (c:Int),.int false .i64 tn,vi (i64.wrap ((t:Int)+1))]))
abbrev jj(d:Puz):List (Nat×Blk):=[(200,.cells 0 152 (List.append (waf d) ([.map 201,.slz 392 0 0 cO]))),(201,.mp E.1 E.2),(QNn d),(392,.rowz true 49 kB 0 λi=>QA.enc ([].getD i (Lay.mk (0:Int) (0:Int))))]
theorem QiL(p cells:Int)(c:Nat)(tn:Int)(t:Nat)(g0:Nat->Value):exec (mkE prog (QJ8 pb d E K v)) (hnd (mkE prog (QJ8 pb d E K v)) 0) (Qa (QJ f17 0)) (JSt.inst (HI d E p cells c tn t) g0) (KD [200,201] QPU) = .br (decide ((t:Int)<tn)) (.need (decide ((0:Int)<=(c:Int))) (.br (i64.wrap (↑(BitVec.ofInt 64 (cells.fdiv ((2:Int)^min c 64)) &&& BitVec.ofInt 64 (1:Int)).toNat:Int)==0) (.need (pb (([0=0,0=0,0=0,1=K.n,Cap.lit 1=Cap.lit 1]++waa d++(((wb4 E)++wam++[jw (wbI) [[vi (c:Int),vi p,vi (t:Int)]] K.n λi=>QA.enc (K.get i)])++wad d)))) (.br (v) (.need (decide ((0:Int)<=(c:Int))) (.leaf (.tup (.nilp::.ptr 62 0 0::vi p::vi (i64.wrap (QJH c cells))::List.append (wb0 c d) ([vi (c:Int),vi tn,vi (i64.wrap ((t:Int)+1))]))) ((QB6 E d)))) (.leaf (.tup (QMl c cells d p t tn)) ((QB6 E d))))) (.leaf (.tup (QMl c cells d p t tn)) ((jj E d))))) (.leaf (.tup (.ptr 3 0 0::.ptr 62 0 0::vi p::vi cells::wb0 c d)) ((jj E d))):=by kernel_rfl
abbrev QIf(d:Puz):List Prop:=(waa d++(((wb4 E)++wam)++wad d))
theorem QYw(p cells cells':Int)(c:Nat)(tn:Int)(t t':Nat):QF 112 (vi p::vi (i64.wrap (QJH c cells))::List.append (wb0 c d) ([vi (c:Int),vi tn,vi (i64.wrap ((t:Int)+1))])) ((QB6 E d)) (HI d E p cells' c tn t')=(some ([p=p,i64.wrap (QJH c cells)=cells',0=0,0=0,(d.ps.n:Int)=(d.ps.n:Int),(c:Int)=(c:Int),(c:Int)=(c:Int),tn=tn,i64.wrap ((t:Int)+1)=(t':Int)]++(QIf E d))):=by kernel_rfl
abbrev QNq(cells:Int)(d:Puz)(p:Int)(t:Nat)(tn:Int):List AV:=(vi p::vi cells::List.append (wb0 c d) ([vi (c:Int),vi tn,.int false .i64 (i64.wrap ((t:Int)+1))]))
abbrev QKS(cells:Int)(d:Puz)(p:Int)(t:Nat)(t':Nat)(tn:Int):List Prop:=([p=p,cells=cells,0=0,0=0,(d.ps.n:Int)=(d.ps.n:Int),(c:Int)=(c:Int),(c:Int)=(c:Int),tn=tn,i64.wrap ((t:Int)+1)=(t':Int)]++waa d++(((wb4 E)++wam)++wad d))
theorem Qgs(p cells:Int)(c:Nat)(tn:Int)(t t':Nat):QF 112 (QNq c cells d p t tn) ((QB6 E d)) (HI d E p cells c tn t')=(some (QKS E c cells d p t t' tn)):=by kernel_rfl
theorem QVb(p cells:Int)(c:Nat)(tn:Int)(t t':Nat):QF 112 (QNq c cells d p t tn) ((jj E d)) (HI d E p cells c tn t')=(some (QKS E c cells d p t t' tn)):=by kernel_rfl
theorem Qb8(p cells:Int)(c:Nat):QF 112 (vi p::vi cells::wb0 c d) ((jj E d)) (Yj d E p cells c)=(some ([p=p, cells=cells,0=0,0=0,(d.ps.n:Int)=(d.ps.n:Int),(c:Int)=(c:Int)]++(QIf E d))):=by kernel_rfl
def qm:Tab:=QZ QU 52 (KI pb (tnU d 0 p))
abbrev QER(P:Program)(pb:List Prop->Bool)(d:Puz)(E:ECt)(p cells:Int)(c:Nat)(X:List (Prop×Ex×JSt)):Hnd:={ hnd (mkE P (qm pb d p)) 0 with loop:=λ_=>KJ 112 [200,201] (HI d E p cells c (tnV d p) (0:Nat)) X }
theorem Qdj(p cells cells':Int)(c:Nat)(g0:Nat->Value):exec (mkE prog (qm pb d p)) (QER prog pb d E p cells c [(True,.exit 3,Yj d E p cells' c)]) (QJ f17 0) (JSt.inst (Yj d E p cells c) g0) (KD [200, 201] QSZ) = .br (decide ((c:Int)<(d.ps.n:Int))) (.need (pb (([0=0,0=0,p=p]++waa d++([cO=cO,0=0,0=0,cO=cO]++wad d)))) (.ak ([p=p,cells=cells,0=0,0=0,(d.ps.n:Int)=(d.ps.n:Int),(c:Int)=(c:Int),(c:Int)=(c:Int),tnV d p=tnV d p,(0:Int)=0]++waa d++(((wb4 E)++wam)++wad d)) (.asm (True) (.all (λ(g0:Nat->Value)=>.leaf (.tup [.nilp,.ptr 62 0 0,vi p,vi cells',.ptr 200 0 0,vi (d.ps.n:Int),vi (i64.wrap ((c:Int)+1))]) ((jj E d))))))) (.leaf (.tup [.ptr 1 0 0,.ptr 62 0 0,vi cells]) ((jj E d))):=by kernel_rfl
theorem QbL(p cells':Int)(c c':Nat):QF 112 [vi p,vi cells',.ptr 200 0 0,vi (d.ps.n:Int),vi (i64.wrap ((c:Int)+1))] ((jj E d)) (Yj d E p cells' c')=(some ([p=p,cells'=cells',0=0,0=0,(d.ps.n:Int)=(d.ps.n:Int),i64.wrap ((c:Int)+1)=(c':Int)]++(QIf E d))):=by kernel_rfl
abbrev waC(d:Puz):List AV:=(List.append (wbF d) ([vi d.pK.dK.hi,vi d.wide,vi d.high]))
theorem QiD:QF 112 [vi cells] ([((200:Nat),Blk.cells (0:Nat) (152:Nat) (List.append (waC d) ([AV.bool false d.turn,AV.slz (0:Nat) (0:Nat) d.ps.n cO,AV.map (201:Nat),AV.slz (392:Nat) (0:Nat) (0:Nat) cO]))),((201:Nat),Blk.mp E.1 E.2),((0:Nat),Blk.frz [CK.int i64,CK.int i64,CK.int i64,CK.int i64,CK.int i64,CK.int i64,CK.int i64,CK.int i64,CK.int i64,CK.int i64,CK.int i64,CK.int i64,CK.int i64,CK.int i64,CK.int i64,CK.int i64,CK.int i64,CK.int i64,CK.int i64,CK.int i64,CK.int i64,CK.int i64,CK.int i64,CK.int i64,CK.int i64,CK.int i64,CK.int i64,CK.int i64] d.ps.n λi=>QA.enc (d.ps.get i)),((392:Nat),Blk.rowz true (49:Nat) [CK.int i64,CK.int i64] (0:Nat) λi=>QA.enc ([].getD i (Lay.mk (0:Int) (0:Int))))]) (vy cells)=( some [cells=cells]):=by kernel_rfl
def HZ:Bool:=i64.wrap (((BitVec.ofInt 64 (cells.fdiv (2^min (c:Int).toNat 64)) &&& BitVec.ofInt 64 1).toNat:Nat):Int)==0
def QAb:Int:=i64.wrap (((BitVec.ofInt 64 cells ||| BitVec.ofInt 64 (i64.wrap (1*2^min (c:Int).toNat 64))).toNat:Nat):Int)
def VT(cells:Int)(t:Nat):Int:=cond (HZ cells c) (cond (hsV d E (Qs (XR c p t))) (QAb cells c) cells) cells
def ZE(p cells:Int)(c:Nat):Int:=(List.range (tnV d p).toNat).foldl (VT d E p c) cells
def Zw:Int:=(List.range d.ps.n).foldl (ZE d E p) 0
theorem QJS{σ:Type}{f:σ->Nat->σ}{n:Nat}(h:k<n)(s:σ):((List.range n).drop k).foldl f s=((List.range n).drop (k+1)).foldl f (f s k):=by
 have:(List.range n).drop k=k::(List.range n).drop (k+1):=by
  rw[List.drop_eq_getElem_cons (by simpa using h)]
  simp
 rw[this,List.foldl_cons]
theorem QGk{σ:Type}{f:σ->Nat->σ}{n:Nat}(h:n<=k)(s:σ):((List.range n).drop k).foldl f s=s:=by
 rw[List.drop_eq_nil_of_le (by simpa using h),List.foldl_nil]
theorem QfZ:((tnV d p).toNat:Int)=tnV d p/\(tnV d p).toNat<=4:=by
 rcases QMw d p with h|h<;>rw[h]<;>decide
def GL(k:Nat×Int)(e:Ex)(J:JSt):Prop:=e = .exit 3/\J=Yj d E p (((List.range (tnV d p).toNat).drop k.1).foldl (VT d E p c) k.2) c
def QBs(P:Program)(d:Puz)(E:ECt)(p:Int)(c:Nat)(k:Nat×Int):Env:=mkE P (QJ8 QO d E (XR c p k.1) (hsV d E (Qs (XR c p k.1))))
theorem Qa7(p:Int)(t:Nat):jw [.int .i64,.int .i64,.int .i64] [[.int false .i64 c,.int false .i64 p,.int false .i64 t]] (XR c p t).n λi=>QA.enc ((XR c p t).get i):=by
 refine⟨qlr 1,λi hi x hx r=>?_⟩;obtain rfl:i=0:=by have:i<1:=hi;omega
 simp only[List.getElem?_cons_zero,qsI]at hx;subst hx;rfl
theorem QU5:Jm (λk:Nat×Int=>HI d E p k.2 c (tnV d p) k.1) (λk=>k.1<=(tnV d p).toNat) (λk=>(tnV d p).toNat-k.1) (GL d E p c) 112 QPU [200,201] (QBs prog d E p c) (λk=>hnd (QBs prog d E p c k) 0) (Qa (QJ f17 0)):=by
 refine⟨λk g0 hk=>?_⟩;obtain⟨t,cells⟩:=k;have hk:t<=(tnV d p).toNat:=hk;obtain⟨ht1,ht4⟩:=QfZ d p;have wt:t<(tnV d p).toNat->i64.wrap ((t:Int)+1)=((t+1:Nat):Int):=λh=>(w64 (by omega) (by omega)).trans (by omega)
 have next:t<(tnV d p).toNat->∀{s2:Int},VT d E p c cells t=s2->∀ e J,GL d E p c (t+1,s2) e J->GL d E p c (t,cells) e J:=by
  intro h s2 he e J hr;unfold GL at hr ⊢;simp only at hr ⊢;rw[QJS h,he];exact hr
 have last:(tnV d p).toNat<=t->GL d E p c (t,cells) (.exit 3) (Yj d E p cells c):=by
  intro h;unfold GL;simp only[QGk h,and_self]
 have et:=QiL QO d E (XR c p t) (hsV d E (Qs (XR c p t))) p cells c (tnV d p) t g0;refine Qe et ?_;clear et;refine QE (λb0=>?_) (λb0=>?_);have h:t<(tnV d p).toNat:=by have:=qdt b0;omega
 have hw:=wt h;refine QG ?_ ?_;rotate_left;refine QE (λb1=>?_) (λb1=>?_);refine QG ?_ ?_;rotate_left;refine QE (λb2=>?_) (λb2=>?_);refine QG ?_ ?_;rotate_left;have ho:VT d E p c cells t=QAb cells c:=by unfold VT;rw[show HZ cells c=true from b1,b2];rfl
 refine⟨(t+1,QAb cells c),h,by show(tnV d p).toNat-(t+1)<(tnV d p).toNat-t;omega,next h ho,rfl,rfl,_,QYw d E p cells (QAb cells c) c (tnV d p) t (t+1),?_⟩
 rotate_left
 have ho:VT d E p c cells t=cells:=by unfold VT;rw[show HZ cells c=true from b1,b2];rfl
 refine⟨(t+1,cells),h,by show(tnV d p).toNat-(t+1)<(tnV d p).toNat-t;omega,next h ho,rfl,rfl,_,Qgs d E p cells c (tnV d p) t (t+1),?_⟩
 rotate_left
 have ho:VT d E p c cells t=cells:=by unfold VT;rw[show HZ cells c=false from b1];rfl
 refine⟨(t+1,cells),h,by show(tnV d p).toNat-(t+1)<(tnV d p).toNat-t;omega,next h ho,rfl,rfl,_,QVb d E p cells c (tnV d p) t (t+1),?_⟩
 rotate_left
 have h:(tnV d p).toNat<=t:=by have:=qdf b0;omega
 refine⟨_,last h,rfl,rfl,_,Qb8 d E p cells c,?_⟩
 rotate_left
 all_goals first|((with_reducible show _=true);(first|(simp;done)|(refine Q9.2 ?_;repeat' first|with_reducible refine QN ?_ ?_|exact tv|with_reducible exact qRr|exact Qa7 c p t|exact rfl|refine aI ?_ ?_)|(simp;omega)))|(repeat' first|with_reducible refine QN ?_ ?_|exact tv|with_reducible exact qRr|exact hw|exact rfl|refine aI ?_ ?_)
theorem Qbx{d:Puz}{E:ECt}(hd:KB d)(hE:WfE E)(p cells:Int)(c:Nat)(G:Ctx)(hrd:G.rd=none)(hG:G.n<=112):
  Q1 (mkE prog (qm QO d p)) G (QER prog QO d E p cells c [(True,.exit 3,Yj d E p (ZE d E p cells c) c)]) (QJ f17 0):=by
 have hT:Qc (qm QO d p):=Qd.add (Yg d 0 p);refine Kk (body:=Qa (QJ f17 0)) (QP hT) hrd (by kernel_rfl) ?_
 have hEnv:∀ k,(QBs prog d E p c k).Sound:=λk=>QP (Qd.add (QGs (.lit 1) hd hE (show(1:Nat)<=1000 by decide)))
 refine Jz (E0:=mkE prog (qm QO d p)) (E:=QBs prog d E p c) (H:=λk=>hnd (QBs prog d E p c k) 0) (n0:=112) (s0:=(0,cells)) (λ_=>rfl) hEnv hG (λk _=>Qw (hEnv k) 0 G _ hrd) (λk _=>(by decide:112<=400)) ?_ (QU5 d E p c) (Nat.zero_le _) ?_
 .rintro k e J ⟨_,rfl⟩;exact(by decide:112<=400)
 .rintro e J ⟨rfl,rfl⟩;exact⟨_,qmc,trivial,rfl,rfl⟩
def G3(k:Nat×Int)(e:Ex)(J:JSt):Prop:=e = .exit 1/\J=vy (((List.range d.ps.n).drop k.1).foldl (ZE d E p) k.2)
theorem QYz(hn:d.ps.n<=1000):Jm (λk:Nat×Int=>Yj d E p k.2 k.1) (λk=>k.1<=d.ps.n) (λk=>d.ps.n-k.1) (G3 d E p) 112 QSZ [200,201] (λ_=>mkE prog (qm QO d p)) (λk=>QER prog QO d E p k.2 k.1 [(True,.exit 3,Yj d E p (ZE d E p k.2 k.1) k.1)]) (QJ f17 0):=by
 refine⟨λk g0 hk=>?_⟩;obtain⟨c,cells⟩:=k;have hk:c<=d.ps.n:=hk;have wp:c<d.ps.n->i64.wrap ((c:Int)+1)=((c+1:Nat):Int):=λh=>VJ h hn
 have next:c<d.ps.n->∀ e J,G3 d E p (c+1,ZE d E p cells c) e J->G3 d E p (c,cells) e J:=by
  intro h e J hr;unfold G3 at hr ⊢;simp only at hr ⊢;rw[QJS h];exact hr
 have last:d.ps.n<=c->G3 d E p (c,cells) (.exit 1) (vy cells):=by
  intro h;unfold G3;simp only[QGk h,and_self]
 have et:=Qdj QO d E p cells (ZE d E p cells c) c g0;refine Qe et ?_;clear et;refine QE (λb0=>?_) (λb0=>?_);have h:c<d.ps.n:=by have:=qdt b0;omega
 have hw:=wp h;refine QG ?_ ?_;rotate_left
 iterate 29 refine Q2 (by first|exact tv|with_reducible exact qRr|exact rfl) ?_
 refine Qh λa0=>?_;refine Qj λg0=>?_;refine⟨(c+1,ZE d E p cells c),h,by show d.ps.n-(c+1)<d.ps.n-c;omega,next h,rfl,rfl,_,QbL d E p (ZE d E p cells c) c (c+1),?_⟩
 rotate_left
 have h:d.ps.n<=c:=by have:=qdf b0;omega
 refine⟨_,last h,rfl,rfl,_,QiD d E cells,?_⟩
 rotate_left
 all_goals first|((with_reducible show _=true);(first|(refine Q9.2 ?_;repeat' first|with_reducible refine QN ?_ ?_|exact tv|with_reducible exact qRr|exact rfl|refine aI ?_ ?_)|(simp;omega)))|(repeat' first|with_reducible refine QN ?_ ?_|exact tv|with_reducible exact qRr|exact hw|exact rfl|refine aI ?_ ?_)
