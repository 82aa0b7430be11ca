/- - -/
import Derived.Test.YtekbmehgcofnkaaGreatVze
set_option linter.all false
noncomputable section
open Go.Proofs.Tryz
open Go.IntKind (i64)
set_option maxRecDepth 100000
namespace Go.Proofs.YtekbmehgcofnkaaGreat
open Go.SX Go.SX.Told
variable {k:Nat}(pb:List Prop->Bool)(d:Puz)(E:ECt)(C:Cap)(cells p:Int)(c:Nat)(K:Rw Pt)(ac body:Code)(v:Bool)(u' u:Nat->Nat->Int)(l:List Lay)(rec:List Lay->Unit->Qi Unit)
def qk(n:Nat)(a:Int):Tab:=Qc QV 52 (KT pb (tnU d n a))
abbrev QD0(P:Program)(pb:List Prop->Bool)(d:Puz)(E:ECt)(C:Cap)(K:Rw Pt)(ac body:Code)(u:Nat->Nat->Int)(l:List Lay)(p:Nat)(X:List (Prop×Ex×JSt)):Hnd:={ hnd (mkE P (qk pb d l.length p)) 0 with loop:=λ_=>Ks (p<d.ps.n/\u p 0=0) (KF 416 WK (vM d E C K ac body u l p (tnV d p) (0:Nat)) X) }
abbrev QPu(p:Nat):List AV:=(.nilp::.ptr 101 0 0::List.append (waM) ([vi (d.ps.n:Int),vi (i64.wrap ((p:Int)+1))]))
abbrev Yy:Nat×Blk:=(200,.cells 0 152 (List.append (waf d) ([.map 201,.slz 424 0 l.length cO])))
abbrev Yc:Nat×Blk:=(368,.cells 0 114 [.slz 432 0 d.ps.n cO])
abbrev QAK:Nat×Blk:=(297,.lp LoopState.ready none (haT C K) (Array.mk [8]) ac body)
abbrev zH:Nat×Blk:=(256,.cellsR 0 90 [.ptr 200 0 0])
abbrev vB:Nat×Blk:=(264,.cellsR 0 96 [.slz 216 0 K.n C])
abbrev QGc:Nat×Blk:=(384,.cellsR 0 31 [.fn (Fn.func 103) (waM)])
abbrev vF:Nat×Blk:=(0,.frz (wae) d.ps.n λi=>QA.enc (d.ps.get i))
abbrev Yo:Nat×Blk:=(424,.rowz true 49 kB l.length λi=>QA.enc (l.getD i (Lay.mk (0:Int) (0:Int))))
abbrev zT:Nat×Blk:=(216,.frz (waJ) K.n λi=>QA.enc (K.get i))
theorem QVv(u u':Nat->Nat->Int)(l:List Lay)(p:Nat)(A B:Prop)(g0:Nat->Value):exec (mkE prog (qk pb d l.length p)) (QD0 prog pb d E C K ac body u l p [(A,.exit 2,QCw d E C K ac body u' l p),(B,.ret,haF d E C K ac body u' l)]) (QI f103 0) (JSt.inst (HM d E C K ac body u l p) g0) (Q5 WK QUm) = .br (decide ((p:Int)<(d.ps.n:Int))) (.need (decide ((0:Int)<=(p:Int)/\(p:Int)<(d.ps.n:Int))&&decide (d.ps.n<=d.ps.n)) (.need (decide (p<d.ps.n)) (.br (decide (u ((p:Int).toNat+0) 0=1)) (.leaf (.tup (QPu d p)) ([(Yy d l),(201,.mp E.1 E.2),(Yc d), (QAK C K ac body),(232,.cells 0 4 [.bool true false]),zH,(304,.cellsR 0 105 [.yld 297]),(vB C K),QGc,(vF d),(Yo l),(432,.rowz true 4 [CK.bool] d.ps.n u),(zT K)])) (.need (pb (([0=0,0=0,(p:Int)=(p:Int)]++waa d++((wcd l)++wad d)))) (.ak [p<d.ps.n/\u p 0=0] (.ak (rz 10) (.ak ((waH d p++[tnV d (p:Int)=tnV d (p:Int),(0:Int)=0])++waa d++(([cO=cO,0=0]++wb4 E l)++wag l++((wbo d++[QB 1 d.ps.n u u])++wai++([Array.mk [(8:Tmp)]=Array.mk [(8:Tmp)],ac=ac,body=body,0=0,0=0,0=0,K.n=K.n,C=C,0=0,0=0,0=0,0=0,0=0]++wbh C K++[0=0,0=0,0=0,0=0,false=false,Fn.func (103:FuncId)=Fn.func (103:FuncId)])))) (.ak (rz 11) (.ak (([K.n=K.n,C=C,0=0,0=0]++wa5 K)++wad d) (.both (.asm (A) (.all (λ(g0:Nat->Value)=>.leaf (.tup (QPu d p)) ([(Yy d l),(201,.mp E.1 E.2),(Yc d),(QAK C K ac body),(232,.cells 0 4 [.bool true false]),zH,(304,.cellsR 0 105 [.yld 297]),(vB C K),QGc,(vF d),(Yo l),(432,.rowz true 4 [CK.bool] d.ps.n u'),(zT K)])))) (.asm (B) (.all (λ(g1:Nat->Value)=>.leaf (.tup [.nili,.ptr 101 0 0, .bool false false]) (((Yy d l)::(201,.mp E.1 E.2)::(Yc d)::List.append (wa4 C K ac body) ([(Yo l),(432,.rowz true 4 [CK.bool] d.ps.n u')])))))))))))))))) (.leaf (.tup [.ptr 0 0 0,.ptr 101 0 0]) ([(Yy d l),(201,.mp E.1 E.2),(Yc d),(QAK C K ac body),(232,.cells 0 4 [.bool true false]),(vF d),(Yo l),(432,.rowz true 4 [CK.bool] d.ps.n u),(zT K), zH,(vB C K)])):=by kernel_rfl
abbrev QRD(p:Nat):List AV:=(List.append (waM) ([vi (d.ps.n:Int),vi (i64.wrap ((p:Int)+1))]))
abbrev Jl:List Prop:=[0=0,0=0,0=0,0=0]
abbrev zK(d:Puz)(l:List Lay):List Prop:=(([d.pK.aK=d.pK.aK]++waC d++([0=0,d.ps.n=d.ps.n,cO=cO,0=0]++wb4 E l))++wag l++[0=0,d.ps.n=d.ps.n,cO=cO])
abbrev QIc:List Prop:=(wai++[Array.mk [8]=Array.mk [(8:Tmp)],ac=ac])
abbrev WE:List Prop:=[0=0,0=0,0=0,K.n=K.n,C=C]
abbrev vV:List Prop:=([0=0]++wbh C K)
abbrev QUu(d:Puz):List Prop:=(([0=0,0=0]++wa5 K)++wad d)
theorem QU8(p p':Nat):QF 416 (QRD d p) ([(Yy d l),(201,.mp E.1 E.2),(Yc d),(QAK C K ac body),(232,.cells 0 4 [.bool true false]),zH,(304,.cellsR 0 105 [.yld 297]),(vB C K),QGc, (vF d),(Yo l),(432,.rowz true 4 [CK.bool] d.ps.n u),(zT K)]) (HM d E C K ac body u l p')=(some (Jl++Jl++([0=0,0=0]++wbq d p p')++(zK E d l)++[d.ps.n<=d.ps.n,QB 1 d.ps.n u u]++(QIc ac)++[body=body]++(WE C K)++Jl++(vV C K)++Jl++[false=false,Fn.func 103=Fn.func (103:FuncId)]++Jl++Jl++(WE C K)++(QUu K d))):=by kernel_rfl
theorem Qi0(p p':Nat):QF 416 (QRD d p) ([(Yy d l),(201,.mp E.1 E.2),(Yc d),(QAK C K ac body),(232,.cells 0 4 [.bool true false]),zH,(304,.cellsR 0 105 [.yld 297]),(vB C K),QGc, (vF d),(Yo l),(432,.rowz true 4 [CK.bool] d.ps.n u'),(zT K)]) (HM d E C K ac body u' l p')=(some (Jl++Jl++([0=0,0=0]++wbq d p p')++(zK E d l)++[d.ps.n<=d.ps.n,QB 1 d.ps.n u' u']++(QIc ac)++[body=body]++(WE C K)++Jl++(vV C K)++Jl++[false=false,Fn.func 103=Fn.func (103:FuncId)]++Jl++Jl++(WE C K)++(QUu K d))):=by kernel_rfl
theorem QaJ :QF 416 [.bool false false] (((Yy d l)::(201,.mp E.1 E.2)::(Yc d)::List.append (wa4 C K ac body) ([(Yo l),(432,.rowz true 4 [CK.bool] d.ps.n u')]))) (haF d E C K ac body u' l)=(some ([false=false,d.pK.length=d.pK.length]++(zK E d l)++[d.ps.n<=d.ps.n, QB 1 d.ps.n u' u',LoopState.done=LoopState.done,some Code.ret=some Code.ret,Array.mk [8]=Array.mk [(8:Tmp)],ac=ac,body=body]++(WE C K)++Jl++(vV C K)++Jl++[true=true])):=by kernel_rfl
theorem QSe :QF 416 [] ([(Yy d l),(201,.mp E.1 E.2),(Yc d),(QAK C K ac body),(232,.cells 0 4 [.bool true false]),(vF d),(Yo l),(432,.rowz true 4 [CK.bool] d.ps.n u),(zT K),zH,(vB C K)]) (QAh d E C K ac body u l)=(some ([d.pK.length=d.pK.length]++(zK E d l)++[d.ps.n<=d.ps.n,QB 1 d.ps.n u u]++(QIc ac)++[body=body] ++ (WE C K)++Jl++(vV C K)++Jl++[false=false])):=by kernel_rfl
abbrev haN(P : Program)(T : Tab): Hnd := { hnd (mkE P T) 2 with loop := λ_ _ _=>.fail "a loop" }
abbrev haX(P:Program)(J:JSt)(X:List (Prop×Ex×JSt)):Hnd:={ hnd (mkE P QV) 2 with loop:=λ_=>KF 416 WK J X }
abbrev QH1:Nat×Blk:=(297,.lp LoopState.done (some Code.ret) (haT C K) (Array.mk [8]) (QQ f53 0).1 (QQ f53 0).2)
abbrev QKs(E:ECt)(K:Rw Pt)(d:Puz)(l:List Lay)(u:Nat->Nat->Int):List (Nat×Blk):=[(200,.cells 0 152 (List.append (waf d) ([.map 201,.slz 400 0 l.length cO]))),(201,.mp E.1 E.2),(368,.cells 0 114 [.slz 408 0 d.ps.n cO]),(QH1 C K),(232,.cells 0 4 [.bool true true]),(vF d),(400,.rowz true 49 kB l.length λi=>QA.enc (l.getD i (Lay.mk (0:Int) (0:Int)))),(408,.rowz true 4 [CK.bool] d.ps.n u),(zT K),zH,(vB C K)]
theorem QeC :(Vv (mkE prog QV) (haN prog QV) f103 QKc (G4 d E C K (QQ f53 0).1 (QQ f53 0).2 u l).hp 416 λv h _=>Z4 WK v h) = .br
  ((l.length : Int) == (d.ps.n : Int)) (.leaf (.bool true false) ((QKs C E K d l u))) (.fail ("a loop")) := by kernel_rfl
abbrev wbG:List Prop:=[(QQ f53 0).1=(QQ f53 0).1,(QQ f53 0).2=(QQ f53 0).2]
theorem QSr(u u':Nat->Nat->Int)(l:List Lay)(A B:Prop):(Vv (mkE prog QV) (haX prog (HM d E C K (QQ f53 0).1 (QQ f53 0).2 u l 0) [(A,.exit 0,QAh d E C K (QQ f53 0).1 (QQ f53 0).2 u' l),(B,.ret,haF d E C K (QQ f53 0).1 (QQ f53 0).2 u' l)]) f103 QKc (G4 d E C K (QQ f53 0).1 (QQ f53 0).2 u l).hp 416 λv h _=>Z4 WK v h) = .br ((l.length:Int)==(d.ps.n:Int)) (.leaf (.bool true false) ((QKs C E K d l u))) (.ak (rz 10) (.ak ([(d.ps.n:Int)=(d.ps.n:Int),(0:Int)=0]++waa d++(([cO=cO,0=0]++wb4 E l)++wag l++((wbo d++[QB 1 d.ps.n u u])++wai++(([Array.mk [(8:Tmp)]=Array.mk [(8:Tmp)]]++wbG++[0=0,0=0,0=0,K.n=K.n,C=C,0=0,0=0,0=0,0=0,0=0])++wbh C K++[0=0,0=0,0=0,0=0,false=false,Fn.func (103:FuncId)=Fn.func (103:FuncId)])))) (.ak (rz 11) (.ak (([K.n=K.n,C=C,0=0,0=0]++wa5 K)++wad d) (.both (.asm (A) (.all (λ(g0:Nat->Value)=>.leaf (.bool true true) ([(Yy d l),(201,.mp E.1 E.2),(Yc d),(297,.lp LoopState.ready none (haT C K) (Array.mk [8]) (QQ f53 0).1 (QQ f53 0).2),(232,.cells 0 4 [.bool true false]),(Yo l),(432,.rowz true 4 [CK.bool] d.ps.n u')])))) (.asm (B) (.all (λ(g1:Nat->Value)=>.leaf (.bool false false) ([(Yy d l),(201,.mp E.1 E.2),(Yc d), (QH1 C K),(232,.cells 0 4 [.bool true true]),(Yo l),(432,.rowz true 4 [CK.bool] d.ps.n u')]))))))))):=by kernel_rfl
abbrev QOw:List Prop:=([LoopState.done=LoopState.done,some Code.ret=some Code.ret,Array.mk [8]=Array.mk [(8:Tmp)]]++wbG)
theorem QX1 :QF 416 [(.bool true false)] ((QKs C E K d l u)) (KX (haV d E C K (QQ f53 0).1 (QQ f53 0).2 u l))=(some ([false=false,d.pK.length=d.pK.length] ++ (zK E d l)++[d.ps.n<=d.ps.n,QB 1 d.ps.n u u]++QOw++(WE C K)++Jl++(vV C K)++Jl++[true=true])):=by kernel_rfl
theorem QhI(u u':Nat->Nat->Int)(l:List Lay):QF 416 [(.bool true true)] ([(Yy d l),(201,.mp E.1 E.2),(Yc d),(297,.lp LoopState.ready none (haT C K) (Array.mk [8]) (QQ f53 0).1 (QQ f53 0).2),(232, .cells 0 4 [.bool true false]),(Yo l),(432,.rowz true 4 [CK.bool] d.ps.n u')]) (KX (haU d E C K (QQ f53 0).1 (QQ f53 0).2 u l))=(some ([true=true, d.pK.length=d.pK.length]++(zK E d l)++([d.ps.n<=d.ps.n,QB 1 d.ps.n u' u]++wai++([Array.mk [8]=Array.mk [(8:Tmp)]]++wbG))++(WE C K)++Jl++(vV C K)++Jl++[false=false])):=by kernel_rfl
theorem Qk1(u u':Nat->Nat->Int)(l:List Lay):QF 416 [(.bool false false)] ([(Yy d l),(201,.mp E.1 E.2),(Yc d),(QH1 C K),(232,.cells 0 4 [.bool true true]),(Yo l),(432,.rowz true 4 [CK.bool] d.ps.n u')]) (KX (haV d E C K (QQ f53 0).1 (QQ f53 0).2 u l))=(some ([false=false,d.pK.length=d.pK.length]++(zK E d l)++[d.ps.n<=d.ps.n,QB 1 d.ps.n u' u]++QOw++(WE C K)++Jl++(vV C K)++Jl++[true=true])):=by kernel_rfl
def Wz(_:Unit):Qi Unit->UC
 | .go _=>haU d E C K ac body (QD l) l
 | .stop _=>haV d E C K ac body (QD l) l
open Classical in
def Wj(p t:Nat):List Prop->Bool:=if t<Qe d p then QK else λ_=>false
def zP(P:Program)(d:Puz)(E:ECt)(C:Cap)(K:Rw Pt)(ac body:Code)(rec:List Lay->Unit->Qi Unit)(l:List Lay)(p:Nat)(k:Nat×Unit):Env:=
 mkE P (QBh (Wj d p k.1) (Wj d p k.1) d E C K l ⟨p,k.1⟩ (KA d E l ⟨p,k.1⟩) (Wz d E C K ac body (l++[⟨p,k.1⟩]) k.2 (rec (l++[⟨p,k.1⟩]) k.2)))
def Z0(l:List Lay)(p:Nat)(k:Nat×Unit)(e:Ex)(J:JSt):Prop:=match KC (J9 (Qj K) d E rec l p) ((List.range (Qe d p)).drop k.1) k.2 with
 | .go _=>e = .exit 2/\J=QCw d E C K ac body (QD l) l p
 | .stop _=>e = .ret/\J=haF d E C K ac body (QD l) l
set_option maxHeartbeats 1000000 in
theorem Qba(l:List Lay)(p:Nat)(hp:p<d.ps.n)(hn:d.ps.n<=1000)(hK:K.n<=1000)(hl:l.length<=1000)(hu:Q6 l p=false):K6 (λk:Nat×Unit=>vM d E C K ac body (QD l) l p (tnV d p) k.1) (λk=>k.1<=Qe d p) (λk=>Qe d p-k.1) (Z0 d E C K ac body rec l p) 416 QJ4 WK (zP prog d E C K ac body rec l p) (λk=>hnd (zP prog d E C K ac body rec l p k) 0) (QW (QI f103 0)):=by
 refine⟨λk g0 hk=>?_⟩;obtain⟨t,s⟩:=k;have hk:t<=Qe d p:=hk;obtain⟨ht1,ht4⟩:=Yr d p;have hlen:(l++[(⟨p,t⟩:Lay)]).length=l.length+1:=by rw[List.length_append,List.length_singleton]
 have hw1:i64.wrap (((l++[(⟨p,t⟩:Lay)]).length:Int)-1)=l.length:=(w64 (by omega) (by omega)).trans (by omega)
 have hpop:(i64.wrap (((l++[(⟨p,t⟩:Lay)]).length:Int)-1)).toNat=l.length:=by rw[hw1];exact Int.toNat_natCast _
 have hle:l.length<=(l++[(⟨p,t⟩:Lay)]).length:=by omega
 have hpb:t<Qe d p->Wj d p t=QK:=λh=>by unfold Wj;rw[if_pos h]
 have wt:t<Qe d p->i64.wrap ((t:Int)+1)=((t+1:Nat):Int):=λh=>(w64 (by omega) (by omega)).trans (by omega)
 have step:=λh:t<Qe d p=>jF (f:=J9 (Qj K) d E rec l p) h s;unfold zP;simp only
 have next:t<Qe d p->∀{s2:Unit},J9 (Qj K) d E rec l p s t = .go s2->∀ e J,Z0 d E C K ac body rec l p (t+1,s2) e J->Z0 d E C K ac body rec l p (t,s) e J:=by
  intro h s2 he e J hr;unfold Z0 at hr ⊢;simp only at hr ⊢;rw[step h,he];exact hr
 have last:Qe d p<=t->Z0 d E C K ac body rec l p (t,s) (.exit 2) (QCw d E C K ac body (QD l) l p):=by
  intro h;unfold Z0;simp only[W9 h,and_self]
 cases hr:rec (l++[⟨p,t⟩]) s with
 | go s'=>
  simp only[Wz];have et:=Qea (Wj d p t) (Wj d p t) d E C K ac body (QD l) (QD (l++[⟨p,t⟩])) l (l++[⟨p,t⟩]) (KA d E l ⟨p,t⟩) p (tnV d p) t g0;refine Qh et ?_;clear et;refine QE (λb0=>?_) (λb0=>?_);have h:t<Qe d p:=by have:=qdt b0;omega
  rw[hpb h];have hw:=wt h;refine QG ?_ ?_;rotate_left;refine QE (λb1=>?_) (λb1=>?_);have hA:Qj K l.length ⟨p,t⟩=false:=by simpa using b1
  have ho:J9 (Qj K) d E rec l p s t = .go s:=by unfold J9;rw[hA];rfl
  refine⟨(t+1,s),h,by show Qe d p-(t+1)<Qe d p-t;omega,next h ho,rfl,rfl,_,QOZ d E C K ac body (QD l) l p (tnV d p) t (t+1),?_⟩
  rotate_left
  refine QG ?_ ?_;rotate_left;refine QE (λb2=>?_) (λb2=>?_);have hA:Qj K l.length ⟨p,t⟩=true:=by simpa using b1
  have hv:KA d E l ⟨p,t⟩=false:=by simpa using b2
  have ho:J9 (Qj K) d E rec l p s t = .go s:=by unfold J9 KP;rw[hA,hv];rfl
  refine⟨(t+1,s),h,by show Qe d p-(t+1)<Qe d p-t;omega,next h ho,rfl,rfl,_,QVM d E C K ac body (QD l) l p (tnV d p) t (t+1),?_⟩
  rotate_left
  iterate 7 (refine QG ?_ ?_;rotate_left)
  refine QE ?_ ?_<;>intro b3
  .cases b3
  have hA:Qj K l.length ⟨p,t⟩=true:=by simpa using b1
  have hv:KA d E l ⟨p,t⟩=true:=by simpa using b2
  have ho:J9 (Qj K) d E rec l p s t = .go s':=by unfold J9 KP;rw[hA,hv];exact hr
  have hb:=jB l d.ps.n p t hu;have hq:=jV l ⟨p,t⟩;have hnx:=next h ho
  clear next last step hr ho
  generalize QD (l++[⟨p,t⟩])=u2 at hb ⊢;generalize l++[⟨p,t⟩]=l2 at hpop hle hq ⊢;generalize hu1:QD l=u1 at hb ⊢;refine⟨(t+1,s'),h,by show Qe d p-(t+1)<Qe d p-t;omega,hnx,rfl,rfl,_,QiS d E C K ac body u1 u2 u1 l l2 p (tnV d p) t (t+1),?_⟩
  rotate_left
  have h:Qe d p<=t:=by have:=qdf b0;omega
  refine⟨_,last h,rfl,rfl,_,QMM d E C K ac body (QD l) l p,?_⟩
  rotate_left
  all_goals first|((with_reducible show _=true);(first|rfl|exact qde hK|(refine KG.2 ?_;repeat' first|with_reducible refine QM ?_ ?_|exact tv|with_reducible exact qRr|with_reducible exact hlen|with_reducible exact hlen.symm|with_reducible exact Nat.le_of_eq hlen|with_reducible exact Z8 l ⟨p,t⟩|with_reducible exact WP l _ p t|exact rfl|refine aI ?_ ?_)|(rw[hw1];simp)|(simp;omega)))|(repeat' first|with_reducible refine QM ?_ ?_|exact tv|with_reducible exact qRr|with_reducible exact hw|with_reducible exact hpop|with_reducible exact hle|with_reducible exact hq|with_reducible exact hb|exact rfl|refine aI ?_ ?_)
 | stop s'=>
  simp only[Wz];have et:=QWo (Wj d p t) (Wj d p t) d E C K ac body (QD l) (QD (l++[⟨p,t⟩])) l (l++[⟨p,t⟩]) (KA d E l ⟨p,t⟩) p (tnV d p) t g0;refine Qh et ?_;clear et;refine QE (λb0=>?_) (λb0=>?_);have h:t<Qe d p:=by have:=qdt b0;omega
  rw[hpb h];have hw:=wt h;refine QG ?_ ?_;rotate_left;refine QE (λb1=>?_) (λb1=>?_);have hA:Qj K l.length ⟨p,t⟩=false:=by simpa using b1
  have ho:J9 (Qj K) d E rec l p s t = .go s:=by unfold J9;rw[hA];rfl
  refine⟨(t+1,s),h,by show Qe d p-(t+1)<Qe d p-t;omega,next h ho,rfl,rfl,_,QOZ d E C K ac body (QD l) l p (tnV d p) t (t+1),?_⟩
  rotate_left
  refine QG ?_ ?_;rotate_left;refine QE (λb2=>?_) (λb2=>?_);have hA:Qj K l.length ⟨p,t⟩=true:=by simpa using b1
  have hv:KA d E l ⟨p,t⟩=false:=by simpa using b2
  have ho:J9 (Qj K) d E rec l p s t = .go s:=by unfold J9 KP;rw[hA,hv];rfl
  refine⟨(t+1,s),h,by show Qe d p-(t+1)<Qe d p-t;omega,next h ho,rfl,rfl,_,QVM d E C K ac body (QD l) l p (tnV d p) t (t+1),?_⟩
  rotate_left
  iterate 7 (refine QG ?_ ?_;rotate_left)
  refine QE (λb3=>?_) (λb3=>?_);have hA:Qj K l.length ⟨p,t⟩=true:=by simpa using b1
  have hv:KA d E l ⟨p,t⟩=true:=by simpa using b2
  have ho:J9 (Qj K) d E rec l p s t = .stop s':=by unfold J9 KP;rw[hA,hv];exact hr
  have hrel:Z0 d E C K ac body rec l p (t,s) .ret (haF d E C K ac body (QD l) l):=by
   unfold Z0;simp only[step h,ho,and_self]
  have hb:=jB l d.ps.n p t hu;have hq:=jV l ⟨p,t⟩;clear next last step hr ho
  generalize QD (l++[⟨p,t⟩])=u2 at hb ⊢;generalize l++[⟨p,t⟩]=l2 at hpop hle hq ⊢;generalize hu1:QD l=u1 at hb hrel ⊢;refine⟨_,hrel,rfl,rfl,_,QiK d E C K ac body u2 u1 l l2 p,?_⟩
  rotate_left
  .cases b3
  have h:Qe d p<=t:=by have:=qdf b0;omega
  refine⟨_,last h,rfl,rfl,_,QMM d E C K ac body (QD l) l p,?_⟩
  rotate_left
  all_goals first|((with_reducible show _=true);(first|rfl|exact qde hK|(refine KG.2 ?_;repeat' first|with_reducible refine QM ?_ ?_|exact tv|with_reducible exact qRr|with_reducible exact hlen|with_reducible exact hlen.symm|with_reducible exact Nat.le_of_eq hlen|with_reducible exact Z8 l ⟨p,t⟩|with_reducible exact WP l _ p t|exact rfl|refine aI ?_ ?_)|(rw[hw1];simp)|(simp;omega)))|(repeat' first|with_reducible refine QM ?_ ?_|exact tv|with_reducible exact qRr|with_reducible exact hw|with_reducible exact hpop|with_reducible exact hle|with_reducible exact hq|with_reducible exact hb|exact rfl|refine aI ?_ ?_)
def QF9(l:List Lay)(p:Nat):Prop:=∀ t,t<Qe d p->∀ s,QS prog 103 (uFC (Wz d E C K ac body (l++[⟨p,t⟩]) s (rec (l++[⟨p,t⟩]) s)))
theorem Qje{d:Puz}{E:ECt}{C:Cap}{K:Rw Pt}{ac body:Code}{rec:List Lay->Unit->Qi Unit}{l:List Lay}{p:Nat}(hd:Kb d)(hE:WfE E)(hK:K.n<=1000)(hl:l.length<=1000)(hL:∀ y∈l,KJ d y)(hp:p<d.ps.n)(IH:QF9 d E C K ac body rec l p)(k:Nat×Unit):(zP prog d E C K ac body rec l p k).Sound:=by
 unfold zP Wj
 by_cases h:k.1<Qe d p
 .rw[if_pos h];have h4:=(Yr d p).2;exact QP ((Qm.add (QFf d E l ⟨p,k.1⟩ hd hE hl hL ⟨⟨by show(0:Int)<=p;omega,by show(p:Int)<_;omega⟩,by show(0:Int)<=k.1;omega,by show(k.1:Int)<=3;omega⟩)).add (IH k.1 h k.2))
 .rw[if_neg h];exact QP ((Qm.add (Jx (by kernel_rfl) _)).add (Jx (by kernel_rfl) _))
def QCo(l:List Lay)(p:Nat)(s:Unit):List (Prop×Ex×JSt):=
 [((inA (Qj K) d E rec l p s).isGo=true,.exit 2,QCw d E C K ac body (QD l) l p),((inA (Qj K) d E rec l p s).isGo=false,.ret,haF d E C K ac body (QD l) l)]
theorem QgJ{d:Puz}{E:ECt}{C:Cap}{K:Rw Pt}{ac body:Code}{rec:List Lay->Unit->Qi Unit}{l:List Lay}(hd:Kb d)(hE:WfE E)(hK:K.n<=1000)(hl:l.length<=1000)(hL:∀ y∈l,KJ d y)(p:Nat)(s:Unit)(IH:p<d.ps.n->QF9 d E C K ac body rec l p)(G:Ctx)(hrd:G.rd=none)(hG:G.n<=416):
  Q0 (mkE prog (qk QK d l.length p)) G (QD0 prog QK d E C K ac body (QD l) l p (QCo d E C K ac body rec l p s)) (QI f103 0):=by
 have hT:Qf (qk QK d l.length p):=Qm.add (Yf d l.length p);refine KO (body:=QW (QI f103 0)) (QP hT) hrd (by kernel_rfl) ?_
 refine JJ λhp=>?_;have hu:=QE7 hp.2;have hEnv:=Qje (ac:=ac) (body:=body) hd hE hK hl hL hp.1 (IH hp.1);refine JG (E0:=mkE prog (qk QK d l.length p)) (E:=zP prog d E C K ac body rec l p) (H:=λk=>hnd (zP prog d E C K ac body rec l p k) 0) (n0:=416) (s0:=(0,s)) (λ_=>rfl) hEnv hG (λk _=>Qz (hEnv k) 0 G _ hrd) (λk _=>(by decide:416<=440)) ?_ (Qba d E C K ac body rec l p hp.1 hd.n hK hl hu) (Nat.zero_le _) ?_
 .intro k e J hr;unfold Z0 at hr;split at hr<;>(rw[hr.2];exact(by decide:416<=440))
 .intro e J hr;unfold Z0 at hr;simp only[List.drop_zero]at hr;have hi:inA (Qj K) d E rec l p s=KC (J9 (Qj K) d E rec l p) (List.range (Qe d p)) s:=rfl;unfold QCo;rw[hi];cases hc:KC (J9 (Qj K) d E rec l p) (List.range (Qe d p)) s with
  | go s'=>
   rw[hc]at hr;exact⟨_,qmc,rfl,hr.1.symm,hr.2.symm⟩
  | stop s'=>
   rw[hc]at hr;exact⟨_,List.mem_cons_of_mem _ qmc,rfl,hr.1.symm,hr.2.symm⟩
def YS(l:List Lay)(k:Nat×Unit)(e:Ex)(J:JSt):Prop:=match KC (X6 (Qj K) d E rec l) ((List.range d.ps.n).drop k.1) k.2 with
 | .go s'=>e = .exit 0/\J=QAh d E C K ac body (QD l) l
 | .stop s'=>e = .ret/\J=haF d E C K ac body (QD l) l
set_option maxHeartbeats 1000000 in
theorem QcX(l:List Lay)(hn:d.ps.n<=1000):K6 (λk:Nat×Unit=>HM d E C K ac body (QD l) l k.1) (λk=>k.1<=d.ps.n) (λk=>d.ps.n-k.1) (YS d E C K ac body rec l) 416 QUm WK (λk=>mkE prog (qk QK d l.length k.1)) (λk=>QD0 prog QK d E C K ac body (QD l) l k.1 (QCo d E C K ac body rec l k.1 k.2)) (QI f103 0):=by
 refine⟨λk g0 hk=>?_⟩;obtain⟨p,s⟩:=k;have hk:p<=d.ps.n:=hk;have wp:p<d.ps.n->i64.wrap ((p:Int)+1)=((p+1:Nat):Int):=λh=>Vo h hn;have step:=λh:p<d.ps.n=>jF (f:=X6 (Qj K) d E rec l) h s
 have next:p<d.ps.n->∀{s2:Unit},X6 (Qj K) d E rec l s p = .go s2->∀ e J,YS d E C K ac body rec l (p+1,s2) e J->YS d E C K ac body rec l (p,s) e J:=by
  intro h s2 he e J hr;unfold YS at hr ⊢;simp only at hr ⊢;rw[step h,he];exact hr
 have stop:p<d.ps.n->∀{s2:Unit},X6 (Qj K) d E rec l s p = .stop s2->YS d E C K ac body rec l (p,s) .ret (haF d E C K ac body (QD l) l):=by
  intro h s2 he;unfold YS;simp only[step h,he,and_self]
 have last:d.ps.n<=p->YS d E C K ac body rec l (p,s) (.exit 0) (QAh d E C K ac body (QD l) l):=by
  intro h;unfold YS;simp only[W9 h,and_self]
 have hpz:Q6 l p=false->X6 (Qj K) d E rec l s p=inA (Qj K) d E rec l p s:=λh=>by unfold X6;rw[h];rfl
 have hpu:Q6 l p=true->X6 (Qj K) d E rec l s p = .go s:=λh=>by unfold X6;rw[h];rfl
 unfold QCo;simp only;cases hr:inA (Qj K) d E rec l p s with
 | go s'=>
  simp only[Qi.isGo,Qi.s,Bool.true_eq_false,Bool.false_eq_true];have et:=QVv QK d E C K ac body (QD l) (QD l) l p True False g0;refine Qh et ?_;clear et;refine QE (λb0=>?_) (λb0=>?_);have h:p<d.ps.n:=by have:=qdt b0;omega
  have hw:=wp h
  iterate 2 (refine QG ?_ ?_;rotate_left)
  refine QE (λb1=>?_) (λb1=>?_);have hub:Q6 l p=true:=XD.symm.trans b1;refine⟨(p+1,s),h,by show d.ps.n-(p+1)<d.ps.n-p;omega,next h (hpu hub),rfl,rfl,_,QU8 d E C K ac body (QD l) l p (p+1),?_⟩
  rotate_left
  have hub:Q6 l p=false:=XD.symm.trans b1;have hu0:QD l p 0=0:=by unfold QD;rw[hub];rfl
  refine QG ?_ ?_;rotate_left
  iterate 82 refine Qt (by first|exact tv|exact⟨h,hu0⟩|with_reducible exact qRr|exact rfl) ?_
  refine Kq ?_ ?_;refine Qk λa0=>?_;refine Ql λg0=>?_;refine⟨(p+1,s'),h,by show d.ps.n-(p+1)<d.ps.n-p;omega,next h ((hpz hub).trans hr),rfl,rfl,_,Qi0 d E C K ac body (QD l) l p (p+1),?_⟩
  rotate_left
  refine Qk λa1=>?_;refine Ql λg1=>?_
  .exact a1.elim
  have h:d.ps.n<=p:=by have:=qdf b0;omega
  refine⟨_,last h,rfl,rfl,_,QSe d E C K ac body (QD l) l,?_⟩
  rotate_left
  all_goals first|((with_reducible show _=true);(first|(refine KG.2 ?_;repeat' first|exact tv|with_reducible exact qRr|exact rfl|refine aI ?_ ?_)|(simp;omega)))|(repeat' first|with_reducible refine QM ?_ ?_|exact tv|with_reducible exact qRr|with_reducible exact hw|exact rfl|refine aI ?_ ?_)
 | stop s'=>
  simp only[Qi.isGo,Qi.s,Bool.true_eq_false,Bool.false_eq_true];have et:=QVv QK d E C K ac body (QD l) (QD l) l p False True g0;refine Qh et ?_;clear et;refine QE (λb0=>?_) (λb0=>?_);have h:p<d.ps.n:=by have:=qdt b0;omega
  have hw:=wp h
  iterate 2 (refine QG ?_ ?_;rotate_left)
  refine QE (λb1=>?_) (λb1=>?_);have hub:Q6 l p=true:=XD.symm.trans b1;refine⟨(p+1,s),h,by show d.ps.n-(p+1)<d.ps.n-p;omega,next h (hpu hub),rfl,rfl,_,QU8 d E C K ac body (QD l) l p (p+1),?_⟩
  rotate_left
  have hub:Q6 l p=false:=XD.symm.trans b1;have hu0:QD l p 0=0:=by unfold QD;rw[hub];rfl
  refine QG ?_ ?_;rotate_left
  iterate 82 refine Qt (by first|exact tv|exact⟨h,hu0⟩|with_reducible exact qRr|exact rfl) ?_
  refine Kq ?_ ?_;refine Qk λa0=>?_;refine Ql λg0=>?_
  .exact a0.elim
  refine Qk λa1=>?_;refine Ql λg1=>?_;refine⟨_,stop h ((hpz hub).trans hr),rfl,rfl,_,QaJ d E C K ac body (QD l) l,?_⟩
  rotate_left
  have h:d.ps.n<=p:=by have:=qdf b0;omega
  refine⟨_,last h,rfl,rfl,_,QSe d E C K ac body (QD l) l,?_⟩
  rotate_left
  all_goals first|((with_reducible show _=true);(first|(refine KG.2 ?_;repeat' first|exact tv|with_reducible exact qRr|exact rfl|refine aI ?_ ?_)|(simp;omega)))|(repeat' first|with_reducible refine QM ?_ ?_|exact tv|with_reducible exact qRr|with_reducible exact hw|exact rfl|refine aI ?_ ?_)
abbrev Xt:Code:=(QQ f53 0).1
abbrev X8:Code:=(QQ f53 0).2
theorem QcC  :(haU d E C K ac body u l).Ok:=by
 refine⟨(by decide:392<=416),rfl,rfl,?_,rfl,λ_ _=>rfl,λnid h=>?_⟩
 .intro q hq;simp only[UC.po,haU,haW,rwY,rwU,List.mem_cons,List.not_mem_nil,or_false]at hq;rcases hq with rfl|rfl|rfl|rfl|rfl|rfl|rfl|rfl|rfl|rfl|rfl<;>refine⟨rfl,rfl,rfl,?_⟩<;>first|exact λ_=>rfl|exact λh=>absurd (show 416<392 from h) (by decide)|exact λh=>absurd (show 417<392 from h) (by decide)|exact λh=>absurd (show 418<392 from h) (by decide)|exact λh=>absurd (show 419<392 from h) (by decide)
 .have e0:=Km 392 416 0 nid (by decide)
  have e1:=Km 392 416 1 nid (by decide)
  simp only[UC.po,haU,haW,rwY,rwU,G4,haT,KZ,Qg.val,List.cons_append,List.nil_append,List.map_cons,List.map_nil,Blk.mapId,AV.mapId,AV.mapIdL,Nat.add_zero]at e0 e1 ⊢;rw[e0,e1];rfl
theorem QPh  :(haV d E C K ac body u l).Ok:=by
 refine⟨(by decide:392<=416),rfl,rfl,?_,rfl,λ_ _=>rfl,λnid h=>?_⟩
 .intro q hq;simp only[UC.po,haV,haW,rwY,rwU,List.mem_cons,List.not_mem_nil,or_false]at hq;rcases hq with rfl|rfl|rfl|rfl|rfl|rfl|rfl|rfl|rfl|rfl|rfl<;>refine⟨rfl,rfl,rfl,?_⟩<;>first|exact λ_=>rfl|exact λh=>absurd (show 416<392 from h) (by decide)|exact λh=>absurd (show 417<392 from h) (by decide)|exact λh=>absurd (show 418<392 from h) (by decide)|exact λh=>absurd (show 419<392 from h) (by decide)
 .have e0:=Km 392 416 0 nid (by decide)
  have e1:=Km 392 416 1 nid (by decide)
  simp only[UC.po,haV,haW,rwY,rwU,G4,haT,KZ,Qg.val,List.cons_append,List.nil_append,List.map_cons,List.map_nil,Blk.mapId,AV.mapId,AV.mapIdL,Nat.add_zero]at e0 e1 ⊢;rw[e0,e1];rfl
theorem Qh6(T:Tab)(hT:Qf T)(G:Ctx)(hrd:G.rd=none):Q0 (mkE prog T) G (haN prog T) (Qn f103):=
 KO (body:=QI f103 0) (QP hT) hrd (by kernel_rfl) (λ_ _ _ _ _ _ _ h _ _=>h.elim)
set_option maxHeartbeats 1000000 in
theorem QcZ(hn:l.length=d.ps.n):QS prog 103 (uFC (haV d E C K Xt X8 (QD l) l)):=by
 have et:=QeC d E C K (QD l) l;have hlen:((l.length:Int)==(d.ps.n:Int))=true:=by rw[hn];simp
 refine K0 (E:=mkE prog QV) (QP Qm) func103 (by kernel_rfl) (by kernel_rfl) (QPh ..) (λG hG _=>Qh6 _ Qm G hG) ⟨?_⟩
 refine Qh et ?_;clear et;refine QE (λb0=>?_) (λb0=>?_);refine⟨rfl,rfl,_,QX1 d E C K (QD l) l,?_⟩
 rotate_left
 .exact Bool.noConfusion (hlen.symm.trans b0)
 all_goals (repeat' first|with_reducible refine QM ?_ ?_|exact tv|with_reducible exact qRr|exact rfl|refine aI ?_ ?_)
theorem QTU{d:Puz}{E:ECt}{C:Cap}{K:Rw Pt}{ac body:Code}{rec:List Lay->Unit->Qi Unit}{l:List Lay}(hd:Kb d)(hE:WfE E)(hK:K.n<=1000)(hl:l.length<=1000)(hL:∀ y∈l,KJ d y)(s:Unit)(IH:∀ p,p<d.ps.n->QF9 d E C K ac body rec l p){X:List (Prop×Ex×JSt)}(hX:∀ e J,YS d E C K ac body rec l (0,s) e J->∃ y∈X,y.1/\y.2.1=e/\y.2.2=J)(G:Ctx)(hrd:G.rd=none)(hG:G.n=416):
  Q0 (mkE prog QV) G (haX prog (HM d E C K ac body (QD l) l 0) X) (Qn f103):=by
 refine KO (body:=QI f103 0) (QP Qm) hrd (by kernel_rfl) ?_
 have hEnv:∀ k:Nat×Unit,(mkE prog (qk QK d l.length k.1)).Sound:=λk=>QP (Qm.add (Yf d l.length k.1));refine JG (E0:=mkE prog QV) (E:=λk:Nat×Unit=>mkE prog (qk QK d l.length k.1)) (H:=λk=>QD0 prog QK d E C K ac body (QD l) l k.1 (QCo d E C K ac body rec l k.1 k.2)) (n0:=416) (s0:=(0,s)) (λ_=>rfl) hEnv (by omega) (λk _=>QgJ hd hE hK hl hL k.1 k.2 (IH k.1) G hrd (by omega)) (λk _=>(by decide:416<=440)) ?_ (QcX d E C K ac body rec l hd.n) (Nat.zero_le _) hX
 intro k e J hr;unfold YS at hr;split at hr<;>(rw[hr.2];exact(by decide:416<=440))
set_option maxHeartbeats 1000000 in
theorem Qf3{d:Puz}{E:ECt}{C:Cap}{K:Rw Pt}(hd:Kb d)(hE:WfE E)(hK:K.n<=1000){l:List Lay}(hk:l.length+(k+1)=d.ps.n)(hL:∀ y∈l,KJ d y)(IH:∀ p,p<d.ps.n->QF9 d E C K Xt X8 (onA (Qj K) d E WA k) l p)(s:Unit):QS prog 103 (uFC (Wz d E C K Xt X8 l s (onA (Qj K) d E WA (k+1) l s))):=by
 have hdn:=hd.n;have hr0:onA (Qj K) d E WA (k+1) l s=KC (X6 (Qj K) d E (onA (Qj K) d E WA k) l) (List.range d.ps.n) s:=rfl;rw[hr0];have hne:((l.length:Int)==(d.ps.n:Int))=false:=by rw[beq_eq_false_iff_ne];omega
 cases hc:KC (X6 (Qj K) d E (onA (Qj K) d E WA k) l) (List.range d.ps.n) s with
 | go s'=>
  simp only[Wz];have et:=QSr d E C K (QD l) (QD l) l True False;refine K0 (E:=mkE prog QV) (QP Qm) func103 (by kernel_rfl) (by kernel_rfl) (QcC ..) (QTU hd hE hK (by omega) hL s IH (X:=[(True,.exit 0,QAh d E C K Xt X8 (QD l) l),(False,.ret,haF d E C K Xt X8 (QD l) l)]) ?_) ⟨?_⟩
  .intro e J hr;unfold YS at hr;simp only[List.drop_zero,hc]at hr;exact⟨_,qmc,trivial,hr.1.symm,hr.2.symm⟩
  refine Qh et ?_;clear et;refine QE ?_ ?_<;>intro b0
  .exact Bool.noConfusion (hne.symm.trans b0)
  iterate 78 refine Qt (by first|exact tv|with_reducible exact qRr|exact rfl) ?_
  refine Kq ?_ ?_;refine Qk λa0=>?_;refine Ql λg0=>?_;refine⟨rfl,rfl,_,QhI d E C K (QD l) (QD l) l,?_⟩
  rotate_left
  refine Qk λa1=>?_;refine Ql λg1=>?_
  .exact a1.elim
  all_goals (repeat' first|with_reducible refine QM ?_ ?_|exact tv|with_reducible exact qRr|exact rfl|refine aI ?_ ?_)
 | stop s'=>
  simp only[Wz];have et:=QSr d E C K (QD l) (QD l) l False True;refine K0 (E:=mkE prog QV) (QP Qm) func103 (by kernel_rfl) (by kernel_rfl) (QPh ..) (QTU hd hE hK (by omega) hL s IH (X:=[(False,.exit 0,QAh d E C K Xt X8 (QD l) l),(True,.ret,haF d E C K Xt X8 (QD l) l)]) ?_) ⟨?_⟩
  .intro e J hr;unfold YS at hr;simp only[List.drop_zero,hc]at hr;exact⟨_,List.mem_cons_of_mem _ qmc,trivial,hr.1.symm,hr.2.symm⟩
  refine Qh et ?_;clear et;refine QE ?_ ?_<;>intro b0
  .exact Bool.noConfusion (hne.symm.trans b0)
  iterate 78 refine Qt (by first|exact tv|with_reducible exact qRr|exact rfl) ?_
  refine Kq ?_ ?_;refine Qk λa0=>?_;refine Ql λg0=>?_
  .exact a0.elim
  refine Qk λa1=>?_;refine Ql λg1=>?_;refine⟨rfl,rfl,_,Qk1 d E C K (QD l) (QD l) l,?_⟩
  rotate_left
  all_goals (repeat' first|with_reducible refine QM ?_ ?_|exact tv|with_reducible exact qRr|exact rfl|refine aI ?_ ?_)
theorem QaA{d:Puz}{E:ECt}{C:Cap}{K:Rw Pt}(s:Unit)(hk:l.length=d.ps.n):QS prog 103 (uFC (Wz d E C K Xt X8 l s (onA (Qj K) d E WA 0 l s))):=QcZ d E C K l hk
theorem Qe1{d:Puz}{E:ECt}{C:Cap}{K:Rw Pt}(hd:Kb d)(hE:WfE E)(hK:K.n<=1000)(k:Nat):∀(l:List Lay) (s:Unit),l.length+k=d.ps.n->(∀ y∈l,KJ d y)->QS prog 103 (uFC (Wz d E C K Xt X8 l s (onA (Qj K) d E WA k l s))):=by
 induction k with
 | zero=>exact λl s hk _=>QaA l s hk
 | succ k ih=>
  intro l s hk hL;refine Qf3 hd hE hK hk hL ?_ s;intro p hp t ht s;exact ih _ s (QC6 l _ hk) (QEa hp ht hL)
def jm(U:UC):Tab:=Qc QV 103 (KT pb U)
def bdL(a:Nat):Nat×Blk:=(200,.cells 0 152 (KZ d++[.map 201,.slz a 0 0 (.of 0)]))
def hsU:UC:=⟨208,⟨2,[(0,.ptr 200 0 0),(1,(.slz 216 0 K.n C))],[bdL d 224,(201,.mp E.1 E.2),rwY 224 []]++Qg.blk 216 K++Qg.blk 0 d.ps,232⟩,λ_=>.bool false v,λm=>[bdL d m,(201,.mp E.1 E.2),rwY m []]⟩
abbrev wam:List Prop:=[0<=0,QB 2 0 (λi=>QA.enc ([].getD i (Lay.mk (0:Int) (0:Int)))) λi=>QA.enc ([].getD i (Lay.mk (0:Int) (0:Int)))]
abbrev wce(E:ECt):List Prop:=[cO=cO,0=0,0=0,cO=cO,E.1=E.1,E.2=E.2]
abbrev QOS(E:ECt)(K:Rw Pt)(d:Puz)(u:Nat->Nat->Int):List Prop:=((wbN)++waa d++((((wce E)++wam++(wbo d++[QB 1 d.ps.n (λx x_1=>(0:Int)) u]))++wai++(([Array.mk [8]=Array.mk [8]]++wbG++(([0=0,0=0,0=0,K.n=K.n,C=C,0=0,0=0,0=0,0=0,0=0,K.n=K.n,C=C]++wcg++[false=false,Fn.func 103=Fn.func 103])++wbN++[0=0,K.n=K.n,C=C,0=0,0=0]))++wa5 K))++wad d))
abbrev QEt(d:Puz):List (Nat×Blk):=[(200,.cells 0 152 (List.append (waf d) ([.map 201,.slz 416 0 0 cO]))),(201,.mp E.1 E.2),(0,.frz (wae) d.ps.n λi=>QA.enc (d.ps.get i)),(416,.rowz true 49 [.int .i64,.int .i64] 0 λi=>QA.enc ([].getD i (Lay.mk (0:Int) (0:Int))))]
theorem QeW(v:Bool):VK (mkE prog (jm pb (haU d E C K (QQ f53 0).1 (QQ f53 0).2 u []))) (hnd (mkE prog (jm pb (haU d E C K (QQ f53 0).1 (QQ f53 0).2 u []))) 8) f53 (hsU d E C K v) = .need (decide ((d.ps.n:Int)=(d.ps.n:Int))&&decide ((0:Int)<=(d.ps.n:Int)/\(d.ps.n:Int)<=17179869184)) (.need (pb ((QOS C E K d u))) (.leaf (.bool true false) ((QEt E d)))):=by kernel_rfl
theorem QhC(v:Bool):VK (mkE prog (jm pb (haV d E C K (QQ f53 0).1 (QQ f53 0).2 u []))) (hnd (mkE prog (jm pb (haV d E C K (QQ f53 0).1 (QQ f53 0).2 u []))) 8) f53 (hsU d E C K v) = .need (decide ((d.ps.n:Int)=(d.ps.n:Int))&&decide ((0:Int)<=(d.ps.n:Int)/\(d.ps.n:Int)<=17179869184)) (.need (pb ((QOS C E K d u))) (.leaf (.bool true true) ((QEt E d)))):=by kernel_rfl
abbrev QUi(d:Puz):List Prop:=((waC d++([0=0,d.ps.n=d.ps.n]++wce E))++wam)
theorem Qge :QF 232 [(.bool true false)] ((QEt E d)) (KX (hsU d E C K v))=(some (([false=v]++waK d)++(QUi E d))):=by kernel_rfl
theorem Qbd :QF 232 [(.bool true true)] ((QEt E d)) (KX (hsU d E C K v))=(some (([true=v]++waK d)++(QUi E d))):=by kernel_rfl
theorem QVr:(hsU d E C K v).Ok:=by
 refine⟨(by decide:208<=232),rfl,rfl,?_,rfl,λ_ _=>rfl,λnid h=>?_⟩
 .intro q hq;simp only[UC.po,hsU,bdL,rwY,List.mem_cons,List.not_mem_nil,or_false]at hq;rcases hq with rfl|rfl|rfl<;>refine⟨rfl,rfl,rfl,?_⟩<;>first|exact λ_=>rfl|exact λh=>absurd (show 232<208 from h) (by decide)
 .have e0:=Km 208 232 0 nid (by decide)
  simp only[UC.po,hsU,bdL,rwY,KZ,Qg.val,List.cons_append,List.nil_append,List.map_cons,List.map_nil,Blk.mapId,AV.mapId,AV.mapIdL,Nat.add_zero]at e0 ⊢;rw[e0];rfl
def hsV(A:Int->Lay->Bool):Bool := !(onA A d E WA d.ps.n [] ()).isGo
theorem QJW{d:Puz}{E:ECt}{K:Rw Pt}(hd:Kb d)(hE:WfE E)(hK:K.n<=1000):QS prog 53 (uFC (hsU d E C K (hsV d E (Qj K)))):=by
 have hon:=Qe1 (C:=C) hd hE hK d.ps.n [] () (by simp) (λc hc=>by cases hc)
 have hdn:=hd.n;have hz:∀ k,QB 1 k (λ_ _=>0) (QD []):=λk i _=>⟨rfl,trivial⟩;cases he:onA (Qj K) d E WA d.ps.n [] ()with
 | go s=>
  rw[he]at hon;have hv:hsV d E (Qj K)=false:=by unfold hsV;rw[he];rfl
  rw[hv];have hT:Qf (jm QK (haU d E C K Xt X8 (QD []) [])):=Qm.add hon;have et:=QeW QK d E C K (QD []) false;refine K0 (c:=Qn f53) (E:=mkE prog (jm QK (haU d E C K Xt X8 (QD []) []))) (QP hT) func53 (by kernel_rfl) (by kernel_rfl) (QVr ..) (λG h1 _=>Qz (QP hT) 8 G _ h1) ⟨?_⟩
  refine Qh et ?_;clear et
  iterate 2 (refine QG ?_ ?_;rotate_left)
  refine⟨rfl,rfl,_,Qge d E C K false,?_⟩
  rotate_left
  all_goals first|((with_reducible show _=true);(first|(refine KG.2 ?_;repeat' first|with_reducible refine QM ?_ ?_|exact tv|with_reducible exact qRr|with_reducible exact hz _|exact rfl|refine aI ?_ ?_)|(simp;omega)))|(repeat' first|with_reducible refine QM ?_ ?_|exact tv|with_reducible exact qRr|exact rfl|refine aI ?_ ?_)
 | stop s=>
  rw[he]at hon;have hv:hsV d E (Qj K)=true:=by unfold hsV;rw[he];rfl
  rw[hv];have hT:Qf (jm QK (haV d E C K Xt X8 (QD []) [])):=Qm.add hon;have et:=QhC QK d E C K (QD []) true;refine K0 (c:=Qn f53) (E:=mkE prog (jm QK (haV d E C K Xt X8 (QD []) []))) (QP hT) func53 (by kernel_rfl) (by kernel_rfl) (QVr ..) (λG h1 _=>Qz (QP hT) 8 G _ h1) ⟨?_⟩
  refine Qh et ?_;clear et
  iterate 2 (refine QG ?_ ?_;rotate_left)
  refine⟨rfl,rfl,_,Qbd d E C K true,?_⟩
  rotate_left
  all_goals first|((with_reducible show _=true);(first|(refine KG.2 ?_;repeat' first|with_reducible refine QM ?_ ?_|exact tv|with_reducible exact qRr|with_reducible exact hz _|exact rfl|refine aI ?_ ?_)|(simp;omega)))|(repeat' first|with_reducible refine QM ?_ ?_|exact tv|with_reducible exact qRr|exact rfl|refine aI ?_ ?_)
def VA(p:Int)(t:Nat):Rw Pt:=⟨1,λ_=>⟨c,⟨p,t⟩⟩⟩
def whB:List (Nat×Blk):=[bdL d 392,(201,.mp E.1 E.2),rwY 392 []]
def QTL(n:Nat)(p cells:Int)(c:Nat):List (Nat×AV):=[(1,.int false .i64 p),(4,.int false .i64 cells),(6,.ptr 200 0 0),(28,.int false .i64 n),(29,.int false .i64 c)]
def ZQ(p cells:Int)(c:Nat):JSt:=⟨62,QTL d.ps.n p cells c,whB d E++Qg.blk 0 d.ps,400⟩
def HA(p cells:Int)(c:Nat)(tn:Int)(t:Nat):JSt:=⟨62,QTL d.ps.n p cells c++[(7,.int false .i64 c),(34,.int false .i64 tn),(35,.int false .i64 t)],whB d E++Qg.blk 0 d.ps,400⟩
def HT:JSt:=⟨62,[(4,.int false .i64 cells)],[],400⟩
def QVz:Ex->List Nat
 | .normal=>[1,4,6,28,29]
 | .exit _=>[4]
 | .ret=>[]
def QQS:Ex->List Nat
 | .normal=>[1,4,6,28,29,7,34,35]
 | .exit _=>[1,4,6,28,29]
 | .ret=>[]
def QKy:Tab:=Qc QV 53 (KT pb (hsU d E (.lit 1) K v))
abbrev QLM(cells:Int):Int:=(↑(BitVec.ofInt 64 cells ||| BitVec.ofInt 64 (i64.wrap ((1:Int)*2^min c 64))).toNat:Int)
abbrev QM0:Nat×Blk:=(0,.frz (wae) d.ps.n λi=>QA.enc (d.ps.get i))
abbrev QDm(d:Puz):List (Nat×Blk):=[(200,.cells 0 152 (List.append (waf d) ([.map 201,.slz 528 0 0 cO]))),(201,.mp E.1 E.2),(QM0 d),(528,.rowz true 49 kB 0 λi=>QA.enc ([].getD i (Lay.mk (0:Int) (0:Int))))]
abbrev wca(c:Nat)(d:Puz):List AV:=[.ptr 200 0 0,vi (d.ps.n:Int),vi (c:Int)]
abbrev QRw(cells:Int)(d:Puz)(p:Int)(t:Nat)(tn:Int):List AV:=(.nilp::.ptr 62 0 0::vi p::vi cells::List.append (wca c d) ([vi (c:Int),.int false .i64 tn,vi (i64.wrap ((t:Int)+1))]))
abbrev j7(d:Puz):List (Nat×Blk):=[(200,.cells 0 152 (List.append (waf d) ([.map 201,.slz 392 0 0 cO]))),(201,.mp E.1 E.2),(QM0 d),(392,.rowz true 49 kB 0 λi=>QA.enc ([].getD i (Lay.mk (0:Int) (0:Int))))]
theorem QYO(p cells:Int)(c:Nat)(tn:Int)(t:Nat)(g0:Nat->Value):exec (mkE prog (QKy pb d E K v)) (hnd (mkE prog (QKy pb d E K v)) 0) (QW (QI f17 0)) (JSt.inst (HA d E p cells c tn t) g0) (Q5 [200,201] QQS) = .br (decide ((t:Int)<tn)) (.need (decide ((0:Int)<=(c:Int))) (.br (i64.wrap (↑(BitVec.ofInt 64 (cells.fdiv ((2:Int)^min c 64)) &&& BitVec.ofInt 64 (1:Int)).toNat:Int)==0) (.need (pb (([0=0,0=0,0=0,1=K.n,Cap.lit 1=Cap.lit 1]++waa d++(((wce E)++wam++[jy (waJ) [[vi (c:Int),vi p,vi (t:Int)]] K.n λi=>QA.enc (K.get i)])++wad d)))) (.br (v) (.need (decide ((0:Int)<=(c:Int))) (.leaf (.tup (.nilp::.ptr 62 0 0::vi p::vi (i64.wrap (QLM c cells))::List.append (wca c d) ([vi (c:Int),vi tn,vi (i64.wrap ((t:Int)+1))]))) ((QDm E d)))) (.leaf (.tup (QRw c cells d p t tn)) ((QDm E d))))) (.leaf (.tup (QRw c cells d p t tn)) ((j7 E d))))) (.leaf (.tup (.ptr 3 0 0::.ptr 62 0 0::vi p::vi cells::wca c d)) ((j7 E d))):=by kernel_rfl
abbrev QKe(d:Puz):List Prop:=(waa d++(((wce E)++wam)++wad d))
abbrev wbu(c:Nat):List Prop:=[(c:Int)=(c:Int),(c:Int)=(c:Int)]
theorem QWX(p cells cells':Int)(c:Nat)(tn:Int)(t t':Nat):QF 112 (vi p::vi (i64.wrap (QLM c cells))::List.append (wca c d) ([vi (c:Int),vi tn,vi (i64.wrap ((t:Int)+1))])) ((QDm E d)) (HA d E p cells' c tn t')=(some (([p=p,i64.wrap (QLM c cells)=cells',0=0,0=0,(d.ps.n:Int)=(d.ps.n:Int)]++wbu c++[tn=tn,i64.wrap ((t:Int)+1)=(t':Int)])++(QKe E d))):=by kernel_rfl
abbrev QNY(cells:Int)(d:Puz)(p:Int)(t:Nat)(tn:Int):List AV:=(vi p::vi cells::List.append (wca c d) ([vi (c:Int),vi tn,.int false .i64 (i64.wrap ((t:Int)+1))]))
abbrev QRh(cells:Int)(d:Puz)(p:Int)(t:Nat)(t':Nat)(tn:Int):List Prop:=(([p=p,cells=cells,0=0,0=0,(d.ps.n:Int)=(d.ps.n:Int)]++wbu c++[tn=tn,i64.wrap ((t:Int)+1)=(t':Int)])++waa d++(((wce E)++wam)++wad d))
theorem QfR(p cells:Int)(c:Nat)(tn:Int)(t t':Nat):QF 112 (QNY c cells d p t tn) ((QDm E d)) (HA d E p cells c tn t')=(some (QRh E c cells d p t t' tn)):=by kernel_rfl
theorem QZy(p cells:Int)(c:Nat)(tn:Int)(t t':Nat):QF 112 (QNY c cells d p t tn) ((j7 E d)) (HA d E p cells c tn t')=(some (QRh E c cells d p t t' tn)):=by kernel_rfl
theorem QYt(p cells:Int)(c:Nat):QF 112 (vi p::vi cells::wca c d) ((j7 E d)) (ZQ d E p cells c)=(some ([p=p, cells=cells,0=0,0=0,(d.ps.n:Int)=(d.ps.n:Int),(c:Int)=(c:Int)]++(QKe E d))):=by kernel_rfl
def ja:Tab:=Qc QV 52 (KT pb (tnU d 0 p))
abbrev QD7(P:Program)(pb:List Prop->Bool)(d:Puz)(E:ECt)(p cells:Int)(c:Nat)(X:List (Prop×Ex×JSt)):Hnd:={ hnd (mkE P (ja pb d p)) 0 with loop:=λ_=>KF 112 [200,201] (HA d E p cells c (tnV d p) (0:Nat)) X }
theorem QaK(p cells cells':Int)(c:Nat)(g0:Nat->Value):exec (mkE prog (ja pb d p)) (QD7 prog pb d E p cells c [(True,.exit 3,ZQ d E p cells' c)]) (QI f17 0) (JSt.inst (ZQ d E p cells c) g0) (Q5 [200, 201] QVz) = .br (decide ((c:Int)<(d.ps.n:Int))) (.need (pb (([0=0,0=0,p=p]++waa d++([cO=cO,0=0,0=0,cO=cO]++wad d)))) (.ak (([p=p,cells=cells,0=0,0=0,(d.ps.n:Int)=(d.ps.n:Int)]++wbu c++[tnV d p=tnV d p,(0:Int)=0])++waa d++(((wce E)++wam)++wad d)) (.asm (True) (.all (λ(g0:Nat->Value)=>.leaf (.tup [.nilp,.ptr 62 0 0,vi p,vi cells',.ptr 200 0 0,vi (d.ps.n:Int),vi (i64.wrap ((c:Int)+1))]) ((j7 E d))))))) (.leaf (.tup [.ptr 1 0 0,.ptr 62 0 0,vi cells]) ((j7 E d))):=by kernel_rfl
theorem Qd8(p cells':Int)(c c':Nat):QF 112 [vi p,vi cells',.ptr 200 0 0,vi (d.ps.n:Int),vi (i64.wrap ((c:Int)+1))] ((j7 E d)) (ZQ d E p cells' c')=(some ([p=p,cells'=cells',0=0,0=0,(d.ps.n:Int)=(d.ps.n:Int),i64.wrap ((c:Int)+1)=(c':Int)]++(QKe E d))):=by kernel_rfl
abbrev waF(d:Puz):List AV:=(List.append (wbL d) ([vi d.pK.dK.hi,vi d.wide,vi d.high]))
theorem QWg:QF 112 [vi cells] ([((200:Nat),Blk.cells (0:Nat) (152:Nat) (List.append (waF d) ([AV.bool false d.turn,AV.slz (0:Nat) (0:Nat) d.ps.n cO,AV.map (201:Nat),AV.slz (392:Nat) (0:Nat) (0:Nat) cO]))),((201:Nat),Blk.mp E.1 E.2),((0:Nat),Blk.frz [CK.int i64,CK.int i64,CK.int i64,CK.int i64,CK.int i64,CK.int i64,CK.int i64,CK.int i64,CK.int i64,CK.int i64,CK.int i64,CK.int i64,CK.int i64,CK.int i64,CK.int i64,CK.int i64,CK.int i64,CK.int i64,CK.int i64,CK.int i64,CK.int i64,CK.int i64,CK.int i64,CK.int i64,CK.int i64,CK.int i64,CK.int i64,CK.int i64] d.ps.n λi=>QA.enc (d.ps.get i)),((392:Nat),Blk.rowz true (49:Nat) [CK.int i64,CK.int i64] (0:Nat) λi=>QA.enc ([].getD i (Lay.mk (0:Int) (0:Int))))]) (HT cells)=( some [cells=cells]):=by kernel_rfl
def Gb:Bool:=i64.wrap (((BitVec.ofInt 64 (cells.fdiv (2^min (c:Int).toNat 64)) &&& BitVec.ofInt 64 1).toNat:Nat):Int)==0
def QCq:Int:=i64.wrap (((BitVec.ofInt 64 cells ||| BitVec.ofInt 64 (i64.wrap (1*2^min (c:Int).toNat 64))).toNat:Nat):Int)
def Vq(cells:Int)(t:Nat):Int:=cond (Gb cells c) (cond (hsV d E (Qj (VA c p t))) (QCq cells c) cells) cells
def Zq(p cells:Int)(c:Nat):Int:=(List.range (tnV d p).toNat).foldl (Vq d E p c) cells
def W0:Int:=(List.range d.ps.n).foldl (Zq d E p) 0
theorem QJJ{σ:Type}{f:σ->Nat->σ}{n:Nat}(h:k<n)(s:σ):((List.range n).drop k).foldl f s=((List.range n).drop (k+1)).foldl f (f s k):=by
 have:(List.range n).drop k=k::(List.range n).drop (k+1):=by
  rw[List.drop_eq_getElem_cons (by simpa using h)]
  simp
 rw[this,List.foldl_cons]
theorem QJs{σ:Type}{f:σ->Nat->σ}{n:Nat}(h:n<=k)(s:σ):((List.range n).drop k).foldl f s=s:=by
 rw[List.drop_eq_nil_of_le (by simpa using h),List.foldl_nil]
theorem QOG:((tnV d p).toNat:Int)=tnV d p/\(tnV d p).toNat<=4:=by
 rcases QNb d p with h|h<;>rw[h]<;>decide
def HE(k:Nat×Int)(e:Ex)(J:JSt):Prop:=e = .exit 3/\J=ZQ d E p (((List.range (tnV d p).toNat).drop k.1).foldl (Vq d E p c) k.2) c
def QCW(P:Program)(d:Puz)(E:ECt)(p:Int)(c:Nat)(k:Nat×Int):Env:=mkE P (QKy QK d E (VA c p k.1) (hsV d E (Qj (VA c p k.1))))
theorem QdT(p:Int)(t:Nat):jy [.int .i64,.int .i64,.int .i64] [[.int false .i64 c,.int false .i64 p,.int false .i64 t]] (VA c p t).n λi=>QA.enc ((VA c p t).get i):=by
 refine⟨qlr 1,λi hi x hx r=>?_⟩;obtain rfl:i=0:=by have:i<1:=hi;omega
 simp only[List.getElem?_cons_zero,qsI]at hx;subst hx;rfl
theorem Qdn:K6 (λk:Nat×Int=>HA d E p k.2 c (tnV d p) k.1) (λk=>k.1<=(tnV d p).toNat) (λk=>(tnV d p).toNat-k.1) (HE d E p c) 112 QQS [200,201] (QCW prog d E p c) (λk=>hnd (QCW prog d E p c k) 0) (QW (QI f17 0)):=by
 refine⟨λk g0 hk=>?_⟩;obtain⟨t,cells⟩:=k;have hk:t<=(tnV d p).toNat:=hk;obtain⟨ht1,ht4⟩:=QOG d p;have wt:t<(tnV d p).toNat->i64.wrap ((t:Int)+1)=((t+1:Nat):Int):=λh=>(w64 (by omega) (by omega)).trans (by omega)
 have next:t<(tnV d p).toNat->∀{s2:Int},Vq d E p c cells t=s2->∀ e J,HE d E p c (t+1,s2) e J->HE d E p c (t,cells) e J:=by
  intro h s2 he e J hr;unfold HE at hr ⊢;simp only at hr ⊢;rw[QJJ h,he];exact hr
 have last:(tnV d p).toNat<=t->HE d E p c (t,cells) (.exit 3) (ZQ d E p cells c):=by
  intro h;unfold HE;simp only[QJs h,and_self]
 have et:=QYO QK d E (VA c p t) (hsV d E (Qj (VA c p t))) p cells c (tnV d p) t g0;refine Qh et ?_;clear et;refine QE (λb0=>?_) (λb0=>?_);have h:t<(tnV d p).toNat:=by have:=qdt b0;omega
 have hw:=wt h;refine QG ?_ ?_;rotate_left;refine QE (λb1=>?_) (λb1=>?_);refine QG ?_ ?_;rotate_left;refine QE (λb2=>?_) (λb2=>?_);refine QG ?_ ?_;rotate_left;have ho:Vq d E p c cells t=QCq cells c:=by unfold Vq;rw[show Gb cells c=true from b1,b2];rfl
 refine⟨(t+1,QCq cells c),h,by show(tnV d p).toNat-(t+1)<(tnV d p).toNat-t;omega,next h ho,rfl,rfl,_,QWX d E p cells (QCq cells c) c (tnV d p) t (t+1),?_⟩
 rotate_left
 have ho:Vq d E p c cells t=cells:=by unfold Vq;rw[show Gb cells c=true from b1,b2];rfl
 refine⟨(t+1,cells),h,by show(tnV d p).toNat-(t+1)<(tnV d p).toNat-t;omega,next h ho,rfl,rfl,_,QfR d E p cells c (tnV d p) t (t+1),?_⟩
 rotate_left
 have ho:Vq d E p c cells t=cells:=by unfold Vq;rw[show Gb cells c=false from b1];rfl
 refine⟨(t+1,cells),h,by show(tnV d p).toNat-(t+1)<(tnV d p).toNat-t;omega,next h ho,rfl,rfl,_,QZy d E p cells c (tnV d p) t (t+1),?_⟩
 rotate_left
 have h:(tnV d p).toNat<=t:=by have:=qdf b0;omega
 refine⟨_,last h,rfl,rfl,_,QYt d E p cells c,?_⟩
 rotate_left
 all_goals first|((with_reducible show _=true);(first|(simp;done)|(refine KG.2 ?_;repeat' first|with_reducible refine QM ?_ ?_|exact tv|with_reducible exact qRr|exact QdT c p t|exact rfl|refine aI ?_ ?_)|(simp;omega)))|(repeat' first|with_reducible refine QM ?_ ?_|exact tv|with_reducible exact qRr|exact hw|exact rfl|refine aI ?_ ?_)
theorem Qen{d:Puz}{E:ECt}(hd:Kb d)(hE:WfE E)(p cells:Int)(c:Nat)(G:Ctx)(hrd:G.rd=none)(hG:G.n<=112):
  Q0 (mkE prog (ja QK d p)) G (QD7 prog QK d E p cells c [(True,.exit 3,ZQ d E p (Zq d E p cells c) c)]) (QI f17 0):=by
 have hT:Qf (ja QK d p):=Qm.add (Yf d 0 p);refine KO (body:=QW (QI f17 0)) (QP hT) hrd (by kernel_rfl) ?_
 have hEnv:∀ k,(QCW prog d E p c k).Sound:=λk=>QP (Qm.add (QJW (.lit 1) hd hE (show(1:Nat)<=1000 by decide)))
 refine JG (E0:=mkE prog (ja QK d p)) (E:=QCW prog d E p c) (H:=λk=>hnd (QCW prog d E p c k) 0) (n0:=112) (s0:=(0,cells)) (λ_=>rfl) hEnv hG (λk _=>Qz (hEnv k) 0 G _ hrd) (λk _=>(by decide:112<=400)) ?_ (Qdn d E p c) (Nat.zero_le _) ?_
 .rintro k e J ⟨_,rfl⟩;exact(by decide:112<=400)
 .rintro e J ⟨rfl,rfl⟩;exact⟨_,qmc,trivial,rfl,rfl⟩
def Hh(k:Nat×Int)(e:Ex)(J:JSt):Prop:=e = .exit 1/\J=HT (((List.range d.ps.n).drop k.1).foldl (Zq d E p) k.2)
theorem Qab(hn:d.ps.n<=1000):K6 (λk:Nat×Int=>ZQ d E p k.2 k.1) (λk=>k.1<=d.ps.n) (λk=>d.ps.n-k.1) (Hh d E p) 112 QVz [200,201] (λ_=>mkE prog (ja QK d p)) (λk=>QD7 prog QK d E p k.2 k.1 [(True,.exit 3,ZQ d E p (Zq d E p k.2 k.1) k.1)]) (QI f17 0):=by
 refine⟨λk g0 hk=>?_⟩;obtain⟨c,cells⟩:=k;have hk:c<=d.ps.n:=hk;have wp:c<d.ps.n->i64.wrap ((c:Int)+1)=((c+1:Nat):Int):=λh=>Vo h hn
 have next:c<d.ps.n->∀ e J,Hh d E p (c+1,Zq d E p cells c) e J->Hh d E p (c,cells) e J:=by
  intro h e J hr;unfold Hh at hr ⊢;simp only at hr ⊢;rw[QJJ h];exact hr
 have last:d.ps.n<=c->Hh d E p (c,cells) (.exit 1) (HT cells):=by
  intro h;unfold Hh;simp only[QJs h,and_self]
 have et:=QaK QK d E p cells (Zq d E p cells c) c g0;refine Qh et ?_;clear et;refine QE (λb0=>?_) (λb0=>?_);have h:c<d.ps.n:=by have:=qdt b0;omega
 have hw:=wp h;refine QG ?_ ?_;rotate_left
 iterate 29 refine Qt (by first|exact tv|with_reducible exact qRr|exact rfl) ?_
 refine Qk λa0=>?_;refine Ql λg0=>?_;refine⟨(c+1,Zq d E p cells c),h,by show d.ps.n-(c+1)<d.ps.n-c;omega,next h,rfl,rfl,_,Qd8 d E p (Zq d E p cells c) c (c+1),?_⟩
 rotate_left
 have h:d.ps.n<=c:=by have:=qdf b0;omega
 refine⟨_,last h,rfl,rfl,_,QWg d E cells,?_⟩
 rotate_left
 all_goals first|((with_reducible show _=true);(first|(refine KG.2 ?_;repeat' first|with_reducible refine QM ?_ ?_|exact tv|with_reducible exact qRr|exact rfl|refine aI ?_ ?_)|(simp;omega)))|(repeat' first|with_reducible refine QM ?_ ?_|exact tv|with_reducible exact qRr|exact hw|exact rfl|refine aI ?_ ?_)
