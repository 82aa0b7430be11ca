/- - -/
import Derived.Test.YtekbmehgcofnkaaGreatMze
open Go.Proofs.Tryz
open Go.IntKind (i64)
set_option maxRecDepth 100000
namespace Go.Proofs.YtekbmehgcofnkaaGreat
open Go.SX Go.SX.Told
variable {k:Nat}(pb:List Prop->Bool)(d:Puz)(E:ECt)(C:Cap)(cells p:Int)(c:Nat)(K:Rw Pt)(ac body:Code)(v:Bool)(u' u:Nat->Nat->Int)(l:List Lay)(rec:List Lay->Unit->Qd Unit)
def Wz(n:Nat)(a:Int):Tab:=Qa QT 52 (KM pb (tnU d n a))
abbrev QCH(P:Program)(pb:List Prop->Bool)(d:Puz)(E:ECt)(C:Cap)(K:Rw Pt)(ac body:Code)(u:Nat->Nat->Int)(l:List Lay)(p:Nat)(X:List (Prop×Ex×JSt)):Hnd:={ hnd (mkE P (Wz pb d l.length p)) 0 with loop:=λ_=>JT (p<d.ps.n/\u p 0=0) (KC 416 Zg (jo d E C K ac body u l p (tnV d p) (0:Nat)) X) }
noncomputable abbrev QMK(p:Nat):List AV:=
  (.nilp::.ptr 101 0 0::List.append (waK) ([vi (d.ps.n:Int),vi (i64.wrap ((p:Int)+1))]))
noncomputable abbrev YV:Nat×Blk:=
  (200,.cells 0 152 (List.append (waf d) ([.map 201,.slz 424 0 l.length cO])))
noncomputable abbrev YU:Nat×Blk:=
  (368,.cells 0 114 [.slz 432 0 d.ps.n cO])
noncomputable abbrev Gj:Nat×Blk:=
  (297,.lp LoopState.ready none (haT C K) (Array.mk [8]) ac body)
noncomputable abbrev vO:Nat×Blk:=
  (256,.cellsR 0 90 [.ptr 200 0 0])
noncomputable abbrev jw:Nat×Blk:=
  (264,.cellsR 0 96 [.slz 216 0 K.n C])
noncomputable abbrev QCP:Nat×Blk:=
  (384,.cellsR 0 31 [.fn (Fn.func 103) (waK)])
noncomputable abbrev vW:Nat×Blk:=
  (0,.frz (wae) d.ps.n λi=>QA.enc (d.ps.get i))
noncomputable abbrev YN:Nat×Blk:=
  (424,.rowz true 49 kB l.length λi=>QA.enc (l.getD i (Lay.mk (0:Int) (0:Int))))
noncomputable abbrev ji:Nat×Blk:=
  (216,.frz [.int .i64,.int .i64,.int .i64] K.n λi=>QA.enc (K.get i))
theorem QRe(u u':Nat->Nat->Int)(l:List Lay)(p:Nat)(A B:Prop)(g0:Nat->Value):exec (mkE prog (Wz pb d l.length p)) (QCH prog pb d E C K ac body u l p [(A,.exit 2,QAd d E C K ac body u' l p),(B,.ret,haF d E C K ac body u' l)]) (QH f103 0) (JSt.inst (zJ d E C K ac body u l p) g0) (Q9 Zg QNm) = .br (decide ((p:Int)<(d.ps.n:Int))) (.need (decide ((0:Int)<=(p:Int)/\(p:Int)<(d.ps.n:Int))&&decide (d.ps.n<=d.ps.n)) (.need (decide (p<d.ps.n)) (.br (decide (u ((p:Int).toNat+0) 0=1)) (.leaf (.tup (QMK d p)) ([(YV d l),(201,.mp E.1 E.2),(YU d), (Gj C K ac body),(232,.cells 0 4 [.bool true false]),vO,(304,.cellsR 0 105 [.yld 297]),(jw C K),QCP,(vW d),(YN l),(432,.rowz true 4 [CK.bool] d.ps.n u),(ji K)])) (.need (pb (([0=0,0=0,(p:Int)=(p:Int)]++waa d++([cO=cO,0=0,l.length=l.length,cO=cO]++wad d)))) (.ak [p<d.ps.n/\u p 0=0] (.ak (rz 10) (.ak ((waF d p++[tnV d (p:Int)=tnV d (p:Int),(0:Int)=0])++waa d++(([cO=cO,0=0]++wbL E l)++wag l++((wbo d++[QB 1 d.ps.n u u])++wai++([Array.mk [(8:Tmp)]=Array.mk [(8:Tmp)],ac=ac,body=body,0=0,0=0,0=0,K.n=K.n,C=C,0=0,0=0,0=0,0=0,0=0]++wbe C K++[0=0,0=0,0=0,0=0,false=false,Fn.func (103:FuncId)=Fn.func (103:FuncId)])))) (.ak (rz 11) (.ak (([K.n=K.n,C=C,0=0,0=0]++wa3 K)++wad d) (.both (.asm (A) (.all (λ(g0:Nat->Value)=>.leaf (.tup (QMK d p)) ([(YV d l),(201,.mp E.1 E.2),(YU d),(Gj C K ac body),(232,.cells 0 4 [.bool true false]),vO,(304,.cellsR 0 105 [.yld 297]),(jw C K),QCP,(vW d),(YN l),(432,.rowz true 4 [CK.bool] d.ps.n u'),(ji K)])))) (.asm (B) (.all (λ(g1:Nat->Value)=>.leaf (.tup [.nili,.ptr 101 0 0, .bool false false]) (((YV d l)::(201,.mp E.1 E.2)::(YU d)::List.append (waX C K ac body) ([(YN l),(432,.rowz true 4 [CK.bool] d.ps.n u')])))))))))))))))) (.leaf (.tup [.ptr 0 0 0,.ptr 101 0 0]) ([(YV d l),(201,.mp E.1 E.2),(YU d),(Gj C K ac body),(232,.cells 0 4 [.bool true false]),(vW d),(YN l),(432,.rowz true 4 [CK.bool] d.ps.n u),(ji K), vO,(jw C K)])):=by kernel_rfl
noncomputable abbrev QNc(p:Nat):List AV:=
  (List.append (waK) ([vi (d.ps.n:Int),vi (i64.wrap ((p:Int)+1))]))
abbrev Jd:List Prop:=
  [0=0,0=0,0=0,0=0]
abbrev jz(d:Puz)(l:List Lay):List Prop:=
  (([d.pK.aK=d.pK.aK]++waC d++([0 =
  0,d.ps.n=d.ps.n,cO=cO,0=0]++wbL E l))++wag l++[0=0,d.ps.n=d.ps.n,cO=cO])
abbrev QFs:List Prop:=
  (wai++[Array.mk [8]=Array.mk [(8:Tmp)],ac=ac])
abbrev Zl:List Prop:=
  [0=0,0=0,0=0,K.n=K.n,C=C]
abbrev jF:List Prop:=
  ([0=0]++wbe C K)
abbrev QSu(d:Puz):List Prop:=
  (([0=0,0=0]++wa3 K)++wad d)
theorem QTB(p p':Nat):QF 416 (QNc d p) ([(YV d l),(201,.mp E.1 E.2),(YU d),(Gj C K ac body),(232,.cells 0 4 [.bool true false]),vO,(304,.cellsR 0 105 [.yld 297]),(jw C K),QCP, (vW d),(YN l),(432,.rowz true 4 [CK.bool] d.ps.n u),(ji K)]) (zJ d E C K ac body u l p')=(some (Jd++Jd++([0=0,0=0]++wbq d p p')++(jz E d l)++[d.ps.n<=d.ps.n,QB 1 d.ps.n u u]++(QFs ac)++[body=body]++(Zl C K)++Jd++(jF C K)++Jd++[false=false,Fn.func 103=Fn.func (103:FuncId)]++Jd++Jd++(Zl C K)++(QSu K d))):=by kernel_rfl
theorem Qjs(p p':Nat):QF 416 (QNc d p) ([(YV d l),(201,.mp E.1 E.2),(YU d),(Gj C K ac body),(232,.cells 0 4 [.bool true false]),vO,(304,.cellsR 0 105 [.yld 297]),(jw C K),QCP, (vW d),(YN l),(432,.rowz true 4 [CK.bool] d.ps.n u'),(ji K)]) (zJ d E C K ac body u' l p')=(some (Jd++Jd++([0=0,0=0]++wbq d p p')++(jz E d l)++[d.ps.n<=d.ps.n,QB 1 d.ps.n u' u']++(QFs ac)++[body=body]++(Zl C K)++Jd++(jF C K)++Jd++[false=false,Fn.func 103=Fn.func (103:FuncId)]++Jd++Jd++(Zl C K)++(QSu K d))):=by kernel_rfl
theorem QWy :QF 416 [.bool false false] (((YV d l)::(201,.mp E.1 E.2)::(YU d)::List.append (waX C K ac body) ([(YN l),(432,.rowz true 4 [CK.bool] d.ps.n u')]))) (haF d E C K ac body u' l)=(some ([false=false,d.pK.length=d.pK.length]++(jz E d l)++[d.ps.n<=d.ps.n, QB 1 d.ps.n u' u',LoopState.done=LoopState.done,some Code.ret=some Code.ret,Array.mk [8]=Array.mk [(8:Tmp)],ac=ac,body=body]++(Zl C K)++Jd++(jF C K)++Jd++[true=true])):=by kernel_rfl
theorem QUj :QF 416 [] ([(YV d l),(201,.mp E.1 E.2),(YU d),(Gj C K ac body),(232,.cells 0 4 [.bool true false]),(vW d),(YN l),(432,.rowz true 4 [CK.bool] d.ps.n u),(ji K),vO,(jw C K)]) (Gp d E C K ac body u l)=(some ([d.pK.length=d.pK.length]++(jz E d l)++[d.ps.n<=d.ps.n,QB 1 d.ps.n u u]++(QFs ac)++[body=body] ++ (Zl C K)++Jd++(jF C K)++Jd++[false=false])):=by kernel_rfl
abbrev haN(P : Program)(T : Tab): Hnd := { hnd (mkE P T) 2 with loop := λ_ _ _=>.fail "a loop" }
abbrev haX(P:Program)(J:JSt)(X:List (Prop×Ex×JSt)):Hnd:={ hnd (mkE P QT) 2 with loop:=λ_=>KC 416 Zg J X }
noncomputable abbrev QJi:Nat×Blk:=
  (297,.lp LoopState.done (some Code.ret) (haT C K) (Array.mk [8]) (QN f53 0).1 (QN f53 0).2)
noncomputable abbrev QGB(E:ECt)(K:Rw Pt)(d:Puz)(l:List Lay)(u:Nat->Nat->Int):List (Nat×Blk):=
  [(200,.cells 0 152 (List.append (waf d) ([.map 201,.slz 400 0 l.length cO]))),(201,.mp E.1 E.2),(368,.cells 0 114 [.slz
  408 0 d.ps.n cO]),(QJi C K),(232,.cells 0 4 [.bool true true]),(vW d),(400,.rowz true 49 kB l.length λi=>QA.enc (l.getD i (Lay.mk (0 :
  Int) (0:Int)))),(408,.rowz true 4 [CK.bool] d.ps.n u),(ji K),vO,(jw C K)]
theorem QV9 :(Vk (mkE prog QT) (haN prog QT) f103 QG1 (Gw d E C K (QN f53 0).1 (QN f53 0).2 u l).hp 416 λv h _=>Y9 Zg v h) = .br
  ((l.length : Int) == (d.ps.n : Int)) (.leaf (.bool true false) ((QGB C E K d l u))) (.fail ("a loop")) := by kernel_rfl
abbrev wbA:List Prop:=[(QN f53 0).1=(QN f53 0).1,(QN f53 0).2=(QN f53 0).2]
theorem QO7(u u':Nat->Nat->Int)(l:List Lay)(A B:Prop):(Vk (mkE prog QT) (haX prog (zJ d E C K (QN f53 0).1 (QN f53 0).2 u l 0) [(A,.exit 0,Gp d E C K (QN f53 0).1 (QN f53 0).2 u' l),(B,.ret,haF d E C K (QN f53 0).1 (QN f53 0).2 u' l)]) f103 QG1 (Gw d E C K (QN f53 0).1 (QN f53 0).2 u l).hp 416 λv h _=>Y9 Zg v h) = .br ((l.length:Int)==(d.ps.n:Int)) (.leaf (.bool true false) ((QGB C E K d l u))) (.ak (rz 10) (.ak ([(d.ps.n:Int)=(d.ps.n:Int),(0:Int)=0]++waa d++(([cO=cO,0=0]++wbL E l)++wag l++((wbo d++[QB 1 d.ps.n u u])++wai++(([Array.mk [(8:Tmp)]=Array.mk [(8:Tmp)]]++wbA++[0=0,0=0,0=0,K.n=K.n,C=C,0=0,0=0,0=0,0=0,0=0])++wbe C K++[0=0,0=0,0=0,0=0,false=false,Fn.func (103:FuncId)=Fn.func (103:FuncId)])))) (.ak (rz 11) (.ak (([K.n=K.n,C=C,0=0,0=0]++wa3 K)++wad d) (.both (.asm (A) (.all (λ(g0:Nat->Value)=>.leaf (.bool true true) ([(YV d l),(201,.mp E.1 E.2),(YU d),(297,.lp LoopState.ready none (haT C K) (Array.mk [8]) (QN f53 0).1 (QN f53 0).2),(232,.cells 0 4 [.bool true false]),(YN l),(432,.rowz true 4 [CK.bool] d.ps.n u')])))) (.asm (B) (.all (λ(g1:Nat->Value)=>.leaf (.bool false false) ([(YV d l),(201,.mp E.1 E.2),(YU d), (QJi C K),(232,.cells 0 4 [.bool true true]),(YN l),(432,.rowz true 4 [CK.bool] d.ps.n u')]))))))))):=by kernel_rfl
abbrev QT8:List Prop:=
  ([LoopState.done=LoopState.done,some Code.ret=some Code.ret,Array.mk [8]=Array.mk [(8:Tmp)]]++wbA)
theorem QVJ :QF 416 [(.bool true false)] ((QGB C E K d l u)) (Kf (haV d E C K (QN f53 0).1 (QN f53 0).2 u l))=(some ([false=false,d.pK.length=d.pK.length] ++ (jz E d l)++[d.ps.n<=d.ps.n,QB 1 d.ps.n u u]++QT8++(Zl C K)++Jd++(jF C K)++Jd++[true=true])):=by kernel_rfl
theorem QZu(u u':Nat->Nat->Int)(l:List Lay):QF 416 [(.bool true true)] ([(YV d l),(201,.mp E.1 E.2),(YU d),(297,.lp LoopState.ready none (haT C K) (Array.mk [8]) (QN f53 0).1 (QN f53 0).2),(232, .cells 0 4 [.bool true false]),(YN l),(432,.rowz true 4 [CK.bool] d.ps.n u')]) (Kf (haU d E C K (QN f53 0).1 (QN f53 0).2 u l))=(some ([true=true, d.pK.length=d.pK.length]++(jz E d l)++([d.ps.n<=d.ps.n,QB 1 d.ps.n u' u]++wai++([Array.mk [8]=Array.mk [(8:Tmp)]]++wbA))++(Zl C K)++Jd++(jF C K)++Jd++[false=false])):=by kernel_rfl
theorem QdA(u u':Nat->Nat->Int)(l:List Lay):QF 416 [(.bool false false)] ([(YV d l),(201,.mp E.1 E.2),(YU d),(QJi C K),(232,.cells 0 4 [.bool true true]),(YN l),(432,.rowz true 4 [CK.bool] d.ps.n u')]) (Kf (haV d E C K (QN f53 0).1 (QN f53 0).2 u l))=(some ([false=false,d.pK.length=d.pK.length]++(jz E d l)++[d.ps.n<=d.ps.n,QB 1 d.ps.n u' u]++QT8++(Zl C K)++Jd++(jF C K)++Jd++[true=true])):=by kernel_rfl
def Zp(_:Unit):Qd Unit->UC
 | .go _=>haU d E C K ac body (QD l) l
 | .stop _=>haV d E C K ac body (QD l) l
open Classical in
noncomputable def Zy(p t:Nat):List Prop->Bool:=if t<QZ d p then QQ else λ_=>false
noncomputable def vr(P:Program)(d:Puz)(E:ECt)(C:Cap)(K:Rw Pt)(ac body:Code)(rec:List Lay->Unit->Qd Unit)(l:List Lay)(p:Nat)(k:Nat×Unit):Env:=
 mkE P (QBA (Zy d p k.1) (Zy d p k.1) d E C K l ⟨p,k.1⟩ (Q7 d E l ⟨p,k.1⟩) (Zp d E C K ac body (l++[⟨p,k.1⟩]) k.2 (rec (l++[⟨p,k.1⟩]) k.2)))
def ZJ(l:List Lay)(p:Nat)(k:Nat×Unit)(e:Ex)(J:JSt):Prop:=match Q5 (Jy (Qx K) d E rec l p) ((List.range (QZ d p)).drop k.1) k.2 with
 | .go _=>e = .exit 2/\J=QAd d E C K ac body (QD l) l p
 | .stop _=>e = .ret/\J=haF d E C K ac body (QD l) l
set_option maxHeartbeats 1000000 in
theorem Qa9(l:List Lay)(p:Nat)(hp:p<d.ps.n)(hn:d.ps.n<=1000)(hK:K.n<=1000)(hl:l.length<=1000)(hu:Q6 l p=false):JW (λk:Nat×Unit=>jo d E C K ac body (QD l) l p (tnV d p) k.1) (λk=>k.1<=QZ d p) (λk=>QZ d p-k.1) (ZJ d E C K ac body rec l p) 416 QJh Zg (vr prog d E C K ac body rec l p) (λk=>hnd (vr prog d E C K ac body rec l p k) 0) (QU (QH f103 0)):=by
 refine⟨λk g0 hk=>?_⟩;obtain⟨t,s⟩:=k;have hk:t<=QZ d p:=hk;obtain⟨ht1,ht4⟩:=WD d p;have hlen:(l++[(⟨p,t⟩:Lay)]).length=l.length+1:=by rw[List.length_append,List.length_singleton]
 have hw1:i64.wrap (((l++[(⟨p,t⟩:Lay)]).length:Int)-1)=l.length:=(w64 (by omega) (by omega)).trans (by omega)
 have hpop:(i64.wrap (((l++[(⟨p,t⟩:Lay)]).length:Int)-1)).toNat=l.length:=by rw[hw1];exact Int.toNat_natCast _
 have hle:l.length<=(l++[(⟨p,t⟩:Lay)]).length:=by omega
 have hpb:t<QZ d p->Zy d p t=QQ:=λh=>by unfold Zy;rw[if_pos h]
 have wt:t<QZ d p->i64.wrap ((t:Int)+1)=((t+1:Nat):Int):=λh=>(w64 (by omega) (by omega)).trans (by omega)
 have step:=λh:t<QZ d p=>qL (f:=Jy (Qx K) d E rec l p) h s;unfold vr;simp only
 have next:t<QZ d p->∀{s2:Unit},Jy (Qx K) d E rec l p s t = .go s2->∀ e J,ZJ d E C K ac body rec l p (t+1,s2) e J->ZJ d E C K ac body rec l p (t,s) e J:=by
  intro h s2 he e J hr;unfold ZJ at hr ⊢;simp only at hr ⊢;rw[step h,he];exact hr
 have last:QZ d p<=t->ZJ d E C K ac body rec l p (t,s) (.exit 2) (QAd d E C K ac body (QD l) l p):=by
  intro h;unfold ZJ;simp only[Wp h,and_self]
 cases hr:rec (l++[⟨p,t⟩]) s with
 | go s'=>
  simp only[Zp];have et:=Qc3 (Zy d p t) (Zy d p t) d E C K ac body (QD l) (QD (l++[⟨p,t⟩])) l (l++[⟨p,t⟩]) (Q7 d E l ⟨p,t⟩) p (tnV d p) t g0;refine Qf et ?_;clear et;refine QE (λb0=>?_) (λb0=>?_);have h:t<QZ d p:=by have:=qdt b0;omega
  rw[hpb h];have hw:=wt h;refine QG ?_ ?_;rotate_left;refine QE (λb1=>?_) (λb1=>?_);have hA:Qx K l.length ⟨p,t⟩=false:=by simpa using b1
  have ho:Jy (Qx K) d E rec l p s t = .go s:=by unfold Jy;rw[hA];rfl
  refine⟨(t+1,s),h,by show QZ d p-(t+1)<QZ d p-t;omega,next h ho,rfl,rfl,_,QUG d E C K ac body (QD l) l p (tnV d p) t (t+1),?_⟩
  rotate_left
  refine QG ?_ ?_;rotate_left;refine QE (λb2=>?_) (λb2=>?_);have hA:Qx K l.length ⟨p,t⟩=true:=by simpa using b1
  have hv:Q7 d E l ⟨p,t⟩=false:=by simpa using b2
  have ho:Jy (Qx K) d E rec l p s t = .go s:=by unfold Jy KK;rw[hA,hv];rfl
  refine⟨(t+1,s),h,by show QZ d p-(t+1)<QZ d p-t;omega,next h ho,rfl,rfl,_,QSD d E C K ac body (QD l) l p (tnV d p) t (t+1),?_⟩
  rotate_left
  iterate 7 (refine QG ?_ ?_;rotate_left)
  refine QE ?_ ?_<;>intro b3
  .cases b3
  have hA:Qx K l.length ⟨p,t⟩=true:=by simpa using b1
  have hv:Q7 d E l ⟨p,t⟩=true:=by simpa using b2
  have ho:Jy (Qx K) d E rec l p s t = .go s':=by unfold Jy KK;rw[hA,hv];exact hr
  have hb:=qk l d.ps.n p t hu;have hq:=Wb l ⟨p,t⟩;have hnx:=next h ho
  clear next last step hr ho
  generalize QD (l++[⟨p,t⟩])=u2 at hb ⊢;generalize l++[⟨p,t⟩]=l2 at hpop hle hq ⊢;generalize hu1:QD l=u1 at hb ⊢;refine⟨(t+1,s'),h,by show QZ d p-(t+1)<QZ d p-t;omega,hnx,rfl,rfl,_,QVi d E C K ac body u1 u2 u1 l l2 p (tnV d p) t (t+1),?_⟩
  rotate_left
  have h:QZ d p<=t:=by have:=qdf b0;omega
  refine⟨_,last h,rfl,rfl,_,QKg d E C K ac body (QD l) l p,?_⟩
  rotate_left
  all_goals first|((with_reducible show _=true);(first|rfl|exact qde hK|(refine KI.2 ?_;repeat' first|with_reducible refine QL ?_ ?_|exact tv|with_reducible exact qRr|with_reducible exact hlen|with_reducible exact hlen.symm|with_reducible exact Nat.le_of_eq hlen|with_reducible exact Zd l ⟨p,t⟩|with_reducible exact Z6 l _ p t|exact rfl|refine aI ?_ ?_)|(rw[hw1];simp)|(simp;omega)))|(repeat' first|with_reducible refine QL ?_ ?_|exact tv|with_reducible exact qRr|with_reducible exact hw|with_reducible exact hpop|with_reducible exact hle|with_reducible exact hq|with_reducible exact hb|exact rfl|refine aI ?_ ?_)
 | stop s'=>
  simp only[Zp];have et:=QhA (Zy d p t) (Zy d p t) d E C K ac body (QD l) (QD (l++[⟨p,t⟩])) l (l++[⟨p,t⟩]) (Q7 d E l ⟨p,t⟩) p (tnV d p) t g0;refine Qf et ?_;clear et;refine QE (λb0=>?_) (λb0=>?_);have h:t<QZ d p:=by have:=qdt b0;omega
  rw[hpb h];have hw:=wt h;refine QG ?_ ?_;rotate_left;refine QE (λb1=>?_) (λb1=>?_);have hA:Qx K l.length ⟨p,t⟩=false:=by simpa using b1
  have ho:Jy (Qx K) d E rec l p s t = .go s:=by unfold Jy;rw[hA];rfl
  refine⟨(t+1,s),h,by show QZ d p-(t+1)<QZ d p-t;omega,next h ho,rfl,rfl,_,QUG d E C K ac body (QD l) l p (tnV d p) t (t+1),?_⟩
  rotate_left
  refine QG ?_ ?_;rotate_left;refine QE (λb2=>?_) (λb2=>?_);have hA:Qx K l.length ⟨p,t⟩=true:=by simpa using b1
  have hv:Q7 d E l ⟨p,t⟩=false:=by simpa using b2
  have ho:Jy (Qx K) d E rec l p s t = .go s:=by unfold Jy KK;rw[hA,hv];rfl
  refine⟨(t+1,s),h,by show QZ d p-(t+1)<QZ d p-t;omega,next h ho,rfl,rfl,_,QSD d E C K ac body (QD l) l p (tnV d p) t (t+1),?_⟩
  rotate_left
  iterate 7 (refine QG ?_ ?_;rotate_left)
  refine QE (λb3=>?_) (λb3=>?_);have hA:Qx K l.length ⟨p,t⟩=true:=by simpa using b1
  have hv:Q7 d E l ⟨p,t⟩=true:=by simpa using b2
  have ho:Jy (Qx K) d E rec l p s t = .stop s':=by unfold Jy KK;rw[hA,hv];exact hr
  have hrel:ZJ d E C K ac body rec l p (t,s) .ret (haF d E C K ac body (QD l) l):=by
   unfold ZJ;simp only[step h,ho,and_self]
  have hb:=qk l d.ps.n p t hu;have hq:=Wb l ⟨p,t⟩;clear next last step hr ho
  generalize QD (l++[⟨p,t⟩])=u2 at hb ⊢;generalize l++[⟨p,t⟩]=l2 at hpop hle hq ⊢;generalize hu1:QD l=u1 at hb hrel ⊢;refine⟨_,hrel,rfl,rfl,_,QXo d E C K ac body u2 u1 l l2 p,?_⟩
  rotate_left
  .cases b3
  have h:QZ d p<=t:=by have:=qdf b0;omega
  refine⟨_,last h,rfl,rfl,_,QKg d E C K ac body (QD l) l p,?_⟩
  rotate_left
  all_goals first|((with_reducible show _=true);(first|rfl|exact qde hK|(refine KI.2 ?_;repeat' first|with_reducible refine QL ?_ ?_|exact tv|with_reducible exact qRr|with_reducible exact hlen|with_reducible exact hlen.symm|with_reducible exact Nat.le_of_eq hlen|with_reducible exact Zd l ⟨p,t⟩|with_reducible exact Z6 l _ p t|exact rfl|refine aI ?_ ?_)|(rw[hw1];simp)|(simp;omega)))|(repeat' first|with_reducible refine QL ?_ ?_|exact tv|with_reducible exact qRr|with_reducible exact hw|with_reducible exact hpop|with_reducible exact hle|with_reducible exact hq|with_reducible exact hb|exact rfl|refine aI ?_ ?_)
def QEm(l:List Lay)(p:Nat):Prop:=∀ t,t<QZ d p->∀ s,QR prog 103 (uFC (Zp d E C K ac body (l++[⟨p,t⟩]) s (rec (l++[⟨p,t⟩]) s)))
theorem QZn{d:Puz}{E:ECt}{C:Cap}{K:Rw Pt}{ac body:Code}{rec:List Lay->Unit->Qd Unit}{l:List Lay}{p:Nat}(hd:KO d)(hE:WfE E)(hK:K.n<=1000)(hl:l.length<=1000)(hL:∀ y∈l,KD d y)(hp:p<d.ps.n)(IH:QEm d E C K ac body rec l p)(k:Nat×Unit):(vr prog d E C K ac body rec l p k).Sound:=by
 unfold vr Zy
 by_cases h:k.1<QZ d p
 .rw[if_pos h];have h4:=(WD d p).2;exact QO ((Qh.add (QE5 d E l ⟨p,k.1⟩ hd hE hl hL ⟨⟨by show(0:Int)<=p;omega,by show(p:Int)<_;omega⟩,by show(0:Int)<=k.1;omega,by show(k.1:Int)<=3;omega⟩)).add (IH k.1 h k.2))
 .rw[if_neg h];exact QO ((Qh.add (Jr (by kernel_rfl) _)).add (Jr (by kernel_rfl) _))
def QB6(l:List Lay)(p:Nat)(s:Unit):List (Prop×Ex×JSt):=
 [((inA (Qx K) d E rec l p s).isGo=true,.exit 2,QAd d E C K ac body (QD l) l p),((inA (Qx K) d E rec l p s).isGo=false,.ret,haF d E C K ac body (QD l) l)]
theorem Qee{d:Puz}{E:ECt}{C:Cap}{K:Rw Pt}{ac body:Code}{rec:List Lay->Unit->Qd Unit}{l:List Lay}(hd:KO d)(hE:WfE E)(hK:K.n<=1000)(hl:l.length<=1000)(hL:∀ y∈l,KD d y)(p:Nat)(s:Unit)(IH:p<d.ps.n->QEm d E C K ac body rec l p)(G:Ctx)(hrd:G.rd=none)(hG:G.n<=416):
  Qw (mkE prog (Wz QQ d l.length p)) G (QCH prog QQ d E C K ac body (QD l) l p (QB6 d E C K ac body rec l p s)) (QH f103 0):=by
 have hT:Qc (Wz QQ d l.length p):=Qh.add (X6 d l.length p);refine KN (body:=QU (QH f103 0)) (QO hT) hrd (by kernel_rfl) ?_
 refine Jh λhp=>?_;have hu:=QEJ hp.2;have hEnv:=QZn (ac:=ac) (body:=body) hd hE hK hl hL hp.1 (IH hp.1);refine Jo (E0:=mkE prog (Wz QQ d l.length p)) (E:=vr prog d E C K ac body rec l p) (H:=λk=>hnd (vr prog d E C K ac body rec l p k) 0) (n0:=416) (s0:=(0,s)) (λ_=>rfl) hEnv hG (λk _=>Qv (hEnv k) 0 G _ hrd) (λk _=>(by decide:416<=440)) ?_ (Qa9 d E C K ac body rec l p hp.1 hd.n hK hl hu) (Nat.zero_le _) ?_
 .intro k e J hr;unfold ZJ at hr;split at hr<;>(rw[hr.2];exact(by decide:416<=440))
 .intro e J hr;unfold ZJ at hr;simp only[List.drop_zero]at hr;have hi:inA (Qx K) d E rec l p s=Q5 (Jy (Qx K) d E rec l p) (List.range (QZ d p)) s:=rfl;unfold QB6;rw[hi];cases hc:Q5 (Jy (Qx K) d E rec l p) (List.range (QZ d p)) s with
  | go s'=>
   rw[hc]at hr;exact⟨_,qmc,rfl,hr.1.symm,hr.2.symm⟩
  | stop s'=>
   rw[hc]at hr;exact⟨_,List.mem_cons_of_mem _ qmc,rfl,hr.1.symm,hr.2.symm⟩
def YL(l:List Lay)(k:Nat×Unit)(e:Ex)(J:JSt):Prop:=match Q5 (XZ (Qx K) d E rec l) ((List.range d.ps.n).drop k.1) k.2 with
 | .go s'=>e = .exit 0/\J=Gp d E C K ac body (QD l) l
 | .stop s'=>e = .ret/\J=haF d E C K ac body (QD l) l
set_option maxHeartbeats 1000000 in
theorem QYA(l:List Lay)(hn:d.ps.n<=1000):JW (λk:Nat×Unit=>zJ d E C K ac body (QD l) l k.1) (λk=>k.1<=d.ps.n) (λk=>d.ps.n-k.1) (YL d E C K ac body rec l) 416 QNm Zg (λk=>mkE prog (Wz QQ d l.length k.1)) (λk=>QCH prog QQ d E C K ac body (QD l) l k.1 (QB6 d E C K ac body rec l k.1 k.2)) (QH f103 0):=by
 refine⟨λk g0 hk=>?_⟩;obtain⟨p,s⟩:=k;have hk:p<=d.ps.n:=hk;have wp:p<d.ps.n->i64.wrap ((p:Int)+1)=((p+1:Nat):Int):=λh=>Ja h hn;have step:=λh:p<d.ps.n=>qL (f:=XZ (Qx K) d E rec l) h s
 have next:p<d.ps.n->∀{s2:Unit},XZ (Qx K) d E rec l s p = .go s2->∀ e J,YL d E C K ac body rec l (p+1,s2) e J->YL d E C K ac body rec l (p,s) e J:=by
  intro h s2 he e J hr;unfold YL at hr ⊢;simp only at hr ⊢;rw[step h,he];exact hr
 have stop:p<d.ps.n->∀{s2:Unit},XZ (Qx K) d E rec l s p = .stop s2->YL d E C K ac body rec l (p,s) .ret (haF d E C K ac body (QD l) l):=by
  intro h s2 he;unfold YL;simp only[step h,he,and_self]
 have last:d.ps.n<=p->YL d E C K ac body rec l (p,s) (.exit 0) (Gp d E C K ac body (QD l) l):=by
  intro h;unfold YL;simp only[Wp h,and_self]
 have hpz:Q6 l p=false->XZ (Qx K) d E rec l s p=inA (Qx K) d E rec l p s:=λh=>by unfold XZ;rw[h];rfl
 have hpu:Q6 l p=true->XZ (Qx K) d E rec l s p = .go s:=λh=>by unfold XZ;rw[h];rfl
 unfold QB6;simp only;cases hr:inA (Qx K) d E rec l p s with
 | go s'=>
  simp only[Qd.isGo,Qd.s,Bool.true_eq_false,Bool.false_eq_true];have et:=QRe QQ d E C K ac body (QD l) (QD l) l p True False g0;refine Qf et ?_;clear et;refine QE (λb0=>?_) (λb0=>?_);have h:p<d.ps.n:=by have:=qdt b0;omega
  have hw:=wp h
  iterate 2 (refine QG ?_ ?_;rotate_left)
  refine QE (λb1=>?_) (λb1=>?_);have hub:Q6 l p=true:=Vi.symm.trans b1;refine⟨(p+1,s),h,by show d.ps.n-(p+1)<d.ps.n-p;omega,next h (hpu hub),rfl,rfl,_,QTB d E C K ac body (QD l) l p (p+1),?_⟩
  rotate_left
  have hub:Q6 l p=false:=Vi.symm.trans b1;have hu0:QD l p 0=0:=by unfold QD;rw[hub];rfl
  refine QG ?_ ?_;rotate_left
  iterate 82 refine Qu (by first|exact tv|exact⟨h,hu0⟩|with_reducible exact qRr|exact rfl) ?_
  refine Kh ?_ ?_;refine Qg λa0=>?_;refine Qj λg0=>?_;refine⟨(p+1,s'),h,by show d.ps.n-(p+1)<d.ps.n-p;omega,next h ((hpz hub).trans hr),rfl,rfl,_,Qjs d E C K ac body (QD l) l p (p+1),?_⟩
  rotate_left
  refine Qg λa1=>?_;refine Qj λg1=>?_
  .exact a1.elim
  have h:d.ps.n<=p:=by have:=qdf b0;omega
  refine⟨_,last h,rfl,rfl,_,QUj d E C K ac body (QD l) l,?_⟩
  rotate_left
  all_goals first|((with_reducible show _=true);(first|(refine KI.2 ?_;repeat' first|exact tv|with_reducible exact qRr|exact rfl|refine aI ?_ ?_)|(simp;omega)))|(repeat' first|with_reducible refine QL ?_ ?_|exact tv|with_reducible exact qRr|with_reducible exact hw|exact rfl|refine aI ?_ ?_)
 | stop s'=>
  simp only[Qd.isGo,Qd.s,Bool.true_eq_false,Bool.false_eq_true];have et:=QRe QQ d E C K ac body (QD l) (QD l) l p False True g0;refine Qf et ?_;clear et;refine QE (λb0=>?_) (λb0=>?_);have h:p<d.ps.n:=by have:=qdt b0;omega
  have hw:=wp h
  iterate 2 (refine QG ?_ ?_;rotate_left)
  refine QE (λb1=>?_) (λb1=>?_);have hub:Q6 l p=true:=Vi.symm.trans b1;refine⟨(p+1,s),h,by show d.ps.n-(p+1)<d.ps.n-p;omega,next h (hpu hub),rfl,rfl,_,QTB d E C K ac body (QD l) l p (p+1),?_⟩
  rotate_left
  have hub:Q6 l p=false:=Vi.symm.trans b1;have hu0:QD l p 0=0:=by unfold QD;rw[hub];rfl
  refine QG ?_ ?_;rotate_left
  iterate 82 refine Qu (by first|exact tv|exact⟨h,hu0⟩|with_reducible exact qRr|exact rfl) ?_
  refine Kh ?_ ?_;refine Qg λa0=>?_;refine Qj λg0=>?_
  .exact a0.elim
  refine Qg λa1=>?_;refine Qj λg1=>?_;refine⟨_,stop h ((hpz hub).trans hr),rfl,rfl,_,QWy d E C K ac body (QD l) l,?_⟩
  rotate_left
  have h:d.ps.n<=p:=by have:=qdf b0;omega
  refine⟨_,last h,rfl,rfl,_,QUj d E C K ac body (QD l) l,?_⟩
  rotate_left
  all_goals first|((with_reducible show _=true);(first|(refine KI.2 ?_;repeat' first|exact tv|with_reducible exact qRr|exact rfl|refine aI ?_ ?_)|(simp;omega)))|(repeat' first|with_reducible refine QL ?_ ?_|exact tv|with_reducible exact qRr|with_reducible exact hw|exact rfl|refine aI ?_ ?_)
noncomputable abbrev XY:Code:=(QN f53 0).1
noncomputable abbrev Xd:Code:=(QN f53 0).2
theorem Qg2  :(haU d E C K ac body u l).Ok:=by
 refine⟨(by decide:392<=416),rfl,rfl,?_,rfl,λ_ _=>rfl,λnid h=>?_⟩
 .intro q hq;simp only[UC.po,haU,haW,rwY,rwU,List.mem_cons,List.not_mem_nil,or_false]at hq;rcases hq with rfl|rfl|rfl|rfl|rfl|rfl|rfl|rfl|rfl|rfl|rfl<;>refine⟨rfl,rfl,rfl,?_⟩<;>first|exact λ_=>rfl|exact λh=>absurd (show 416<392 from h) (by decide)|exact λh=>absurd (show 417<392 from h) (by decide)|exact λh=>absurd (show 418<392 from h) (by decide)|exact λh=>absurd (show 419<392 from h) (by decide)
 .have e0:=Kp 392 416 0 nid (by decide)
  have e1:=Kp 392 416 1 nid (by decide)
  simp only[UC.po,haU,haW,rwY,rwU,Gw,haT,KS,Qi.val,List.cons_append,List.nil_append,List.map_cons,List.map_nil,Blk.mapId,AV.mapId,AV.mapIdL,Nat.add_zero]at e0 e1 ⊢;rw[e0,e1];rfl
theorem QUV  :(haV d E C K ac body u l).Ok:=by
 refine⟨(by decide:392<=416),rfl,rfl,?_,rfl,λ_ _=>rfl,λnid h=>?_⟩
 .intro q hq;simp only[UC.po,haV,haW,rwY,rwU,List.mem_cons,List.not_mem_nil,or_false]at hq;rcases hq with rfl|rfl|rfl|rfl|rfl|rfl|rfl|rfl|rfl|rfl|rfl<;>refine⟨rfl,rfl,rfl,?_⟩<;>first|exact λ_=>rfl|exact λh=>absurd (show 416<392 from h) (by decide)|exact λh=>absurd (show 417<392 from h) (by decide)|exact λh=>absurd (show 418<392 from h) (by decide)|exact λh=>absurd (show 419<392 from h) (by decide)
 .have e0:=Kp 392 416 0 nid (by decide)
  have e1:=Kp 392 416 1 nid (by decide)
  simp only[UC.po,haV,haW,rwY,rwU,Gw,haT,KS,Qi.val,List.cons_append,List.nil_append,List.map_cons,List.map_nil,Blk.mapId,AV.mapId,AV.mapIdL,Nat.add_zero]at e0 e1 ⊢;rw[e0,e1];rfl
theorem QiS(T:Tab)(hT:Qc T)(G:Ctx)(hrd:G.rd=none):Qw (mkE prog T) G (haN prog T) (Qk f103):=
 KN (body:=QH f103 0) (QO hT) hrd (by kernel_rfl) (λ_ _ _ _ _ _ _ h _ _=>h.elim)
set_option maxHeartbeats 1000000 in
theorem QWQ(hn:l.length=d.ps.n):QR prog 103 (uFC (haV d E C K XY Xd (QD l) l)):=by
 have et:=QV9 d E C K (QD l) l;have hlen:((l.length:Int)==(d.ps.n:Int))=true:=by rw[hn];simp
 refine K7 (E:=mkE prog QT) (QO Qh) func103 (by kernel_rfl) (by kernel_rfl) (QUV ..) (λG hG _=>QiS _ Qh G hG) ⟨?_⟩
 refine Qf et ?_;clear et;refine QE (λb0=>?_) (λb0=>?_);refine⟨rfl,rfl,_,QVJ d E C K (QD l) l,?_⟩
 rotate_left
 .exact Bool.noConfusion (hlen.symm.trans b0)
 all_goals (repeat' first|with_reducible refine QL ?_ ?_|exact tv|with_reducible exact qRr|exact rfl|refine aI ?_ ?_)
theorem QUs{d:Puz}{E:ECt}{C:Cap}{K:Rw Pt}{ac body:Code}{rec:List Lay->Unit->Qd Unit}{l:List Lay}(hd:KO d)(hE:WfE E)(hK:K.n<=1000)(hl:l.length<=1000)(hL:∀ y∈l,KD d y)(s:Unit)(IH:∀ p,p<d.ps.n->QEm d E C K ac body rec l p){X:List (Prop×Ex×JSt)}(hX:∀ e J,YL d E C K ac body rec l (0,s) e J->∃ y∈X,y.1/\y.2.1=e/\y.2.2=J)(G:Ctx)(hrd:G.rd=none)(hG:G.n=416):
  Qw (mkE prog QT) G (haX prog (zJ d E C K ac body (QD l) l 0) X) (Qk f103):=by
 refine KN (body:=QH f103 0) (QO Qh) hrd (by kernel_rfl) ?_
 have hEnv:∀ k:Nat×Unit,(mkE prog (Wz QQ d l.length k.1)).Sound:=λk=>QO (Qh.add (X6 d l.length k.1));refine Jo (E0:=mkE prog QT) (E:=λk:Nat×Unit=>mkE prog (Wz QQ d l.length k.1)) (H:=λk=>QCH prog QQ d E C K ac body (QD l) l k.1 (QB6 d E C K ac body rec l k.1 k.2)) (n0:=416) (s0:=(0,s)) (λ_=>rfl) hEnv (by omega) (λk _=>Qee hd hE hK hl hL k.1 k.2 (IH k.1) G hrd (by omega)) (λk _=>(by decide:416<=440)) ?_ (QYA d E C K ac body rec l hd.n) (Nat.zero_le _) hX
 intro k e J hr;unfold YL at hr;split at hr<;>(rw[hr.2];exact(by decide:416<=440))
set_option maxHeartbeats 1000000 in
theorem QX1{d:Puz}{E:ECt}{C:Cap}{K:Rw Pt}(hd:KO d)(hE:WfE E)(hK:K.n<=1000){l:List Lay}(hk:l.length+(k+1)=d.ps.n)(hL:∀ y∈l,KD d y)(IH:∀ p,p<d.ps.n->QEm d E C K XY Xd (onA (Qx K) d E Z1 k) l p)(s:Unit):QR prog 103 (uFC (Zp d E C K XY Xd l s (onA (Qx K) d E Z1 (k+1) l s))):=by
 have hdn:=hd.n;have hr0:onA (Qx K) d E Z1 (k+1) l s=Q5 (XZ (Qx K) d E (onA (Qx K) d E Z1 k) l) (List.range d.ps.n) s:=rfl;rw[hr0];have hne:((l.length:Int)==(d.ps.n:Int))=false:=by rw[beq_eq_false_iff_ne];omega
 cases hc:Q5 (XZ (Qx K) d E (onA (Qx K) d E Z1 k) l) (List.range d.ps.n) s with
 | go s'=>
  simp only[Zp];have et:=QO7 d E C K (QD l) (QD l) l True False;refine K7 (E:=mkE prog QT) (QO Qh) func103 (by kernel_rfl) (by kernel_rfl) (Qg2 ..) (QUs hd hE hK (by omega) hL s IH (X:=[(True,.exit 0,Gp d E C K XY Xd (QD l) l),(False,.ret,haF d E C K XY Xd (QD l) l)]) ?_) ⟨?_⟩
  .intro e J hr;unfold YL at hr;simp only[List.drop_zero,hc]at hr;exact⟨_,qmc,trivial,hr.1.symm,hr.2.symm⟩
  refine Qf et ?_;clear et;refine QE ?_ ?_<;>intro b0
  .exact Bool.noConfusion (hne.symm.trans b0)
  iterate 78 refine Qu (by first|exact tv|with_reducible exact qRr|exact rfl) ?_
  refine Kh ?_ ?_;refine Qg λa0=>?_;refine Qj λg0=>?_;refine⟨rfl,rfl,_,QZu d E C K (QD l) (QD l) l,?_⟩
  rotate_left
  refine Qg λa1=>?_;refine Qj λg1=>?_
  .exact a1.elim
  all_goals (repeat' first|with_reducible refine QL ?_ ?_|exact tv|with_reducible exact qRr|exact rfl|refine aI ?_ ?_)
 | stop s'=>
  simp only[Zp];have et:=QO7 d E C K (QD l) (QD l) l False True;refine K7 (E:=mkE prog QT) (QO Qh) func103 (by kernel_rfl) (by kernel_rfl) (QUV ..) (QUs hd hE hK (by omega) hL s IH (X:=[(False,.exit 0,Gp d E C K XY Xd (QD l) l),(True,.ret,haF d E C K XY Xd (QD l) l)]) ?_) ⟨?_⟩
  .intro e J hr;unfold YL at hr;simp only[List.drop_zero,hc]at hr;exact⟨_,List.mem_cons_of_mem _ qmc,trivial,hr.1.symm,hr.2.symm⟩
  refine Qf et ?_;clear et;refine QE ?_ ?_<;>intro b0
  .exact Bool.noConfusion (hne.symm.trans b0)
  iterate 78 refine Qu (by first|exact tv|with_reducible exact qRr|exact rfl) ?_
  refine Kh ?_ ?_;refine Qg λa0=>?_;refine Qj λg0=>?_
  .exact a0.elim
  refine Qg λa1=>?_;refine Qj λg1=>?_;refine⟨rfl,rfl,_,QdA d E C K (QD l) (QD l) l,?_⟩
  rotate_left
  all_goals (repeat' first|with_reducible refine QL ?_ ?_|exact tv|with_reducible exact qRr|exact rfl|refine aI ?_ ?_)
theorem QVh{d:Puz}{E:ECt}{C:Cap}{K:Rw Pt}(s:Unit)(hk:l.length=d.ps.n):QR prog 103 (uFC (Zp d E C K XY Xd l s (onA (Qx K) d E Z1 0 l s))):=QWQ d E C K l hk
theorem Qiw{d:Puz}{E:ECt}{C:Cap}{K:Rw Pt}(hd:KO d)(hE:WfE E)(hK:K.n<=1000)(k:Nat):∀(l:List Lay) (s:Unit),l.length+k=d.ps.n->(∀ y∈l,KD d y)->QR prog 103 (uFC (Zp d E C K XY Xd l s (onA (Qx K) d E Z1 k l s))):=by
 induction k with
 | zero=>exact λl s hk _=>QVh l s hk
 | succ k ih=>
  intro l s hk hL;refine QX1 hd hE hK hk hL ?_ s;intro p hp t ht s;exact ih _ s (QEr l _ hk) (QDP hp ht hL)
def qo(U:UC):Tab:=Qa QT 103 (KM pb U)
def bdL(a:Nat):Nat×Blk:=(200,.cells 0 152 (KS d++[.map 201,.slz a 0 0 (.of 0)]))
def hsU:UC:=⟨208,⟨2,[(0,.ptr 200 0 0),(1,(.slz 216 0 K.n C))],[bdL d 224,(201,.mp E.1 E.2),rwY 224 []]++Qi.blk 216 K++Qi.blk 0 d.ps,232⟩,λ_=>.bool false v,λm=>[bdL d m,(201,.mp E.1 E.2),rwY m []]⟩
abbrev wam:List Prop:=[0<=0,QB 2 0 (λi=>QA.enc ([].getD i (Lay.mk (0:Int) (0:Int)))) λi=>QA.enc ([].getD i (Lay.mk (0:Int) (0:Int)))]
abbrev wbS(E:ECt):List Prop:=[cO=cO,0=0,0=0,cO=cO,E.1=E.1,E.2=E.2]
abbrev QUR(E:ECt)(K:Rw Pt)(d:Puz)(u:Nat->Nat->Int):List Prop:=
  ((wbK)++waa d++((((wbS E)++wam++(wbo d++[QB 1 d.ps.n (λx x_1=>(0:Int)) u]))++wai++(([Array.mk [8]=Array.mk
  [8]]++wbA++(([0=0,0=0,0=0,K.n=K.n,C=C,0=0,0=0,0=0,0=0,0=0,K.n =
  K.n,C=C]++wbV++[false=false,Fn.func 103=Fn.func 103])++wbK++[0
  = 0,K.n=K.n,C=C,0=0,0=0]))++wa3 K))++wad d))
noncomputable abbrev QCg(d:Puz):List (Nat×Blk):=
  [(200,.cells 0 152 (List.append (waf d) ([.map 201,.slz 416 0 0 cO]))),(201,.mp E.1 E.2),(0,.frz (wae) d.ps.n λi=>QA.enc (d.ps.get i)),(416,.rowz true 49 [.int .i64,.int
  .i64] 0 λi=>QA.enc ([].getD i (Lay.mk (0:Int) (0:Int))))]
theorem QhP(v:Bool):VS (mkE prog (qo pb (haU d E C K (QN f53 0).1 (QN f53 0).2 u []))) (hnd (mkE prog (qo pb (haU d E C K (QN f53 0).1 (QN f53 0).2 u []))) 8) f53 (hsU d E C K v) = .need (decide ((d.ps.n:Int)=(d.ps.n:Int))&&decide ((0:Int)<=(d.ps.n:Int)/\(d.ps.n:Int)<=17179869184)) (.need (pb ((QUR C E K d u))) (.leaf (.bool true false) ((QCg E d)))):=by kernel_rfl
theorem QXe(v:Bool):VS (mkE prog (qo pb (haV d E C K (QN f53 0).1 (QN f53 0).2 u []))) (hnd (mkE prog (qo pb (haV d E C K (QN f53 0).1 (QN f53 0).2 u []))) 8) f53 (hsU d E C K v) = .need (decide ((d.ps.n:Int)=(d.ps.n:Int))&&decide ((0:Int)<=(d.ps.n:Int)/\(d.ps.n:Int)<=17179869184)) (.need (pb ((QUR C E K d u))) (.leaf (.bool true true) ((QCg E d)))):=by kernel_rfl
abbrev QUA(d:Puz):List Prop:=
  ((waC d++([0=0,d.ps.n=d.ps.n]++wbS E))++wam)
theorem Qfk :QF 232 [(.bool true false)] ((QCg E d)) (Kf (hsU d E C K v))=(some (([false=v]++wbJ d)++(QUA E d))):=by kernel_rfl
theorem Qf5 :QF 232 [(.bool true true)] ((QCg E d)) (Kf (hsU d E C K v))=(some (([true=v]++wbJ d)++(QUA E d))):=by kernel_rfl
theorem QSV:(hsU d E C K v).Ok:=by
 refine⟨(by decide:208<=232),rfl,rfl,?_,rfl,λ_ _=>rfl,λnid h=>?_⟩
 .intro q hq;simp only[UC.po,hsU,bdL,rwY,List.mem_cons,List.not_mem_nil,or_false]at hq;rcases hq with rfl|rfl|rfl<;>refine⟨rfl,rfl,rfl,?_⟩<;>first|exact λ_=>rfl|exact λh=>absurd (show 232<208 from h) (by decide)
 .have e0:=Kp 208 232 0 nid (by decide)
  simp only[UC.po,hsU,bdL,rwY,KS,Qi.val,List.cons_append,List.nil_append,List.map_cons,List.map_nil,Blk.mapId,AV.mapId,AV.mapIdL,Nat.add_zero]at e0 ⊢;rw[e0];rfl
def hsV(A:Int->Lay->Bool):Bool := !(onA A d E Z1 d.ps.n [] ()).isGo
theorem QKH{d:Puz}{E:ECt}{K:Rw Pt}(hd:KO d)(hE:WfE E)(hK:K.n<=1000):QR prog 53 (uFC (hsU d E C K (hsV d E (Qx K)))):=by
 have hon:=Qiw (C:=C) hd hE hK d.ps.n [] () (by simp) (λc hc=>by cases hc)
 have hdn:=hd.n;have hz:∀ k,QB 1 k (λ_ _=>0) (QD []):=λk i _=>⟨rfl,trivial⟩;cases he:onA (Qx K) d E Z1 d.ps.n [] ()with
 | go s=>
  rw[he]at hon;have hv:hsV d E (Qx K)=false:=by unfold hsV;rw[he];rfl
  rw[hv];have hT:Qc (qo QQ (haU d E C K XY Xd (QD []) [])):=Qh.add hon;have et:=QhP QQ d E C K (QD []) false;refine K7 (c:=Qk f53) (E:=mkE prog (qo QQ (haU d E C K XY Xd (QD []) []))) (QO hT) func53 (by kernel_rfl) (by kernel_rfl) (QSV ..) (λG h1 _=>Qv (QO hT) 8 G _ h1) ⟨?_⟩
  refine Qf et ?_;clear et
  iterate 2 (refine QG ?_ ?_;rotate_left)
  refine⟨rfl,rfl,_,Qfk d E C K false,?_⟩
  rotate_left
  all_goals first|((with_reducible show _=true);(first|(refine KI.2 ?_;repeat' first|with_reducible refine QL ?_ ?_|exact tv|with_reducible exact qRr|with_reducible exact hz _|exact rfl|refine aI ?_ ?_)|(simp;omega)))|(repeat' first|with_reducible refine QL ?_ ?_|exact tv|with_reducible exact qRr|exact rfl|refine aI ?_ ?_)
 | stop s=>
  rw[he]at hon;have hv:hsV d E (Qx K)=true:=by unfold hsV;rw[he];rfl
  rw[hv];have hT:Qc (qo QQ (haV d E C K XY Xd (QD []) [])):=Qh.add hon;have et:=QXe QQ d E C K (QD []) true;refine K7 (c:=Qk f53) (E:=mkE prog (qo QQ (haV d E C K XY Xd (QD []) []))) (QO hT) func53 (by kernel_rfl) (by kernel_rfl) (QSV ..) (λG h1 _=>Qv (QO hT) 8 G _ h1) ⟨?_⟩
  refine Qf et ?_;clear et
  iterate 2 (refine QG ?_ ?_;rotate_left)
  refine⟨rfl,rfl,_,Qf5 d E C K true,?_⟩
  rotate_left
  all_goals first|((with_reducible show _=true);(first|(refine KI.2 ?_;repeat' first|with_reducible refine QL ?_ ?_|exact tv|with_reducible exact qRr|with_reducible exact hz _|exact rfl|refine aI ?_ ?_)|(simp;omega)))|(repeat' first|with_reducible refine QL ?_ ?_|exact tv|with_reducible exact qRr|exact rfl|refine aI ?_ ?_)
def j6(p:Int)(t:Nat):Rw Pt:=⟨1,λ_=>⟨c,⟨p,t⟩⟩⟩
def whB:List (Nat×Blk):=[bdL d 392,(201,.mp E.1 E.2),rwY 392 []]
def QMM(n:Nat)(p cells:Int)(c:Nat):List (Nat×AV):=[(1,.int false .i64 p),(4,.int false .i64 cells),(6,.ptr 200 0 0),(28,.int false .i64 n),(29,.int false .i64 c)]
def Ye(p cells:Int)(c:Nat):JSt:=⟨62,QMM d.ps.n p cells c,whB d E++Qi.blk 0 d.ps,400⟩
def Gy(p cells:Int)(c:Nat)(tn:Int)(t:Nat):JSt:=⟨62,QMM d.ps.n p cells c++[(7,.int false .i64 c),(34,.int false .i64 tn),(35,.int false .i64 t)],whB d E++Qi.blk 0 d.ps,400⟩
def Gx:JSt:=⟨62,[(4,.int false .i64 cells)],[],400⟩
def QU1:Ex->List Nat
 | .normal=>[1,4,6,28,29]
 | .exit _=>[4]
 | .ret=>[]
def QSq:Ex->List Nat
 | .normal=>[1,4,6,28,29,7,34,35]
 | .exit _=>[1,4,6,28,29]
 | .ret=>[]
def QHC:Tab:=Qa QT 53 (KM pb (hsU d E (.lit 1) K v))
noncomputable abbrev QIv(cells:Int):Int:=
  (↑(BitVec.ofInt 64 cells ||| BitVec.ofInt 64 (i64.wrap ((1:Int)*2^min c 64))).toNat:Int)
noncomputable abbrev QTQ:Nat×Blk:=
  (0,.frz (wae) d.ps.n λi=>QA.enc (d.ps.get i))
noncomputable abbrev QCs(d:Puz):List (Nat×Blk):=
  [(200,.cells 0 152 (List.append (waf d) ([.map 201,.slz 528 0 0 cO]))),(201,.mp E.1 E.2),(QTQ d),(528,.rowz true 49 kB 0 λi=>QA.enc ([].getD i (Lay.mk (0:Int) (0:Int))))]
noncomputable abbrev QUI(cells:Int)(d:Puz)(p:Int)(t:Nat)(tn:Int):List AV:=
  [.nilp,.ptr 62 0 0,vi p,vi cells,.ptr 200 0 0,vi (d.ps.n:Int),vi (c:Int),vi (c:Int),.int false .i64
  tn,vi (i64.wrap ((t:Int)+1))]
noncomputable abbrev jD(d:Puz):List (Nat×Blk):=
  [(200,.cells 0 152 (List.append (waf d) ([.map 201,.slz 392 0 0 cO]))),(201,.mp E.1 E.2),(QTQ d),(392,.rowz true 49 kB 0 λi=>QA.enc ([].getD i (Lay.mk (0:Int) (0:Int))))]
theorem QjG(p cells:Int)(c:Nat)(tn:Int)(t:Nat)(g0:Nat->Value):exec (mkE prog (QHC pb d E K v)) (hnd (mkE prog (QHC pb d E K v)) 0) (QU (QH f17 0)) (JSt.inst (Gy d E p cells c tn t) g0) (Q9 [200,201] QSq) = .br (decide ((t:Int)<tn)) (.need (decide ((0:Int)<=(c:Int))) (.br (i64.wrap (↑(BitVec.ofInt 64 (cells.fdiv ((2:Int)^min c 64)) &&& BitVec.ofInt 64 (1:Int)).toNat:Int)==0) (.need (pb (([0=0,0=0,0=0,1=K.n,Cap.lit 1=Cap.lit 1]++waa d++(((wbS E)++wam++[vE [.int .i64,.int .i64,.int .i64] [[vi (c:Int),vi p,vi (t:Int)]] K.n λi=>QA.enc (K.get i)])++wad d)))) (.br (v) (.need (decide ((0:Int)<=(c:Int))) (.leaf (.tup [.nilp,.ptr 62 0 0,vi p,vi (i64.wrap (QIv c cells)),.ptr 200 0 0,vi (d.ps.n:Int),vi (c:Int),vi (c:Int),vi tn,vi (i64.wrap ((t:Int)+1))]) ((QCs E d)))) (.leaf (.tup (QUI c cells d p t tn)) ((QCs E d))))) (.leaf (.tup (QUI c cells d p t tn)) ((jD E d))))) (.leaf (.tup [.ptr 3 0 0,.ptr 62 0 0,vi p,vi cells,.ptr 200 0 0,vi (d.ps.n:Int),vi (c:Int)]) ((jD E d))):=by kernel_rfl
abbrev QHX(d:Puz):List Prop:=
  (waa d++(((wbS E)++wam)++wad d))
theorem QVH(p cells cells':Int)(c:Nat)(tn:Int)(t t':Nat):QF 112 [vi p,vi (i64.wrap (QIv c cells)),.ptr 200 0 0,vi (d.ps.n:Int),vi (c:Int),vi (c:Int), vi tn,vi (i64.wrap ((t:Int)+1))] ((QCs E d)) (Gy d E p cells' c tn t')=(some ([p=p,i64.wrap (QIv c cells)=cells',0=0,0=0,(d.ps.n:Int)=(d.ps.n:Int),(c:Int)=(c:Int),(c:Int)=(c:Int),tn=tn,i64.wrap ((t:Int)+1)=(t':Int)]++(QHX E d))):=by kernel_rfl
noncomputable abbrev QQl(cells:Int)(d:Puz)(p:Int)(t:Nat)(tn:Int):List AV:=
  [vi p,vi cells,.ptr 200 0 0,vi (d.ps.n:Int),vi (c:Int),vi (c:Int),vi tn,.int false .i64
  (i64.wrap ((t:Int)+1))]
abbrev QUK(cells:Int)(d:Puz)(p:Int)(t:Nat)(t':Nat)(tn:Int):List Prop:=
  ([p=p,cells=cells,0=0,0=0,(d.ps.n:Int)=(d.ps.n:Int),(c:Int)=(c:Int),(c:Int)=(c:Int),tn=tn,i64.wrap ((t:Int)+1)=(t':Int)]++waa d++(((wbS E)++wam)++wad d))
theorem QXP(p cells:Int)(c:Nat)(tn:Int)(t t':Nat):QF 112 (QQl c cells d p t tn) ((QCs E d)) (Gy d E p cells c tn t')=(some (QUK E c cells d p t t' tn)):=by kernel_rfl
theorem QcB(p cells:Int)(c:Nat)(tn:Int)(t t':Nat):QF 112 (QQl c cells d p t tn) ((jD E d)) (Gy d E p cells c tn t')=(some (QUK E c cells d p t t' tn)):=by kernel_rfl
theorem QiF(p cells:Int)(c:Nat):QF 112 [vi p,vi cells,.ptr 200 0 0,vi (d.ps.n:Int),vi (c:Int)] ((jD E d)) (Ye d E p cells c)=(some ([p=p, cells=cells,0=0,0=0,(d.ps.n:Int)=(d.ps.n:Int),(c:Int)=(c:Int)]++(QHX E d))):=by kernel_rfl
def qN:Tab:=Qa QT 52 (KM pb (tnU d 0 p))
abbrev QDs(P:Program)(pb:List Prop->Bool)(d:Puz)(E:ECt)(p cells:Int)(c:Nat)(X:List (Prop×Ex×JSt)):Hnd:={ hnd (mkE P (qN pb d p)) 0 with loop:=λ_=>KC 112 [200,201] (Gy d E p cells c (tnV d p) (0:Nat)) X }
theorem Qfe(p cells cells':Int)(c:Nat)(g0:Nat->Value):exec (mkE prog (qN pb d p)) (QDs prog pb d E p cells c [(True,.exit 3,Ye d E p cells' c)]) (QH f17 0) (JSt.inst (Ye d E p cells c) g0) (Q9 [200, 201] QU1) = .br (decide ((c:Int)<(d.ps.n:Int))) (.need (pb (([0=0,0=0,p=p]++waa d++([cO=cO,0=0,0=0,cO=cO]++wad d)))) (.ak ([p=p,cells=cells,0=0,0=0,(d.ps.n:Int)=(d.ps.n:Int),(c:Int)=(c:Int),(c:Int)=(c:Int),tnV d p=tnV d p,(0:Int)=0]++waa d++(((wbS E)++wam)++wad d)) (.asm (True) (.all (λ(g0:Nat->Value)=>.leaf (.tup [.nilp,.ptr 62 0 0,vi p,vi cells',.ptr 200 0 0,vi (d.ps.n:Int),vi (i64.wrap ((c:Int)+1))]) ((jD E d))))))) (.leaf (.tup [.ptr 1 0 0,.ptr 62 0 0,vi cells]) ((jD E d))):=by kernel_rfl
theorem QZA(p cells':Int)(c c':Nat):QF 112 [vi p,vi cells',.ptr 200 0 0,vi (d.ps.n:Int),vi (i64.wrap ((c:Int)+1))] ((jD E d)) (Ye d E p cells' c')=(some ([p=p,cells'=cells',0=0,0=0,(d.ps.n:Int)=(d.ps.n:Int),i64.wrap ((c:Int)+1)=(c':Int)]++(QHX E d))):=by kernel_rfl
noncomputable abbrev waD(d:Puz):List AV:=[vi d.pK.length,vi d.pK.aK,vi d.pK.oK,vi d.pK.dK.lo,vi d.pK.dK.hi,vi d.wide,vi d.high]
theorem Qhc:QF 112 [vi cells] ([((200:Nat),Blk.cells (0:Nat) (152:Nat) (List.append (waD d) ([AV.bool false d.turn,AV.slz (0:Nat) (0:Nat) d.ps.n cO,AV.map (201:Nat),AV.slz (392:Nat) (0:Nat) (0:Nat) cO]))),((201:Nat),Blk.mp E.1 E.2),((0:Nat),Blk.frz [CK.int i64,CK.int i64,CK.int i64,CK.int i64,CK.int i64,CK.int i64,CK.int i64,CK.int i64,CK.int i64,CK.int i64,CK.int i64,CK.int i64,CK.int i64,CK.int i64,CK.int i64,CK.int i64,CK.int i64,CK.int i64,CK.int i64,CK.int i64,CK.int i64,CK.int i64,CK.int i64,CK.int i64,CK.int i64,CK.int i64,CK.int i64,CK.int i64] d.ps.n λi=>QA.enc (d.ps.get i)),((392:Nat),Blk.rowz true (49:Nat) [CK.int i64,CK.int i64] (0:Nat) λi=>QA.enc ([].getD i (Lay.mk (0:Int) (0:Int))))]) (Gx cells)=( some [cells=cells]):=by kernel_rfl
def QD0:Bool:=i64.wrap (((BitVec.ofInt 64 (cells.fdiv (2^min (c:Int).toNat 64)) &&& BitVec.ofInt 64 1).toNat:Nat):Int)==0
def QD2:Int:=i64.wrap (((BitVec.ofInt 64 cells ||| BitVec.ofInt 64 (i64.wrap (1*2^min (c:Int).toNat 64))).toNat:Nat):Int)
def Zh(cells:Int)(t:Nat):Int:=cond (QD0 cells c) (cond (hsV d E (Qx (j6 c p t))) (QD2 cells c) cells) cells
def WB(p cells:Int)(c:Nat):Int:=(List.range (tnV d p).toNat).foldl (Zh d E p c) cells
def qQ:Int:=(List.range d.ps.n).foldl (WB d E p) 0
theorem QHQ{σ:Type}{f:σ->Nat->σ}{n:Nat}(h:k<n)(s:σ):((List.range n).drop k).foldl f s=((List.range n).drop (k+1)).foldl f (f s k):=by
 have:(List.range n).drop k=k::(List.range n).drop (k+1):=by
  rw[List.drop_eq_getElem_cons (by simpa using h)]
  simp
 rw[this,List.foldl_cons]
theorem QJL{σ:Type}{f:σ->Nat->σ}{n:Nat}(h:n<=k)(s:σ):((List.range n).drop k).foldl f s=s:=by
 rw[List.drop_eq_nil_of_le (by simpa using h),List.foldl_nil]
theorem QZN:((tnV d p).toNat:Int)=tnV d p/\(tnV d p).toNat<=4:=by
 rcases QOB d p with h|h<;>rw[h]<;>decide
def HA(k:Nat×Int)(e:Ex)(J:JSt):Prop:=e = .exit 3/\J=Ye d E p (((List.range (tnV d p).toNat).drop k.1).foldl (Zh d E p c) k.2) c
noncomputable def QA3(P:Program)(d:Puz)(E:ECt)(p:Int)(c:Nat)(k:Nat×Int):Env:=mkE P (QHC QQ d E (j6 c p k.1) (hsV d E (Qx (j6 c p k.1))))
theorem QdK(p:Int)(t:Nat):vE [.int .i64,.int .i64,.int .i64] [[.int false .i64 c,.int false .i64 p,.int false .i64 t]] (j6 c p t).n λi=>QA.enc ((j6 c p t).get i):=by
 refine⟨qlr 1,λi hi x hx r=>?_⟩;obtain rfl:i=0:=by have:i<1:=hi;omega
 simp only[List.getElem?_cons_zero,qsI]at hx;subst hx;rfl
theorem QWA:JW (λk:Nat×Int=>Gy d E p k.2 c (tnV d p) k.1) (λk=>k.1<=(tnV d p).toNat) (λk=>(tnV d p).toNat-k.1) (HA d E p c) 112 QSq [200,201] (QA3 prog d E p c) (λk=>hnd (QA3 prog d E p c k) 0) (QU (QH f17 0)):=by
 refine⟨λk g0 hk=>?_⟩;obtain⟨t,cells⟩:=k;have hk:t<=(tnV d p).toNat:=hk;obtain⟨ht1,ht4⟩:=QZN d p;have wt:t<(tnV d p).toNat->i64.wrap ((t:Int)+1)=((t+1:Nat):Int):=λh=>(w64 (by omega) (by omega)).trans (by omega)
 have next:t<(tnV d p).toNat->∀{s2:Int},Zh d E p c cells t=s2->∀ e J,HA d E p c (t+1,s2) e J->HA d E p c (t,cells) e J:=by
  intro h s2 he e J hr;unfold HA at hr ⊢;simp only at hr ⊢;rw[QHQ h,he];exact hr
 have last:(tnV d p).toNat<=t->HA d E p c (t,cells) (.exit 3) (Ye d E p cells c):=by
  intro h;unfold HA;simp only[QJL h,and_self]
 have et:=QjG QQ d E (j6 c p t) (hsV d E (Qx (j6 c p t))) p cells c (tnV d p) t g0;refine Qf et ?_;clear et;refine QE (λb0=>?_) (λb0=>?_);have h:t<(tnV d p).toNat:=by have:=qdt b0;omega
 have hw:=wt h;refine QG ?_ ?_;rotate_left;refine QE (λb1=>?_) (λb1=>?_);refine QG ?_ ?_;rotate_left;refine QE (λb2=>?_) (λb2=>?_);refine QG ?_ ?_;rotate_left;have ho:Zh d E p c cells t=QD2 cells c:=by unfold Zh;rw[show QD0 cells c=true from b1,b2];rfl
 refine⟨(t+1,QD2 cells c),h,by show(tnV d p).toNat-(t+1)<(tnV d p).toNat-t;omega,next h ho,rfl,rfl,_,QVH d E p cells (QD2 cells c) c (tnV d p) t (t+1),?_⟩
 rotate_left
 have ho:Zh d E p c cells t=cells:=by unfold Zh;rw[show QD0 cells c=true from b1,b2];rfl
 refine⟨(t+1,cells),h,by show(tnV d p).toNat-(t+1)<(tnV d p).toNat-t;omega,next h ho,rfl,rfl,_,QXP d E p cells c (tnV d p) t (t+1),?_⟩
 rotate_left
 have ho:Zh d E p c cells t=cells:=by unfold Zh;rw[show QD0 cells c=false from b1];rfl
 refine⟨(t+1,cells),h,by show(tnV d p).toNat-(t+1)<(tnV d p).toNat-t;omega,next h ho,rfl,rfl,_,QcB d E p cells c (tnV d p) t (t+1),?_⟩
 rotate_left
 have h:(tnV d p).toNat<=t:=by have:=qdf b0;omega
 refine⟨_,last h,rfl,rfl,_,QiF d E p cells c,?_⟩
 rotate_left
 all_goals first|((with_reducible show _=true);(first|(simp;done)|(refine KI.2 ?_;repeat' first|with_reducible refine QL ?_ ?_|exact tv|with_reducible exact qRr|exact QdK c p t|exact rfl|refine aI ?_ ?_)|(simp;omega)))|(repeat' first|with_reducible refine QL ?_ ?_|exact tv|with_reducible exact qRr|exact hw|exact rfl|refine aI ?_ ?_)
theorem QeQ{d:Puz}{E:ECt}(hd:KO d)(hE:WfE E)(p cells:Int)(c:Nat)(G:Ctx)(hrd:G.rd=none)(hG:G.n<=112):
  Qw (mkE prog (qN QQ d p)) G (QDs prog QQ d E p cells c [(True,.exit 3,Ye d E p (WB d E p cells c) c)]) (QH f17 0):=by
 have hT:Qc (qN QQ d p):=Qh.add (X6 d 0 p);refine KN (body:=QU (QH f17 0)) (QO hT) hrd (by kernel_rfl) ?_
 have hEnv:∀ k,(QA3 prog d E p c k).Sound:=λk=>QO (Qh.add (QKH (.lit 1) hd hE (show(1:Nat)<=1000 by decide)))
 refine Jo (E0:=mkE prog (qN QQ d p)) (E:=QA3 prog d E p c) (H:=λk=>hnd (QA3 prog d E p c k) 0) (n0:=112) (s0:=(0,cells)) (λ_=>rfl) hEnv hG (λk _=>Qv (hEnv k) 0 G _ hrd) (λk _=>(by decide:112<=400)) ?_ (QWA d E p c) (Nat.zero_le _) ?_
 .rintro k e J ⟨_,rfl⟩;exact(by decide:112<=400)
 .rintro e J ⟨rfl,rfl⟩;exact⟨_,qmc,trivial,rfl,rfl⟩
def Hm(k:Nat×Int)(e:Ex)(J:JSt):Prop:=e = .exit 1/\J=Gx (((List.range d.ps.n).drop k.1).foldl (WB d E p) k.2)
theorem Qfd(hn:d.ps.n<=1000):JW (λk:Nat×Int=>Ye d E p k.2 k.1) (λk=>k.1<=d.ps.n) (λk=>d.ps.n-k.1) (Hm d E p) 112 QU1 [200,201] (λ_=>mkE prog (qN QQ d p)) (λk=>QDs prog QQ d E p k.2 k.1 [(True,.exit 3,Ye d E p (WB d E p k.2 k.1) k.1)]) (QH f17 0):=by
 refine⟨λk g0 hk=>?_⟩;obtain⟨c,cells⟩:=k;have hk:c<=d.ps.n:=hk;have wp:c<d.ps.n->i64.wrap ((c:Int)+1)=((c+1:Nat):Int):=λh=>Ja h hn
 have next:c<d.ps.n->∀ e J,Hm d E p (c+1,WB d E p cells c) e J->Hm d E p (c,cells) e J:=by
  intro h e J hr;unfold Hm at hr ⊢;simp only at hr ⊢;rw[QHQ h];exact hr
 have last:d.ps.n<=c->Hm d E p (c,cells) (.exit 1) (Gx cells):=by
  intro h;unfold Hm;simp only[QJL h,and_self]
 have et:=Qfe QQ d E p cells (WB d E p cells c) c g0;refine Qf et ?_;clear et;refine QE (λb0=>?_) (λb0=>?_);have h:c<d.ps.n:=by have:=qdt b0;omega
 have hw:=wp h;refine QG ?_ ?_;rotate_left
 iterate 29 refine Qu (by first|exact tv|with_reducible exact qRr|exact rfl) ?_
 refine Qg λa0=>?_;refine Qj λg0=>?_;refine⟨(c+1,WB d E p cells c),h,by show d.ps.n-(c+1)<d.ps.n-c;omega,next h,rfl,rfl,_,QZA d E p (WB d E p cells c) c (c+1),?_⟩
 rotate_left
 have h:d.ps.n<=c:=by have:=qdf b0;omega
 refine⟨_,last h,rfl,rfl,_,Qhc d E cells,?_⟩
 rotate_left
 all_goals first|((with_reducible show _=true);(first|(refine KI.2 ?_;repeat' first|with_reducible refine QL ?_ ?_|exact tv|with_reducible exact qRr|exact rfl|refine aI ?_ ?_)|(simp;omega)))|(repeat' first|with_reducible refine QL ?_ ?_|exact tv|with_reducible exact qRr|exact hw|exact rfl|refine aI ?_ ?_)
