/- - -/
import Derived.Test.YtekbmehgcofnkaaGreatKze
set_option linter.all false
noncomputable section
open Go.Proofs.Tryz
open Go.IntKind (i64)
set_option maxRecDepth 100000
namespace Go.Proofs.YtekbmehgcofnkaaGreat
open Go.SX Go.SX.Told
variable {k:Nat}(pb:List Prop->Bool)(d:Puz)(E:ECt)(C:Cap)(cells p:Int)(c:Nat)(K:Rw Pt)(ac body:Code)(v:Bool)(u' u:Nat->Nat->Int)(l:List Lay)(rec:List Lay->Unit->QZ Unit)
def qJ(n:Nat)(a:Int):Tab:=Qa QS 52 (KE pb (tnU d n a))
abbrev QDL(P:Program)(pb:List Prop->Bool)(d:Puz)(E:ECt)(C:Cap)(K:Rw Pt)(ac body:Code)(u:Nat->Nat->Int)(l:List Lay)(p:Nat)(X:List (Prop×Ex×JSt)):Hnd:={ hnd (mkE P (qJ pb d l.length p)) 0 with loop:=λ_=>Kr (p<d.ps.n/\u p 0=0) (Q4 416 Zx (vF d E C K ac body u l p (tnV d p) (0:Nat)) X) }
abbrev QPF(p:Nat):List AV:=
  (.nilp::.ptr 101 0 0::List.append (waN) ([vi (d.ps.n:Int),vi (i64.wrap ((p:Int)+1))]))
abbrev Xu:Nat×Blk:=
  (200,.cells 0 152 (List.append (waf d) ([.map 201,.slz 424 0 l.length cO])))
abbrev YO:Nat×Blk:=
  (368,.cells 0 114 [.slz 432 0 d.ps.n cO])
abbrev zV:Nat×Blk:=
  (297,.lp LoopState.ready none (haT C K) (Array.mk [8]) ac body)
abbrev qj:Nat×Blk:=
  (256,.cellsR 0 90 [.ptr 200 0 0])
abbrev jF:Nat×Blk:=
  (264,.cellsR 0 96 [.slz 216 0 K.n C])
abbrev QD6:Nat×Blk:=
  (384,.cellsR 0 31 [.fn (Fn.func 103) (waN)])
abbrev vG:Nat×Blk:=
  (0,.frz (wae) d.ps.n λi=>QA.enc (d.ps.get i))
abbrev YT:Nat×Blk:=
  (424,.rowz true 49 kB l.length λi=>QA.enc (l.getD i (Lay.mk (0:Int) (0:Int))))
abbrev qu:Nat×Blk:=
  (216,.frz (wbA) K.n λi=>QA.enc (K.get i))
theorem QJP(u u':Nat->Nat->Int)(l:List Lay)(p:Nat)(A B:Prop)(g0:Nat->Value):exec (mkE prog (qJ pb d l.length p)) (QDL prog pb d E C K ac body u l p [(A,.exit 2,QBL d E C K ac body u' l p),(B,.ret,haF d E C K ac body u' l)]) (QH f103 0) (JSt.inst (Ge d E C K ac body u l p) g0) (Q8 Zx QKw) = .br (decide ((p:Int)<(d.ps.n:Int))) (.need (decide ((0:Int)<=(p:Int)/\(p:Int)<(d.ps.n:Int))&&decide (d.ps.n<=d.ps.n)) (.need (decide (p<d.ps.n)) (.br (decide (u ((p:Int).toNat+0) 0=1)) (.leaf (.tup (QPF d p)) ([(Xu d l),(201,.mp E.1 E.2),(YO d), (zV C K ac body),(232,.cells 0 4 [.bool true false]),qj,(304,.cellsR 0 105 [.yld 297]),(jF C K),QD6,(vG d),(YT l),(432,.rowz true 4 [CK.bool] d.ps.n u),(qu K)])) (.need (pb (([0=0,0=0,(p:Int)=(p:Int)]++waa d++((wca l)++wad d)))) (.ak [p<d.ps.n/\u p 0=0] (.ak (rz 10) (.ak ((wbq d p++(wb3 d p))++waa d++(([cO=cO,0=0]++wb2 E l)++wag l++((wbO d++[QB 1 d.ps.n u u])++wak++([Array.mk [(8:Tmp)]=Array.mk [(8:Tmp)],ac=ac,body=body,0=0,0=0,0=0,K.n=K.n,C=C,0=0,0=0,0=0,0=0,0=0]++wbh C K++[0=0,0=0,0=0,0=0,false=false,Fn.func (103:FuncId)=Fn.func (103:FuncId)])))) (.ak (rz 11) (.ak (([K.n=K.n,C=C,0=0,0=0]++wa6 K)++wad d) (.both (.asm (A) (.all (λ(g0:Nat->Value)=>.leaf (.tup (QPF d p)) ([(Xu d l),(201,.mp E.1 E.2),(YO d),(zV C K ac body),(232,.cells 0 4 [.bool true false]),qj,(304,.cellsR 0 105 [.yld 297]),(jF C K),QD6,(vG d),(YT l),(432,.rowz true 4 [CK.bool] d.ps.n u'),(qu K)])))) (.asm (B) (.all (λ(g1:Nat->Value)=>.leaf (.tup [.nili,.ptr 101 0 0, .bool false false]) (((Xu d l)::(201,.mp E.1 E.2)::(YO d)::List.append (wa4 C K ac body) ([(YT l),(432,.rowz true 4 [CK.bool] d.ps.n u')])))))))))))))))) (.leaf (.tup [.ptr 0 0 0,.ptr 101 0 0]) ([(Xu d l),(201,.mp E.1 E.2),(YO d),(zV C K ac body),(232,.cells 0 4 [.bool true false]),(vG d),(YT l),(432,.rowz true 4 [CK.bool] d.ps.n u),(qu K), qj,(jF C K)])):=by kernel_rfl
abbrev QMT(p:Nat):List AV:=
  (List.append (waN) ([vi (d.ps.n:Int),vi (i64.wrap ((p:Int)+1))]))
abbrev JV:List Prop:=
  [0=0,0=0,0=0,0=0]
abbrev jt(d:Puz)(l:List Lay):List Prop:=
  (([d.pK.aK=d.pK.aK]++waC d++([0 =
  0,d.ps.n=d.ps.n,cO=cO,0=0]++wb2 E l))++wag l++[0=0,d.ps.n=d.ps.n,cO=cO])
abbrev QIg:List Prop:=
  (wak++[Array.mk [8]=Array.mk [(8:Tmp)],ac=ac])
abbrev Zi:List Prop:=
  [0=0,0=0,0=0,K.n=K.n,C=C]
abbrev jl:List Prop:=
  ([0=0]++wbh C K)
abbrev QJT(d:Puz):List Prop:=
  (([0=0,0=0]++wa6 K)++wad d)
theorem QJV(p p':Nat):QE 416 (QMT d p) ([(Xu d l),(201,.mp E.1 E.2),(YO d),(zV C K ac body),(232,.cells 0 4 [.bool true false]),qj,(304,.cellsR 0 105 [.yld 297]),(jF C K),QD6, (vG d),(YT l),(432,.rowz true 4 [CK.bool] d.ps.n u),(qu K)]) (Ge d E C K ac body u l p')=(some (JV++JV++([0=0,0=0]++wbP d p p')++(jt E d l)++[d.ps.n<=d.ps.n,QB 1 d.ps.n u u]++(QIg ac)++[body=body]++(Zi C K)++JV++(jl C K)++JV++[false=false,Fn.func 103=Fn.func (103:FuncId)]++JV++JV++(Zi C K)++(QJT K d))):=by kernel_rfl
theorem Qan(p p':Nat):QE 416 (QMT d p) ([(Xu d l),(201,.mp E.1 E.2),(YO d),(zV C K ac body),(232,.cells 0 4 [.bool true false]),qj,(304,.cellsR 0 105 [.yld 297]),(jF C K),QD6, (vG d),(YT l),(432,.rowz true 4 [CK.bool] d.ps.n u'),(qu K)]) (Ge d E C K ac body u' l p')=(some (JV++JV++([0=0,0=0]++wbP d p p')++(jt E d l)++[d.ps.n<=d.ps.n,QB 1 d.ps.n u' u']++(QIg ac)++[body=body]++(Zi C K)++JV++(jl C K)++JV++[false=false,Fn.func 103=Fn.func (103:FuncId)]++JV++JV++(Zi C K)++(QJT K d))):=by kernel_rfl
theorem QUQ :QE 416 [.bool false false] (((Xu d l)::(201,.mp E.1 E.2)::(YO d)::List.append (wa4 C K ac body) ([(YT l),(432,.rowz true 4 [CK.bool] d.ps.n u')]))) (haF d E C K ac body u' l)=(some ([false=false,d.pK.length=d.pK.length]++(jt E d l)++[d.ps.n<=d.ps.n, QB 1 d.ps.n u' u',LoopState.done=LoopState.done,some Code.ret=some Code.ret,Array.mk [8]=Array.mk [(8:Tmp)],ac=ac,body=body]++(Zi C K)++JV++(jl C K)++JV++[true=true])):=by kernel_rfl
theorem QOy :QE 416 [] ([(Xu d l),(201,.mp E.1 E.2),(YO d),(zV C K ac body),(232,.cells 0 4 [.bool true false]),(vG d),(YT l),(432,.rowz true 4 [CK.bool] d.ps.n u),(qu K),qj,(jF C K)]) (HA d E C K ac body u l)=(some ([d.pK.length=d.pK.length]++(jt E d l)++[d.ps.n<=d.ps.n,QB 1 d.ps.n u u]++(QIg ac)++[body=body] ++ (Zi C K)++JV++(jl C K)++JV++[false=false])):=by kernel_rfl
abbrev haN(P : Program)(T : Tab): Hnd := { hnd (mkE P T) 2 with loop := λ_ _ _=>.fail "a loop" }
abbrev haX(P:Program)(J:JSt)(X:List (Prop×Ex×JSt)):Hnd:={ hnd (mkE P QS) 2 with loop:=λ_=>Q4 416 Zx J X }
abbrev QGb:Nat×Blk:=
  (297,.lp LoopState.done (some Code.ret) (haT C K) (Array.mk [8]) (QL f53 0).1 (QL f53 0).2)
abbrev QIp(E:ECt)(K:Rw Pt)(d:Puz)(l:List Lay)(u:Nat->Nat->Int):List (Nat×Blk):=
  [(200,.cells 0 152 (List.append (waf d) ([.map 201,.slz 400 0 l.length cO]))),(201,.mp E.1 E.2),(368,.cells 0 114 [.slz
  408 0 d.ps.n cO]),(QGb C K),(232,.cells 0 4 [.bool true true]),(vG d),(400,.rowz true 49 kB l.length λi=>QA.enc (l.getD i (Lay.mk (0 :
  Int) (0:Int)))),(408,.rowz true 4 [CK.bool] d.ps.n u),(qu K),qj,(jF C K)]
theorem QVf :(Vh (mkE prog QS) (haN prog QS) f103 QF3 (zy d E C K (QL f53 0).1 (QL f53 0).2 u l).hp 416 λv h _=>Y0 Zx v h) = .br
  ((l.length : Int) == (d.ps.n : Int)) (.leaf (.bool true false) ((QIp C E K d l u))) (.fail ("a loop")) := by kernel_rfl
abbrev wbE:List Prop:=[(QL f53 0).1=(QL f53 0).1,(QL f53 0).2=(QL f53 0).2]
theorem QJf(u u':Nat->Nat->Int)(l:List Lay)(A B:Prop):(Vh (mkE prog QS) (haX prog (Ge d E C K (QL f53 0).1 (QL f53 0).2 u l 0) [(A,.exit 0,HA d E C K (QL f53 0).1 (QL f53 0).2 u' l),(B,.ret,haF d E C K (QL f53 0).1 (QL f53 0).2 u' l)]) f103 QF3 (zy d E C K (QL f53 0).1 (QL f53 0).2 u l).hp 416 λv h _=>Y0 Zx v h) = .br ((l.length:Int)==(d.ps.n:Int)) (.leaf (.bool true false) ((QIp C E K d l u))) (.ak (rz 10) (.ak ([(d.ps.n:Int)=(d.ps.n:Int),(0:Int)=0]++waa d++(([cO=cO,0=0]++wb2 E l)++wag l++((wbO d++[QB 1 d.ps.n u u])++wak++(([Array.mk [(8:Tmp)]=Array.mk [(8:Tmp)]]++wbE++[0=0,0=0,0=0,K.n=K.n,C=C,0=0,0=0,0=0,0=0,0=0])++wbh C K++[0=0,0=0,0=0,0=0,false=false,Fn.func (103:FuncId)=Fn.func (103:FuncId)])))) (.ak (rz 11) (.ak (([K.n=K.n,C=C,0=0,0=0]++wa6 K)++wad d) (.both (.asm (A) (.all (λ(g0:Nat->Value)=>.leaf (.bool true true) ([(Xu d l),(201,.mp E.1 E.2),(YO d),(297,.lp LoopState.ready none (haT C K) (Array.mk [8]) (QL f53 0).1 (QL f53 0).2),(232,.cells 0 4 [.bool true false]),(YT l),(432,.rowz true 4 [CK.bool] d.ps.n u')])))) (.asm (B) (.all (λ(g1:Nat->Value)=>.leaf (.bool false false) ([(Xu d l),(201,.mp E.1 E.2),(YO d), (QGb C K),(232,.cells 0 4 [.bool true true]),(YT l),(432,.rowz true 4 [CK.bool] d.ps.n u')]))))))))):=by kernel_rfl
abbrev QRz:List Prop:=
  ([LoopState.done=LoopState.done,some Code.ret=some Code.ret,Array.mk [8]=Array.mk [(8:Tmp)]]++wbE)
theorem Qeq :QE 416 [(.bool true false)] ((QIp C E K d l u)) (KQ (haV d E C K (QL f53 0).1 (QL f53 0).2 u l))=(some ([false=false,d.pK.length=d.pK.length] ++ (jt E d l)++[d.ps.n<=d.ps.n,QB 1 d.ps.n u u]++QRz++(Zi C K)++JV++(jl C K)++JV++[true=true])):=by kernel_rfl
theorem Qdd(u u':Nat->Nat->Int)(l:List Lay):QE 416 [(.bool true true)] ([(Xu d l),(201,.mp E.1 E.2),(YO d),(297,.lp LoopState.ready none (haT C K) (Array.mk [8]) (QL f53 0).1 (QL f53 0).2),(232, .cells 0 4 [.bool true false]),(YT l),(432,.rowz true 4 [CK.bool] d.ps.n u')]) (KQ (haU d E C K (QL f53 0).1 (QL f53 0).2 u l))=(some ([true=true, d.pK.length=d.pK.length]++(jt E d l)++([d.ps.n<=d.ps.n,QB 1 d.ps.n u' u]++wak++([Array.mk [8]=Array.mk [(8:Tmp)]]++wbE))++(Zi C K)++JV++(jl C K)++JV++[false=false])):=by kernel_rfl
theorem Qeo(u u':Nat->Nat->Int)(l:List Lay):QE 416 [(.bool false false)] ([(Xu d l),(201,.mp E.1 E.2),(YO d),(QGb C K),(232,.cells 0 4 [.bool true true]),(YT l),(432,.rowz true 4 [CK.bool] d.ps.n u')]) (KQ (haV d E C K (QL f53 0).1 (QL f53 0).2 u l))=(some ([false=false,d.pK.length=d.pK.length]++(jt E d l)++[d.ps.n<=d.ps.n,QB 1 d.ps.n u' u]++QRz++(Zi C K)++JV++(jl C K)++JV++[true=true])):=by kernel_rfl
def ZS(_:Unit):QZ Unit->UC
 | .go _=>haU d E C K ac body (QD l) l
 | .stop _=>haV d E C K ac body (QD l) l
open Classical in
def Zp(p t:Nat):List Prop->Bool:=if t<QX d p then QP else λ_=>false
def vA(P:Program)(d:Puz)(E:ECt)(C:Cap)(K:Rw Pt)(ac body:Code)(rec:List Lay->Unit->QZ Unit)(l:List Lay)(p:Nat)(k:Nat×Unit):Env:=
 mkE P (QBQ (Zp d p k.1) (Zp d p k.1) d E C K l ⟨p,k.1⟩ (Q0 d E l ⟨p,k.1⟩) (ZS d E C K ac body (l++[⟨p,k.1⟩]) k.2 (rec (l++[⟨p,k.1⟩]) k.2)))
def Y6(l:List Lay)(p:Nat)(k:Nat×Unit)(e:Ex)(J:JSt):Prop:=match Qw (Jm (Qq K) d E rec l p) ((List.range (QX d p)).drop k.1) k.2 with
 | .go _=>e = .exit 2/\J=QBL d E C K ac body (QD l) l p
 | .stop _=>e = .ret/\J=haF d E C K ac body (QD l) l
set_option maxHeartbeats 1000000 in
theorem QZN(l:List Lay)(p:Nat)(hp:p<d.ps.n)(hn:d.ps.n<=1000)(hK:K.n<=1000)(hl:l.length<=1000)(hu:KI l p=false):Jf (λk:Nat×Unit=>vF d E C K ac body (QD l) l p (tnV d p) k.1) (λk=>k.1<=QX d p) (λk=>QX d p-k.1) (Y6 d E C K ac body rec l p) 416 QFI Zx (vA prog d E C K ac body rec l p) (λk=>hnd (vA prog d E C K ac body rec l p k) 0) (QY (QH f103 0)):=by
 refine⟨λk g0 hk=>?_⟩;obtain⟨t,s⟩:=k;have hk:t<=QX d p:=hk;obtain⟨ht1,ht4⟩:=Zg d p;have hlen:(l++[(⟨p,t⟩:Lay)]).length=l.length+1:=by rw[List.length_append,List.length_singleton]
 have hw1:i64.wrap (((l++[(⟨p,t⟩:Lay)]).length:Int)-1)=l.length:=(w64 (by omega) (by omega)).trans (by omega)
 have hpop:(i64.wrap (((l++[(⟨p,t⟩:Lay)]).length:Int)-1)).toNat=l.length:=by rw[hw1];exact Int.toNat_natCast _
 have hle:l.length<=(l++[(⟨p,t⟩:Lay)]).length:=by omega
 have hpb:t<QX d p->Zp d p t=QP:=λh=>by unfold Zp;rw[if_pos h]
 have wt:t<QX d p->i64.wrap ((t:Int)+1)=((t+1:Nat):Int):=λh=>(w64 (by omega) (by omega)).trans (by omega)
 have step:=λh:t<QX d p=>Wc (f:=Jm (Qq K) d E rec l p) h s;unfold vA;simp only
 have next:t<QX d p->∀{s2:Unit},Jm (Qq K) d E rec l p s t = .go s2->∀ e J,Y6 d E C K ac body rec l p (t+1,s2) e J->Y6 d E C K ac body rec l p (t,s) e J:=by
  intro h s2 he e J hr;unfold Y6 at hr ⊢;simp only at hr ⊢;rw[step h,he];exact hr
 have last:QX d p<=t->Y6 d E C K ac body rec l p (t,s) (.exit 2) (QBL d E C K ac body (QD l) l p):=by
  intro h;unfold Y6;simp only[WH h,and_self]
 cases hr:rec (l++[⟨p,t⟩]) s with
 | go s'=>
  simp only[ZS];have et:=QUN (Zp d p t) (Zp d p t) d E C K ac body (QD l) (QD (l++[⟨p,t⟩])) l (l++[⟨p,t⟩]) (Q0 d E l ⟨p,t⟩) p (tnV d p) t g0;refine Qe et ?_;clear et;refine QF (λb0=>?_) (λb0=>?_);have h:t<QX d p:=by have:=qdt b0;omega
  rw[hpb h];have hw:=wt h;refine QG ?_ ?_;rotate_left;refine QF (λb1=>?_) (λb1=>?_);have hA:Qq K l.length ⟨p,t⟩=false:=by simpa using b1
  have ho:Jm (Qq K) d E rec l p s t = .go s:=by unfold Jm;rw[hA];rfl
  refine⟨(t+1,s),h,by show QX d p-(t+1)<QX d p-t;omega,next h ho,rfl,rfl,_,QJc d E C K ac body (QD l) l p (tnV d p) t (t+1),?_⟩
  rotate_left
  refine QG ?_ ?_;rotate_left;refine QF (λb2=>?_) (λb2=>?_);have hA:Qq K l.length ⟨p,t⟩=true:=by simpa using b1
  have hv:Q0 d E l ⟨p,t⟩=false:=by simpa using b2
  have ho:Jm (Qq K) d E rec l p s t = .go s:=by unfold Jm KB;rw[hA,hv];rfl
  refine⟨(t+1,s),h,by show QX d p-(t+1)<QX d p-t;omega,next h ho,rfl,rfl,_,QNB d E C K ac body (QD l) l p (tnV d p) t (t+1),?_⟩
  rotate_left
  iterate 7 (refine QG ?_ ?_;rotate_left)
  refine QF ?_ ?_<;>intro b3
  .cases b3
  have hA:Qq K l.length ⟨p,t⟩=true:=by simpa using b1
  have hv:Q0 d E l ⟨p,t⟩=true:=by simpa using b2
  have ho:Jm (Qq K) d E rec l p s t = .go s':=by unfold Jm KB;rw[hA,hv];exact hr
  have hb:=qE l d.ps.n p t hu;have hq:=qN l ⟨p,t⟩;have hnx:=next h ho
  clear next last step hr ho
  generalize QD (l++[⟨p,t⟩])=u2 at hb ⊢;generalize l++[⟨p,t⟩]=l2 at hpop hle hq ⊢;generalize hu1:QD l=u1 at hb ⊢;refine⟨(t+1,s'),h,by show QX d p-(t+1)<QX d p-t;omega,hnx,rfl,rfl,_,Qcf d E C K ac body u1 u2 u1 l l2 p (tnV d p) t (t+1),?_⟩
  rotate_left
  have h:QX d p<=t:=by have:=qdf b0;omega
  refine⟨_,last h,rfl,rfl,_,QNp d E C K ac body (QD l) l p,?_⟩
  rotate_left
  all_goals first|((with_reducible show _=true);(first|rfl|exact qde hK|(refine Q7.2 ?_;repeat' first|with_reducible refine QO ?_ ?_|exact tv|with_reducible exact qRr|with_reducible exact hlen|with_reducible exact hlen.symm|with_reducible exact Nat.le_of_eq hlen|with_reducible exact qO l ⟨p,t⟩|with_reducible exact Wa l _ p t|exact rfl|refine aI ?_ ?_)|(rw[hw1];simp)|(simp;omega)))|(repeat' first|with_reducible refine QO ?_ ?_|exact tv|with_reducible exact qRr|with_reducible exact hw|with_reducible exact hpop|with_reducible exact hle|with_reducible exact hq|with_reducible exact hb|exact rfl|refine aI ?_ ?_)
 | stop s'=>
  simp only[ZS];have et:=QVU (Zp d p t) (Zp d p t) d E C K ac body (QD l) (QD (l++[⟨p,t⟩])) l (l++[⟨p,t⟩]) (Q0 d E l ⟨p,t⟩) p (tnV d p) t g0;refine Qe et ?_;clear et;refine QF (λb0=>?_) (λb0=>?_);have h:t<QX d p:=by have:=qdt b0;omega
  rw[hpb h];have hw:=wt h;refine QG ?_ ?_;rotate_left;refine QF (λb1=>?_) (λb1=>?_);have hA:Qq K l.length ⟨p,t⟩=false:=by simpa using b1
  have ho:Jm (Qq K) d E rec l p s t = .go s:=by unfold Jm;rw[hA];rfl
  refine⟨(t+1,s),h,by show QX d p-(t+1)<QX d p-t;omega,next h ho,rfl,rfl,_,QJc d E C K ac body (QD l) l p (tnV d p) t (t+1),?_⟩
  rotate_left
  refine QG ?_ ?_;rotate_left;refine QF (λb2=>?_) (λb2=>?_);have hA:Qq K l.length ⟨p,t⟩=true:=by simpa using b1
  have hv:Q0 d E l ⟨p,t⟩=false:=by simpa using b2
  have ho:Jm (Qq K) d E rec l p s t = .go s:=by unfold Jm KB;rw[hA,hv];rfl
  refine⟨(t+1,s),h,by show QX d p-(t+1)<QX d p-t;omega,next h ho,rfl,rfl,_,QNB d E C K ac body (QD l) l p (tnV d p) t (t+1),?_⟩
  rotate_left
  iterate 7 (refine QG ?_ ?_;rotate_left)
  refine QF (λb3=>?_) (λb3=>?_);have hA:Qq K l.length ⟨p,t⟩=true:=by simpa using b1
  have hv:Q0 d E l ⟨p,t⟩=true:=by simpa using b2
  have ho:Jm (Qq K) d E rec l p s t = .stop s':=by unfold Jm KB;rw[hA,hv];exact hr
  have hrel:Y6 d E C K ac body rec l p (t,s) .ret (haF d E C K ac body (QD l) l):=by
   unfold Y6;simp only[step h,ho,and_self]
  have hb:=qE l d.ps.n p t hu;have hq:=qN l ⟨p,t⟩;clear next last step hr ho
  generalize QD (l++[⟨p,t⟩])=u2 at hb ⊢;generalize l++[⟨p,t⟩]=l2 at hpop hle hq ⊢;generalize hu1:QD l=u1 at hb hrel ⊢;refine⟨_,hrel,rfl,rfl,_,QcH d E C K ac body u2 u1 l l2 p,?_⟩
  rotate_left
  .cases b3
  have h:QX d p<=t:=by have:=qdf b0;omega
  refine⟨_,last h,rfl,rfl,_,QNp d E C K ac body (QD l) l p,?_⟩
  rotate_left
  all_goals first|((with_reducible show _=true);(first|rfl|exact qde hK|(refine Q7.2 ?_;repeat' first|with_reducible refine QO ?_ ?_|exact tv|with_reducible exact qRr|with_reducible exact hlen|with_reducible exact hlen.symm|with_reducible exact Nat.le_of_eq hlen|with_reducible exact qO l ⟨p,t⟩|with_reducible exact Wa l _ p t|exact rfl|refine aI ?_ ?_)|(rw[hw1];simp)|(simp;omega)))|(repeat' first|with_reducible refine QO ?_ ?_|exact tv|with_reducible exact qRr|with_reducible exact hw|with_reducible exact hpop|with_reducible exact hle|with_reducible exact hq|with_reducible exact hb|exact rfl|refine aI ?_ ?_)
def QDO(l:List Lay)(p:Nat):Prop:=∀ t,t<QX d p->∀ s,QR prog 103 (uFC (ZS d E C K ac body (l++[⟨p,t⟩]) s (rec (l++[⟨p,t⟩]) s)))
theorem Qfc{d:Puz}{E:ECt}{C:Cap}{K:Rw Pt}{ac body:Code}{rec:List Lay->Unit->QZ Unit}{l:List Lay}{p:Nat}(hd:KK d)(hE:WfE E)(hK:K.n<=1000)(hl:l.length<=1000)(hL:∀ y∈l,Q9 d y)(hp:p<d.ps.n)(IH:QDO d E C K ac body rec l p)(k:Nat×Unit):(vA prog d E C K ac body rec l p k).Sound:=by
 unfold vA Zp
 by_cases h:k.1<QX d p
 .rw[if_pos h];have h4:=(Zg d p).2;exact QN ((Qb.add (QBd d E l ⟨p,k.1⟩ hd hE hl hL ⟨⟨by show(0:Int)<=p;omega,by show(p:Int)<_;omega⟩,by show(0:Int)<=k.1;omega,by show(k.1:Int)<=3;omega⟩)).add (IH k.1 h k.2))
 .rw[if_neg h];exact QN ((Qb.add (Ja (by kernel_rfl) _)).add (Ja (by kernel_rfl) _))
def QAi(l:List Lay)(p:Nat)(s:Unit):List (Prop×Ex×JSt):=
 [((inA (Qq K) d E rec l p s).isGo=true,.exit 2,QBL d E C K ac body (QD l) l p),((inA (Qq K) d E rec l p s).isGo=false,.ret,haF d E C K ac body (QD l) l)]
theorem QWf{d:Puz}{E:ECt}{C:Cap}{K:Rw Pt}{ac body:Code}{rec:List Lay->Unit->QZ Unit}{l:List Lay}(hd:KK d)(hE:WfE E)(hK:K.n<=1000)(hl:l.length<=1000)(hL:∀ y∈l,Q9 d y)(p:Nat)(s:Unit)(IH:p<d.ps.n->QDO d E C K ac body rec l p)(G:Ctx)(hrd:G.rd=none)(hG:G.n<=416):
  Qx (mkE prog (qJ QP d l.length p)) G (QDL prog QP d E C K ac body (QD l) l p (QAi d E C K ac body rec l p s)) (QH f103 0):=by
 have hT:Qc (qJ QP d l.length p):=Qb.add (YP d l.length p);refine KR (body:=QY (QH f103 0)) (QN hT) hrd (by kernel_rfl) ?_
 refine JK λhp=>?_;have hu:=QD7 hp.2;have hEnv:=Qfc (ac:=ac) (body:=body) hd hE hK hl hL hp.1 (IH hp.1);refine Jp (E0:=mkE prog (qJ QP d l.length p)) (E:=vA prog d E C K ac body rec l p) (H:=λk=>hnd (vA prog d E C K ac body rec l p k) 0) (n0:=416) (s0:=(0,s)) (λ_=>rfl) hEnv hG (λk _=>Qu (hEnv k) 0 G _ hrd) (λk _=>(by decide:416<=440)) ?_ (QZN d E C K ac body rec l p hp.1 hd.n hK hl hu) (Nat.zero_le _) ?_
 .intro k e J hr;unfold Y6 at hr;split at hr<;>(rw[hr.2];exact(by decide:416<=440))
 .intro e J hr;unfold Y6 at hr;simp only[List.drop_zero]at hr;have hi:inA (Qq K) d E rec l p s=Qw (Jm (Qq K) d E rec l p) (List.range (QX d p)) s:=rfl;unfold QAi;rw[hi];cases hc:Qw (Jm (Qq K) d E rec l p) (List.range (QX d p)) s with
  | go s'=>
   rw[hc]at hr;exact⟨_,qmc,rfl,hr.1.symm,hr.2.symm⟩
  | stop s'=>
   rw[hc]at hr;exact⟨_,List.mem_cons_of_mem _ qmc,rfl,hr.1.symm,hr.2.symm⟩
def Xp(l:List Lay)(k:Nat×Unit)(e:Ex)(J:JSt):Prop:=match Qw (XM (Qq K) d E rec l) ((List.range d.ps.n).drop k.1) k.2 with
 | .go s'=>e = .exit 0/\J=HA d E C K ac body (QD l) l
 | .stop s'=>e = .ret/\J=haF d E C K ac body (QD l) l
set_option maxHeartbeats 1000000 in
theorem QYo(l:List Lay)(hn:d.ps.n<=1000):Jf (λk:Nat×Unit=>Ge d E C K ac body (QD l) l k.1) (λk=>k.1<=d.ps.n) (λk=>d.ps.n-k.1) (Xp d E C K ac body rec l) 416 QKw Zx (λk=>mkE prog (qJ QP d l.length k.1)) (λk=>QDL prog QP d E C K ac body (QD l) l k.1 (QAi d E C K ac body rec l k.1 k.2)) (QH f103 0):=by
 refine⟨λk g0 hk=>?_⟩;obtain⟨p,s⟩:=k;have hk:p<=d.ps.n:=hk;have wp:p<d.ps.n->i64.wrap ((p:Int)+1)=((p+1:Nat):Int):=λh=>Vj h hn;have step:=λh:p<d.ps.n=>Wc (f:=XM (Qq K) d E rec l) h s
 have next:p<d.ps.n->∀{s2:Unit},XM (Qq K) d E rec l s p = .go s2->∀ e J,Xp d E C K ac body rec l (p+1,s2) e J->Xp d E C K ac body rec l (p,s) e J:=by
  intro h s2 he e J hr;unfold Xp at hr ⊢;simp only at hr ⊢;rw[step h,he];exact hr
 have stop:p<d.ps.n->∀{s2:Unit},XM (Qq K) d E rec l s p = .stop s2->Xp d E C K ac body rec l (p,s) .ret (haF d E C K ac body (QD l) l):=by
  intro h s2 he;unfold Xp;simp only[step h,he,and_self]
 have last:d.ps.n<=p->Xp d E C K ac body rec l (p,s) (.exit 0) (HA d E C K ac body (QD l) l):=by
  intro h;unfold Xp;simp only[WH h,and_self]
 have hpz:KI l p=false->XM (Qq K) d E rec l s p=inA (Qq K) d E rec l p s:=λh=>by unfold XM;rw[h];rfl
 have hpu:KI l p=true->XM (Qq K) d E rec l s p = .go s:=λh=>by unfold XM;rw[h];rfl
 unfold QAi;simp only;cases hr:inA (Qq K) d E rec l p s with
 | go s'=>
  simp only[QZ.isGo,QZ.s,Bool.true_eq_false,Bool.false_eq_true];have et:=QJP QP d E C K ac body (QD l) (QD l) l p True False g0;refine Qe et ?_;clear et;refine QF (λb0=>?_) (λb0=>?_);have h:p<d.ps.n:=by have:=qdt b0;omega
  have hw:=wp h
  iterate 2 (refine QG ?_ ?_;rotate_left)
  refine QF (λb1=>?_) (λb1=>?_);have hub:KI l p=true:=VR.symm.trans b1;refine⟨(p+1,s),h,by show d.ps.n-(p+1)<d.ps.n-p;omega,next h (hpu hub),rfl,rfl,_,QJV d E C K ac body (QD l) l p (p+1),?_⟩
  rotate_left
  have hub:KI l p=false:=VR.symm.trans b1;have hu0:QD l p 0=0:=by unfold QD;rw[hub];rfl
  refine QG ?_ ?_;rotate_left
  iterate 82 refine Qp (by first|exact tv|exact⟨h,hu0⟩|with_reducible exact qRr|exact rfl) ?_
  refine Kb ?_ ?_;refine Qf λa0=>?_;refine Qh λg0=>?_;refine⟨(p+1,s'),h,by show d.ps.n-(p+1)<d.ps.n-p;omega,next h ((hpz hub).trans hr),rfl,rfl,_,Qan d E C K ac body (QD l) l p (p+1),?_⟩
  rotate_left
  refine Qf λa1=>?_;refine Qh λg1=>?_
  .exact a1.elim
  have h:d.ps.n<=p:=by have:=qdf b0;omega
  refine⟨_,last h,rfl,rfl,_,QOy d E C K ac body (QD l) l,?_⟩
  rotate_left
  all_goals first|((with_reducible show _=true);(first|(refine Q7.2 ?_;repeat' first|exact tv|with_reducible exact qRr|exact rfl|refine aI ?_ ?_)|(simp;omega)))|(repeat' first|with_reducible refine QO ?_ ?_|exact tv|with_reducible exact qRr|with_reducible exact hw|exact rfl|refine aI ?_ ?_)
 | stop s'=>
  simp only[QZ.isGo,QZ.s,Bool.true_eq_false,Bool.false_eq_true];have et:=QJP QP d E C K ac body (QD l) (QD l) l p False True g0;refine Qe et ?_;clear et;refine QF (λb0=>?_) (λb0=>?_);have h:p<d.ps.n:=by have:=qdt b0;omega
  have hw:=wp h
  iterate 2 (refine QG ?_ ?_;rotate_left)
  refine QF (λb1=>?_) (λb1=>?_);have hub:KI l p=true:=VR.symm.trans b1;refine⟨(p+1,s),h,by show d.ps.n-(p+1)<d.ps.n-p;omega,next h (hpu hub),rfl,rfl,_,QJV d E C K ac body (QD l) l p (p+1),?_⟩
  rotate_left
  have hub:KI l p=false:=VR.symm.trans b1;have hu0:QD l p 0=0:=by unfold QD;rw[hub];rfl
  refine QG ?_ ?_;rotate_left
  iterate 82 refine Qp (by first|exact tv|exact⟨h,hu0⟩|with_reducible exact qRr|exact rfl) ?_
  refine Kb ?_ ?_;refine Qf λa0=>?_;refine Qh λg0=>?_
  .exact a0.elim
  refine Qf λa1=>?_;refine Qh λg1=>?_;refine⟨_,stop h ((hpz hub).trans hr),rfl,rfl,_,QUQ d E C K ac body (QD l) l,?_⟩
  rotate_left
  have h:d.ps.n<=p:=by have:=qdf b0;omega
  refine⟨_,last h,rfl,rfl,_,QOy d E C K ac body (QD l) l,?_⟩
  rotate_left
  all_goals first|((with_reducible show _=true);(first|(refine Q7.2 ?_;repeat' first|exact tv|with_reducible exact qRr|exact rfl|refine aI ?_ ?_)|(simp;omega)))|(repeat' first|with_reducible refine QO ?_ ?_|exact tv|with_reducible exact qRr|with_reducible exact hw|exact rfl|refine aI ?_ ?_)
abbrev XG:Code:=(QL f53 0).1
abbrev XP:Code:=(QL f53 0).2
theorem QUt  :(haU d E C K ac body u l).Ok:=by
 refine⟨(by decide:392<=416),rfl,rfl,?_,rfl,λ_ _=>rfl,λnid h=>?_⟩
 .intro q hq;simp only[UC.po,haU,haW,rwY,rwU,List.mem_cons,List.not_mem_nil,or_false]at hq;rcases hq with rfl|rfl|rfl|rfl|rfl|rfl|rfl|rfl|rfl|rfl|rfl<;>refine⟨rfl,rfl,rfl,?_⟩<;>first|exact λ_=>rfl|exact λh=>absurd (show 416<392 from h) (by decide)|exact λh=>absurd (show 417<392 from h) (by decide)|exact λh=>absurd (show 418<392 from h) (by decide)|exact λh=>absurd (show 419<392 from h) (by decide)
 .have e0:=KW 392 416 0 nid (by decide)
  have e1:=KW 392 416 1 nid (by decide)
  simp only[UC.po,haU,haW,rwY,rwU,zy,haT,KT,Qi.val,List.cons_append,List.nil_append,List.map_cons,List.map_nil,Blk.mapId,AV.mapId,AV.mapIdL,Nat.add_zero]at e0 e1 ⊢;rw[e0,e1];rfl
theorem QKs  :(haV d E C K ac body u l).Ok:=by
 refine⟨(by decide:392<=416),rfl,rfl,?_,rfl,λ_ _=>rfl,λnid h=>?_⟩
 .intro q hq;simp only[UC.po,haV,haW,rwY,rwU,List.mem_cons,List.not_mem_nil,or_false]at hq;rcases hq with rfl|rfl|rfl|rfl|rfl|rfl|rfl|rfl|rfl|rfl|rfl<;>refine⟨rfl,rfl,rfl,?_⟩<;>first|exact λ_=>rfl|exact λh=>absurd (show 416<392 from h) (by decide)|exact λh=>absurd (show 417<392 from h) (by decide)|exact λh=>absurd (show 418<392 from h) (by decide)|exact λh=>absurd (show 419<392 from h) (by decide)
 .have e0:=KW 392 416 0 nid (by decide)
  have e1:=KW 392 416 1 nid (by decide)
  simp only[UC.po,haV,haW,rwY,rwU,zy,haT,KT,Qi.val,List.cons_append,List.nil_append,List.map_cons,List.map_nil,Blk.mapId,AV.mapId,AV.mapIdL,Nat.add_zero]at e0 e1 ⊢;rw[e0,e1];rfl
theorem QUF(T:Tab)(hT:Qc T)(G:Ctx)(hrd:G.rd=none):Qx (mkE prog T) G (haN prog T) (Qk f103):=
 KR (body:=QH f103 0) (QN hT) hrd (by kernel_rfl) (λ_ _ _ _ _ _ _ h _ _=>h.elim)
set_option maxHeartbeats 1000000 in
theorem QVR(hn:l.length=d.ps.n):QR prog 103 (uFC (haV d E C K XG XP (QD l) l)):=by
 have et:=QVf d E C K (QD l) l;have hlen:((l.length:Int)==(d.ps.n:Int))=true:=by rw[hn];simp
 refine Kw (E:=mkE prog QS) (QN Qb) func103 (by kernel_rfl) (by kernel_rfl) (QKs ..) (λG hG _=>QUF _ Qb G hG) ⟨?_⟩
 refine Qe et ?_;clear et;refine QF (λb0=>?_) (λb0=>?_);refine⟨rfl,rfl,_,Qeq d E C K (QD l) l,?_⟩
 rotate_left
 .exact Bool.noConfusion (hlen.symm.trans b0)
 all_goals (repeat' first|with_reducible refine QO ?_ ?_|exact tv|with_reducible exact qRr|exact rfl|refine aI ?_ ?_)
theorem QJO{d:Puz}{E:ECt}{C:Cap}{K:Rw Pt}{ac body:Code}{rec:List Lay->Unit->QZ Unit}{l:List Lay}(hd:KK d)(hE:WfE E)(hK:K.n<=1000)(hl:l.length<=1000)(hL:∀ y∈l,Q9 d y)(s:Unit)(IH:∀ p,p<d.ps.n->QDO d E C K ac body rec l p){X:List (Prop×Ex×JSt)}(hX:∀ e J,Xp d E C K ac body rec l (0,s) e J->∃ y∈X,y.1/\y.2.1=e/\y.2.2=J)(G:Ctx)(hrd:G.rd=none)(hG:G.n=416):
  Qx (mkE prog QS) G (haX prog (Ge d E C K ac body (QD l) l 0) X) (Qk f103):=by
 refine KR (body:=QH f103 0) (QN Qb) hrd (by kernel_rfl) ?_
 have hEnv:∀ k:Nat×Unit,(mkE prog (qJ QP d l.length k.1)).Sound:=λk=>QN (Qb.add (YP d l.length k.1));refine Jp (E0:=mkE prog QS) (E:=λk:Nat×Unit=>mkE prog (qJ QP d l.length k.1)) (H:=λk=>QDL prog QP d E C K ac body (QD l) l k.1 (QAi d E C K ac body rec l k.1 k.2)) (n0:=416) (s0:=(0,s)) (λ_=>rfl) hEnv (by omega) (λk _=>QWf hd hE hK hl hL k.1 k.2 (IH k.1) G hrd (by omega)) (λk _=>(by decide:416<=440)) ?_ (QYo d E C K ac body rec l hd.n) (Nat.zero_le _) hX
 intro k e J hr;unfold Xp at hr;split at hr<;>(rw[hr.2];exact(by decide:416<=440))
set_option maxHeartbeats 1000000 in
theorem QV5{d:Puz}{E:ECt}{C:Cap}{K:Rw Pt}(hd:KK d)(hE:WfE E)(hK:K.n<=1000){l:List Lay}(hk:l.length+(k+1)=d.ps.n)(hL:∀ y∈l,Q9 d y)(IH:∀ p,p<d.ps.n->QDO d E C K XG XP (onA (Qq K) d E Z5 k) l p)(s:Unit):QR prog 103 (uFC (ZS d E C K XG XP l s (onA (Qq K) d E Z5 (k+1) l s))):=by
 have hdn:=hd.n;have hr0:onA (Qq K) d E Z5 (k+1) l s=Qw (XM (Qq K) d E (onA (Qq K) d E Z5 k) l) (List.range d.ps.n) s:=rfl;rw[hr0];have hne:((l.length:Int)==(d.ps.n:Int))=false:=by rw[beq_eq_false_iff_ne];omega
 cases hc:Qw (XM (Qq K) d E (onA (Qq K) d E Z5 k) l) (List.range d.ps.n) s with
 | go s'=>
  simp only[ZS];have et:=QJf d E C K (QD l) (QD l) l True False;refine Kw (E:=mkE prog QS) (QN Qb) func103 (by kernel_rfl) (by kernel_rfl) (QUt ..) (QJO hd hE hK (by omega) hL s IH (X:=[(True,.exit 0,HA d E C K XG XP (QD l) l),(False,.ret,haF d E C K XG XP (QD l) l)]) ?_) ⟨?_⟩
  .intro e J hr;unfold Xp at hr;simp only[List.drop_zero,hc]at hr;exact⟨_,qmc,trivial,hr.1.symm,hr.2.symm⟩
  refine Qe et ?_;clear et;refine QF ?_ ?_<;>intro b0
  .exact Bool.noConfusion (hne.symm.trans b0)
  iterate 78 refine Qp (by first|exact tv|with_reducible exact qRr|exact rfl) ?_
  refine Kb ?_ ?_;refine Qf λa0=>?_;refine Qh λg0=>?_;refine⟨rfl,rfl,_,Qdd d E C K (QD l) (QD l) l,?_⟩
  rotate_left
  refine Qf λa1=>?_;refine Qh λg1=>?_
  .exact a1.elim
  all_goals (repeat' first|with_reducible refine QO ?_ ?_|exact tv|with_reducible exact qRr|exact rfl|refine aI ?_ ?_)
 | stop s'=>
  simp only[ZS];have et:=QJf d E C K (QD l) (QD l) l False True;refine Kw (E:=mkE prog QS) (QN Qb) func103 (by kernel_rfl) (by kernel_rfl) (QKs ..) (QJO hd hE hK (by omega) hL s IH (X:=[(False,.exit 0,HA d E C K XG XP (QD l) l),(True,.ret,haF d E C K XG XP (QD l) l)]) ?_) ⟨?_⟩
  .intro e J hr;unfold Xp at hr;simp only[List.drop_zero,hc]at hr;exact⟨_,List.mem_cons_of_mem _ qmc,trivial,hr.1.symm,hr.2.symm⟩
  refine Qe et ?_;clear et;refine QF ?_ ?_<;>intro b0
  .exact Bool.noConfusion (hne.symm.trans b0)
  iterate 78 refine Qp (by first|exact tv|with_reducible exact qRr|exact rfl) ?_
  refine Kb ?_ ?_;refine Qf λa0=>?_;refine Qh λg0=>?_
  .exact a0.elim
  refine Qf λa1=>?_;refine Qh λg1=>?_;refine⟨rfl,rfl,_,Qeo d E C K (QD l) (QD l) l,?_⟩
  rotate_left
  all_goals (repeat' first|with_reducible refine QO ?_ ?_|exact tv|with_reducible exact qRr|exact rfl|refine aI ?_ ?_)
theorem Qdo{d:Puz}{E:ECt}{C:Cap}{K:Rw Pt}(s:Unit)(hk:l.length=d.ps.n):QR prog 103 (uFC (ZS d E C K XG XP l s (onA (Qq K) d E Z5 0 l s))):=QVR d E C K l hk
theorem QfM{d:Puz}{E:ECt}{C:Cap}{K:Rw Pt}(hd:KK d)(hE:WfE E)(hK:K.n<=1000)(k:Nat):∀(l:List Lay) (s:Unit),l.length+k=d.ps.n->(∀ y∈l,Q9 d y)->QR prog 103 (uFC (ZS d E C K XG XP l s (onA (Qq K) d E Z5 k l s))):=by
 induction k with
 | zero=>exact λl s hk _=>Qdo l s hk
 | succ k ih=>
  intro l s hk hL;refine QV5 hd hE hK hk hL ?_ s;intro p hp t ht s;exact ih _ s (QBt l _ hk) (QDq hp ht hL)
def Wo(U:UC):Tab:=Qa QS 103 (KE pb U)
def bdL(a:Nat):Nat×Blk:=(200,.cells 0 152 (KT d++[.map 201,.slz a 0 0 (.of 0)]))
def hsU:UC:=⟨208,⟨2,[(0,.ptr 200 0 0),(1,(.slz 216 0 K.n C))],[bdL d 224,(201,.mp E.1 E.2),rwY 224 []]++Qi.blk 216 K++Qi.blk 0 d.ps,232⟩,λ_=>.bool false v,λm=>[bdL d m,(201,.mp E.1 E.2),rwY m []]⟩
abbrev wao:List Prop:=[0<=0,QB 2 0 (λi=>QA.enc ([].getD i (Lay.mk (0:Int) (0:Int)))) λi=>QA.enc ([].getD i (Lay.mk (0:Int) (0:Int)))]
abbrev wcb(E:ECt):List Prop:=[cO=cO,0=0,0=0,cO=cO,E.1=E.1,E.2=E.2]
abbrev QJb(E:ECt)(K:Rw Pt)(d:Puz)(u:Nat->Nat->Int):List Prop:=
  ((wb1)++waa d++((((wcb E)++wao++(wbO d++[QB 1 d.ps.n (λx x_1=>(0:Int)) u]))++wak++(([Array.mk [8]=Array.mk
  [8]]++wbE++(([0=0,0=0,0=0,K.n=K.n,C=C,0=0,0=0,0=0,0=0,0=0,K.n =
  K.n,C=C]++wcd++[false=false,Fn.func 103=Fn.func 103])++wb1++[0
  = 0,K.n=K.n,C=C,0=0,0=0]))++wa6 K))++wad d))
abbrev QDe(d:Puz):List (Nat×Blk):=
  [(200,.cells 0 152 (List.append (waf d) ([.map 201,.slz 416 0 0 cO]))),(201,.mp E.1 E.2),(0,.frz (wae) d.ps.n λi=>QA.enc (d.ps.get i)),(416,.rowz true 49 [.int .i64,.int
  .i64] 0 λi=>QA.enc ([].getD i (Lay.mk (0:Int) (0:Int))))]
theorem Qa8(v:Bool):VM (mkE prog (Wo pb (haU d E C K (QL f53 0).1 (QL f53 0).2 u []))) (hnd (mkE prog (Wo pb (haU d E C K (QL f53 0).1 (QL f53 0).2 u []))) 8) f53 (hsU d E C K v) = .need (decide ((d.ps.n:Int)=(d.ps.n:Int))&&decide ((0:Int)<=(d.ps.n:Int)/\(d.ps.n:Int)<=17179869184)) (.need (pb ((QJb C E K d u))) (.leaf (.bool true false) ((QDe E d)))):=by kernel_rfl
theorem Qbz(v:Bool):VM (mkE prog (Wo pb (haV d E C K (QL f53 0).1 (QL f53 0).2 u []))) (hnd (mkE prog (Wo pb (haV d E C K (QL f53 0).1 (QL f53 0).2 u []))) 8) f53 (hsU d E C K v) = .need (decide ((d.ps.n:Int)=(d.ps.n:Int))&&decide ((0:Int)<=(d.ps.n:Int)/\(d.ps.n:Int)<=17179869184)) (.need (pb ((QJb C E K d u))) (.leaf (.bool true true) ((QDe E d)))):=by kernel_rfl
abbrev QLi(d:Puz):List Prop:=
  ((waC d++([0=0,d.ps.n=d.ps.n]++wcb E))++wao)
theorem QVu :QE 232 [(.bool true false)] ((QDe E d)) (KQ (hsU d E C K v))=(some (([false=v]++wby d)++(QLi E d))):=by kernel_rfl
theorem QcZ :QE 232 [(.bool true true)] ((QDe E d)) (KQ (hsU d E C K v))=(some (([true=v]++wby d)++(QLi E d))):=by kernel_rfl
theorem QK9:(hsU d E C K v).Ok:=by
 refine⟨(by decide:208<=232),rfl,rfl,?_,rfl,λ_ _=>rfl,λnid h=>?_⟩
 .intro q hq;simp only[UC.po,hsU,bdL,rwY,List.mem_cons,List.not_mem_nil,or_false]at hq;rcases hq with rfl|rfl|rfl<;>refine⟨rfl,rfl,rfl,?_⟩<;>first|exact λ_=>rfl|exact λh=>absurd (show 232<208 from h) (by decide)
 .have e0:=KW 208 232 0 nid (by decide)
  simp only[UC.po,hsU,bdL,rwY,KT,Qi.val,List.cons_append,List.nil_append,List.map_cons,List.map_nil,Blk.mapId,AV.mapId,AV.mapIdL,Nat.add_zero]at e0 ⊢;rw[e0];rfl
def hsV(A:Int->Lay->Bool):Bool := !(onA A d E Z5 d.ps.n [] ()).isGo
theorem QFJ{d:Puz}{E:ECt}{K:Rw Pt}(hd:KK d)(hE:WfE E)(hK:K.n<=1000):QR prog 53 (uFC (hsU d E C K (hsV d E (Qq K)))):=by
 have hon:=QfM (C:=C) hd hE hK d.ps.n [] () (by simp) (λc hc=>by cases hc)
 have hdn:=hd.n;have hz:∀ k,QB 1 k (λ_ _=>0) (QD []):=λk i _=>⟨rfl,trivial⟩;cases he:onA (Qq K) d E Z5 d.ps.n [] ()with
 | go s=>
  rw[he]at hon;have hv:hsV d E (Qq K)=false:=by unfold hsV;rw[he];rfl
  rw[hv];have hT:Qc (Wo QP (haU d E C K XG XP (QD []) [])):=Qb.add hon;have et:=Qa8 QP d E C K (QD []) false;refine Kw (c:=Qk f53) (E:=mkE prog (Wo QP (haU d E C K XG XP (QD []) []))) (QN hT) func53 (by kernel_rfl) (by kernel_rfl) (QK9 ..) (λG h1 _=>Qu (QN hT) 8 G _ h1) ⟨?_⟩
  refine Qe et ?_;clear et
  iterate 2 (refine QG ?_ ?_;rotate_left)
  refine⟨rfl,rfl,_,QVu d E C K false,?_⟩
  rotate_left
  all_goals first|((with_reducible show _=true);(first|(refine Q7.2 ?_;repeat' first|with_reducible refine QO ?_ ?_|exact tv|with_reducible exact qRr|with_reducible exact hz _|exact rfl|refine aI ?_ ?_)|(simp;omega)))|(repeat' first|with_reducible refine QO ?_ ?_|exact tv|with_reducible exact qRr|exact rfl|refine aI ?_ ?_)
 | stop s=>
  rw[he]at hon;have hv:hsV d E (Qq K)=true:=by unfold hsV;rw[he];rfl
  rw[hv];have hT:Qc (Wo QP (haV d E C K XG XP (QD []) [])):=Qb.add hon;have et:=Qbz QP d E C K (QD []) true;refine Kw (c:=Qk f53) (E:=mkE prog (Wo QP (haV d E C K XG XP (QD []) []))) (QN hT) func53 (by kernel_rfl) (by kernel_rfl) (QK9 ..) (λG h1 _=>Qu (QN hT) 8 G _ h1) ⟨?_⟩
  refine Qe et ?_;clear et
  iterate 2 (refine QG ?_ ?_;rotate_left)
  refine⟨rfl,rfl,_,QcZ d E C K true,?_⟩
  rotate_left
  all_goals first|((with_reducible show _=true);(first|(refine Q7.2 ?_;repeat' first|with_reducible refine QO ?_ ?_|exact tv|with_reducible exact qRr|with_reducible exact hz _|exact rfl|refine aI ?_ ?_)|(simp;omega)))|(repeat' first|with_reducible refine QO ?_ ?_|exact tv|with_reducible exact qRr|exact rfl|refine aI ?_ ?_)
def jy(p:Int)(t:Nat):Rw Pt:=⟨1,λ_=>⟨c,⟨p,t⟩⟩⟩
def whB:List (Nat×Blk):=[bdL d 392,(201,.mp E.1 E.2),rwY 392 []]
def QPL(n:Nat)(p cells:Int)(c:Nat):List (Nat×AV):=[(1,.int false .i64 p),(4,.int false .i64 cells),(6,.ptr 200 0 0),(28,.int false .i64 n),(29,.int false .i64 c)]
def Yt(p cells:Int)(c:Nat):JSt:=⟨62,QPL d.ps.n p cells c,whB d E++Qi.blk 0 d.ps,400⟩
def vw(p cells:Int)(c:Nat)(tn:Int)(t:Nat):JSt:=⟨62,QPL d.ps.n p cells c++[(7,.int false .i64 c),(34,.int false .i64 tn),(35,.int false .i64 t)],whB d E++Qi.blk 0 d.ps,400⟩
def Gw:JSt:=⟨62,[(4,.int false .i64 cells)],[],400⟩
def QN9:Ex->List Nat
 | .normal=>[1,4,6,28,29]
 | .exit _=>[4]
 | .ret=>[]
def QLG:Ex->List Nat
 | .normal=>[1,4,6,28,29,7,34,35]
 | .exit _=>[1,4,6,28,29]
 | .ret=>[]
def QId:Tab:=Qa QS 53 (KE pb (hsU d E (.lit 1) K v))
abbrev QID(cells:Int):Int:=
  (↑(BitVec.ofInt 64 cells ||| BitVec.ofInt 64 (i64.wrap ((1:Int)*2^min c 64))).toNat:Int)
abbrev QJM:Nat×Blk:=
  (0,.frz (wae) d.ps.n λi=>QA.enc (d.ps.get i))
abbrev QCJ(d:Puz):List (Nat×Blk):=
  [(200,.cells 0 152 (List.append (waf d) ([.map 201,.slz 528 0 0 cO]))),(201,.mp E.1 E.2),(QJM d),(528,.rowz true 49 kB 0 λi=>QA.enc ([].getD i (Lay.mk (0:Int) (0:Int))))]
abbrev wb4(c:Nat)(d:Puz):List AV:=[.ptr 200 0 0,vi (d.ps.n:Int),vi (c:Int)]
abbrev QMX(cells:Int)(d:Puz)(p:Int)(t:Nat)(tn:Int):List AV:=
  (.nilp::.ptr 62 0 0::vi p::vi cells::List.append (wb4 c d) ([vi (c:Int),.int false .i64
  tn,vi (i64.wrap ((t:Int)+1))]))
abbrev jw(d:Puz):List (Nat×Blk):=
  [(200,.cells 0 152 (List.append (waf d) ([.map 201,.slz 392 0 0 cO]))),(201,.mp E.1 E.2),(QJM d),(392,.rowz true 49 kB 0 λi=>QA.enc ([].getD i (Lay.mk (0:Int) (0:Int))))]
theorem QZF(p cells:Int)(c:Nat)(tn:Int)(t:Nat)(g0:Nat->Value):exec (mkE prog (QId pb d E K v)) (hnd (mkE prog (QId pb d E K v)) 0) (QY (QH f17 0)) (JSt.inst (vw d E p cells c tn t) g0) (Q8 [200,201] QLG) = .br (decide ((t:Int)<tn)) (.need (decide ((0:Int)<=(c:Int))) (.br (i64.wrap (↑(BitVec.ofInt 64 (cells.fdiv ((2:Int)^min c 64)) &&& BitVec.ofInt 64 (1:Int)).toNat:Int)==0) (.need (pb (([0=0,0=0,0=0,1=K.n,Cap.lit 1=Cap.lit 1]++waa d++(((wcb E)++wao++[ja (wbA) [[vi (c:Int),vi p,vi (t:Int)]] K.n λi=>QA.enc (K.get i)])++wad d)))) (.br (v) (.need (decide ((0:Int)<=(c:Int))) (.leaf (.tup (.nilp::.ptr 62 0 0::vi p::vi (i64.wrap (QID c cells))::List.append (wb4 c d) ([vi (c:Int),vi tn,vi (i64.wrap ((t:Int)+1))]))) ((QCJ E d)))) (.leaf (.tup (QMX c cells d p t tn)) ((QCJ E d))))) (.leaf (.tup (QMX c cells d p t tn)) ((jw E d))))) (.leaf (.tup (.ptr 3 0 0::.ptr 62 0 0::vi p::vi cells::wb4 c d)) ((jw E d))):=by kernel_rfl
abbrev QG8(d:Puz):List Prop:=
  (waa d++(((wcb E)++wao)++wad d))
theorem QWD(p cells cells':Int)(c:Nat)(tn:Int)(t t':Nat):QE 112 (vi p::vi (i64.wrap (QID c cells))::List.append (wb4 c d) ([vi (c:Int),vi tn,vi (i64.wrap ((t:Int)+1))])) ((QCJ E d)) (vw d E p cells' c tn t')=(some ([p=p,i64.wrap (QID c cells)=cells',0=0,0=0,(d.ps.n:Int)=(d.ps.n:Int),(c:Int)=(c:Int),(c:Int)=(c:Int),tn=tn,i64.wrap ((t:Int)+1)=(t':Int)]++(QG8 E d))):=by kernel_rfl
abbrev QMx(cells:Int)(d:Puz)(p:Int)(t:Nat)(tn:Int):List AV:=
  (vi p::vi cells::List.append (wb4 c d) ([vi (c:Int),vi tn,.int false .i64
  (i64.wrap ((t:Int)+1))]))
abbrev QI9(cells:Int)(d:Puz)(p:Int)(t:Nat)(t':Nat)(tn:Int):List Prop:=
  ([p=p,cells=cells,0=0,0=0,(d.ps.n:Int)=(d.ps.n:Int),(c:Int)=(c:Int),(c:Int)=(c:Int),tn=tn,i64.wrap ((t:Int)+1)=(t':Int)]++waa d++(((wcb E)++wao)++wad d))
theorem QUm(p cells:Int)(c:Nat)(tn:Int)(t t':Nat):QE 112 (QMx c cells d p t tn) ((QCJ E d)) (vw d E p cells c tn t')=(some (QI9 E c cells d p t t' tn)):=by kernel_rfl
theorem Qdg(p cells:Int)(c:Nat)(tn:Int)(t t':Nat):QE 112 (QMx c cells d p t tn) ((jw E d)) (vw d E p cells c tn t')=(some (QI9 E c cells d p t t' tn)):=by kernel_rfl
theorem QVQ(p cells:Int)(c:Nat):QE 112 (vi p::vi cells::wb4 c d) ((jw E d)) (Yt d E p cells c)=(some ([p=p, cells=cells,0=0,0=0,(d.ps.n:Int)=(d.ps.n:Int),(c:Int)=(c:Int)]++(QG8 E d))):=by kernel_rfl
def WJ:Tab:=Qa QS 52 (KE pb (tnU d 0 p))
abbrev QEi(P:Program)(pb:List Prop->Bool)(d:Puz)(E:ECt)(p cells:Int)(c:Nat)(X:List (Prop×Ex×JSt)):Hnd:={ hnd (mkE P (WJ pb d p)) 0 with loop:=λ_=>Q4 112 [200,201] (vw d E p cells c (tnV d p) (0:Nat)) X }
theorem QXE(p cells cells':Int)(c:Nat)(g0:Nat->Value):exec (mkE prog (WJ pb d p)) (QEi prog pb d E p cells c [(True,.exit 3,Yt d E p cells' c)]) (QH f17 0) (JSt.inst (Yt d E p cells c) g0) (Q8 [200, 201] QN9) = .br (decide ((c:Int)<(d.ps.n:Int))) (.need (pb (([0=0,0=0,p=p]++waa d++([cO=cO,0=0,0=0,cO=cO]++wad d)))) (.ak ([p=p,cells=cells,0=0,0=0,(d.ps.n:Int)=(d.ps.n:Int),(c:Int)=(c:Int),(c:Int)=(c:Int),tnV d p=tnV d p,(0:Int)=0]++waa d++(((wcb E)++wao)++wad d)) (.asm (True) (.all (λ(g0:Nat->Value)=>.leaf (.tup [.nilp,.ptr 62 0 0,vi p,vi cells',.ptr 200 0 0,vi (d.ps.n:Int),vi (i64.wrap ((c:Int)+1))]) ((jw E d))))))) (.leaf (.tup [.ptr 1 0 0,.ptr 62 0 0,vi cells]) ((jw E d))):=by kernel_rfl
theorem QdA(p cells':Int)(c c':Nat):QE 112 [vi p,vi cells',.ptr 200 0 0,vi (d.ps.n:Int),vi (i64.wrap ((c:Int)+1))] ((jw E d)) (Yt d E p cells' c')=(some ([p=p,cells'=cells',0=0,0=0,(d.ps.n:Int)=(d.ps.n:Int),i64.wrap ((c:Int)+1)=(c':Int)]++(QG8 E d))):=by kernel_rfl
abbrev waD(d:Puz):List AV:=(List.append (wbK d) ([vi d.pK.dK.hi,vi d.wide,vi d.high]))
theorem QWy:QE 112 [vi cells] ([((200:Nat),Blk.cells (0:Nat) (152:Nat) (List.append (waD d) ([AV.bool false d.turn,AV.slz (0:Nat) (0:Nat) d.ps.n cO,AV.map (201:Nat),AV.slz (392:Nat) (0:Nat) (0:Nat) cO]))),((201:Nat),Blk.mp E.1 E.2),((0:Nat),Blk.frz [CK.int i64,CK.int i64,CK.int i64,CK.int i64,CK.int i64,CK.int i64,CK.int i64,CK.int i64,CK.int i64,CK.int i64,CK.int i64,CK.int i64,CK.int i64,CK.int i64,CK.int i64,CK.int i64,CK.int i64,CK.int i64,CK.int i64,CK.int i64,CK.int i64,CK.int i64,CK.int i64,CK.int i64,CK.int i64,CK.int i64,CK.int i64,CK.int i64] d.ps.n λi=>QA.enc (d.ps.get i)),((392:Nat),Blk.rowz true (49:Nat) [CK.int i64,CK.int i64] (0:Nat) λi=>QA.enc ([].getD i (Lay.mk (0:Int) (0:Int))))]) (Gw cells)=( some [cells=cells]):=by kernel_rfl
def QES:Bool:=i64.wrap (((BitVec.ofInt 64 (cells.fdiv (2^min (c:Int).toNat 64)) &&& BitVec.ofInt 64 1).toNat:Nat):Int)==0
def QCW:Int:=i64.wrap (((BitVec.ofInt 64 cells ||| BitVec.ofInt 64 (i64.wrap (1*2^min (c:Int).toNat 64))).toNat:Nat):Int)
def WC(cells:Int)(t:Nat):Int:=cond (QES cells c) (cond (hsV d E (Qq (jy c p t))) (QCW cells c) cells) cells
def ZQ(p cells:Int)(c:Nat):Int:=(List.range (tnV d p).toNat).foldl (WC d E p c) cells
def We:Int:=(List.range d.ps.n).foldl (ZQ d E p) 0
theorem QFy{σ:Type}{f:σ->Nat->σ}{n:Nat}(h:k<n)(s:σ):((List.range n).drop k).foldl f s=((List.range n).drop (k+1)).foldl f (f s k):=by
 have:(List.range n).drop k=k::(List.range n).drop (k+1):=by
  rw[List.drop_eq_getElem_cons (by simpa using h)]
  simp
 rw[this,List.foldl_cons]
theorem QFm{σ:Type}{f:σ->Nat->σ}{n:Nat}(h:n<=k)(s:σ):((List.range n).drop k).foldl f s=s:=by
 rw[List.drop_eq_nil_of_le (by simpa using h),List.foldl_nil]
theorem QZM:((tnV d p).toNat:Int)=tnV d p/\(tnV d p).toNat<=4:=by
 rcases QNF d p with h|h<;>rw[h]<;>decide
def zX(k:Nat×Int)(e:Ex)(J:JSt):Prop:=e = .exit 3/\J=Yt d E p (((List.range (tnV d p).toNat).drop k.1).foldl (WC d E p c) k.2) c
def QA7(P:Program)(d:Puz)(E:ECt)(p:Int)(c:Nat)(k:Nat×Int):Env:=mkE P (QId QP d E (jy c p k.1) (hsV d E (Qq (jy c p k.1))))
theorem Qb1(p:Int)(t:Nat):ja [.int .i64,.int .i64,.int .i64] [[.int false .i64 c,.int false .i64 p,.int false .i64 t]] (jy c p t).n λi=>QA.enc ((jy c p t).get i):=by
 refine⟨qlr 1,λi hi x hx r=>?_⟩;obtain rfl:i=0:=by have:i<1:=hi;omega
 simp only[List.getElem?_cons_zero,qsI]at hx;subst hx;rfl
theorem QWT:Jf (λk:Nat×Int=>vw d E p k.2 c (tnV d p) k.1) (λk=>k.1<=(tnV d p).toNat) (λk=>(tnV d p).toNat-k.1) (zX d E p c) 112 QLG [200,201] (QA7 prog d E p c) (λk=>hnd (QA7 prog d E p c k) 0) (QY (QH f17 0)):=by
 refine⟨λk g0 hk=>?_⟩;obtain⟨t,cells⟩:=k;have hk:t<=(tnV d p).toNat:=hk;obtain⟨ht1,ht4⟩:=QZM d p;have wt:t<(tnV d p).toNat->i64.wrap ((t:Int)+1)=((t+1:Nat):Int):=λh=>(w64 (by omega) (by omega)).trans (by omega)
 have next:t<(tnV d p).toNat->∀{s2:Int},WC d E p c cells t=s2->∀ e J,zX d E p c (t+1,s2) e J->zX d E p c (t,cells) e J:=by
  intro h s2 he e J hr;unfold zX at hr ⊢;simp only at hr ⊢;rw[QFy h,he];exact hr
 have last:(tnV d p).toNat<=t->zX d E p c (t,cells) (.exit 3) (Yt d E p cells c):=by
  intro h;unfold zX;simp only[QFm h,and_self]
 have et:=QZF QP d E (jy c p t) (hsV d E (Qq (jy c p t))) p cells c (tnV d p) t g0;refine Qe et ?_;clear et;refine QF (λb0=>?_) (λb0=>?_);have h:t<(tnV d p).toNat:=by have:=qdt b0;omega
 have hw:=wt h;refine QG ?_ ?_;rotate_left;refine QF (λb1=>?_) (λb1=>?_);refine QG ?_ ?_;rotate_left;refine QF (λb2=>?_) (λb2=>?_);refine QG ?_ ?_;rotate_left;have ho:WC d E p c cells t=QCW cells c:=by unfold WC;rw[show QES cells c=true from b1,b2];rfl
 refine⟨(t+1,QCW cells c),h,by show(tnV d p).toNat-(t+1)<(tnV d p).toNat-t;omega,next h ho,rfl,rfl,_,QWD d E p cells (QCW cells c) c (tnV d p) t (t+1),?_⟩
 rotate_left
 have ho:WC d E p c cells t=cells:=by unfold WC;rw[show QES cells c=true from b1,b2];rfl
 refine⟨(t+1,cells),h,by show(tnV d p).toNat-(t+1)<(tnV d p).toNat-t;omega,next h ho,rfl,rfl,_,QUm d E p cells c (tnV d p) t (t+1),?_⟩
 rotate_left
 have ho:WC d E p c cells t=cells:=by unfold WC;rw[show QES cells c=false from b1];rfl
 refine⟨(t+1,cells),h,by show(tnV d p).toNat-(t+1)<(tnV d p).toNat-t;omega,next h ho,rfl,rfl,_,Qdg d E p cells c (tnV d p) t (t+1),?_⟩
 rotate_left
 have h:(tnV d p).toNat<=t:=by have:=qdf b0;omega
 refine⟨_,last h,rfl,rfl,_,QVQ d E p cells c,?_⟩
 rotate_left
 all_goals first|((with_reducible show _=true);(first|(simp;done)|(refine Q7.2 ?_;repeat' first|with_reducible refine QO ?_ ?_|exact tv|with_reducible exact qRr|exact Qb1 c p t|exact rfl|refine aI ?_ ?_)|(simp;omega)))|(repeat' first|with_reducible refine QO ?_ ?_|exact tv|with_reducible exact qRr|exact hw|exact rfl|refine aI ?_ ?_)
theorem QV6{d:Puz}{E:ECt}(hd:KK d)(hE:WfE E)(p cells:Int)(c:Nat)(G:Ctx)(hrd:G.rd=none)(hG:G.n<=112):
  Qx (mkE prog (WJ QP d p)) G (QEi prog QP d E p cells c [(True,.exit 3,Yt d E p (ZQ d E p cells c) c)]) (QH f17 0):=by
 have hT:Qc (WJ QP d p):=Qb.add (YP d 0 p);refine KR (body:=QY (QH f17 0)) (QN hT) hrd (by kernel_rfl) ?_
 have hEnv:∀ k,(QA7 prog d E p c k).Sound:=λk=>QN (Qb.add (QFJ (.lit 1) hd hE (show(1:Nat)<=1000 by decide)))
 refine Jp (E0:=mkE prog (WJ QP d p)) (E:=QA7 prog d E p c) (H:=λk=>hnd (QA7 prog d E p c k) 0) (n0:=112) (s0:=(0,cells)) (λ_=>rfl) hEnv hG (λk _=>Qu (hEnv k) 0 G _ hrd) (λk _=>(by decide:112<=400)) ?_ (QWT d E p c) (Nat.zero_le _) ?_
 .rintro k e J ⟨_,rfl⟩;exact(by decide:112<=400)
 .rintro e J ⟨rfl,rfl⟩;exact⟨_,qmc,trivial,rfl,rfl⟩
def Gy(k:Nat×Int)(e:Ex)(J:JSt):Prop:=e = .exit 1/\J=Gw (((List.range d.ps.n).drop k.1).foldl (ZQ d E p) k.2)
theorem Qcm(hn:d.ps.n<=1000):Jf (λk:Nat×Int=>Yt d E p k.2 k.1) (λk=>k.1<=d.ps.n) (λk=>d.ps.n-k.1) (Gy d E p) 112 QN9 [200,201] (λ_=>mkE prog (WJ QP d p)) (λk=>QEi prog QP d E p k.2 k.1 [(True,.exit 3,Yt d E p (ZQ d E p k.2 k.1) k.1)]) (QH f17 0):=by
 refine⟨λk g0 hk=>?_⟩;obtain⟨c,cells⟩:=k;have hk:c<=d.ps.n:=hk;have wp:c<d.ps.n->i64.wrap ((c:Int)+1)=((c+1:Nat):Int):=λh=>Vj h hn
 have next:c<d.ps.n->∀ e J,Gy d E p (c+1,ZQ d E p cells c) e J->Gy d E p (c,cells) e J:=by
  intro h e J hr;unfold Gy at hr ⊢;simp only at hr ⊢;rw[QFy h];exact hr
 have last:d.ps.n<=c->Gy d E p (c,cells) (.exit 1) (Gw cells):=by
  intro h;unfold Gy;simp only[QFm h,and_self]
 have et:=QXE QP d E p cells (ZQ d E p cells c) c g0;refine Qe et ?_;clear et;refine QF (λb0=>?_) (λb0=>?_);have h:c<d.ps.n:=by have:=qdt b0;omega
 have hw:=wp h;refine QG ?_ ?_;rotate_left
 iterate 29 refine Qp (by first|exact tv|with_reducible exact qRr|exact rfl) ?_
 refine Qf λa0=>?_;refine Qh λg0=>?_;refine⟨(c+1,ZQ d E p cells c),h,by show d.ps.n-(c+1)<d.ps.n-c;omega,next h,rfl,rfl,_,QdA d E p (ZQ d E p cells c) c (c+1),?_⟩
 rotate_left
 have h:d.ps.n<=c:=by have:=qdf b0;omega
 refine⟨_,last h,rfl,rfl,_,QWy d E cells,?_⟩
 rotate_left
 all_goals first|((with_reducible show _=true);(first|(refine Q7.2 ?_;repeat' first|with_reducible refine QO ?_ ?_|exact tv|with_reducible exact qRr|exact rfl|refine aI ?_ ?_)|(simp;omega)))|(repeat' first|with_reducible refine QO ?_ ?_|exact tv|with_reducible exact qRr|exact hw|exact rfl|refine aI ?_ ?_)
