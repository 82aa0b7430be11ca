/- - -/
import Derived.Test.YtekbmehgcofnkaaGreatMze
import Derived.Test.YtekbmehgcofnkaaGreatMzf
open Go.Proofs.Tryz
open Go.IntKind (i64)
set_option maxRecDepth 100000
namespace Go.Proofs.YtekbmehgcofnkaaGreat
open Go.SX Go.SX.Told
theorem QKj{σ α:Type}(f:σ->α->QZ σ):∀(a b:List α) (s:σ),Qz f (a++b) s=match Qz f a s with
  | .go s'=>Qz f b s'
  | .stop s' => .stop s'
 | [],_,_=>rfl
 | x::a,b,s=>by
  simp only[List.cons_append,Qz];cases f s x with
  | go s'=>exact QKj f a b s'
  | stop s'=>rfl
variable {σ:Type}{p:Nat}(d:Puz)(E:ECt)(f g:List Lay)(ac body:Code)(u:Nat->Nat->Int)(l:List Lay)(rec:List Lay->SoS->QZ SoS)(many':Int)(f' g':List Lay)
theorem QEN{α:Type}{f g:σ->α->QZ σ}{l:List α}(h:∀ s,∀ a∈l,f s a=g s a)(s:σ):Qz f l s=Qz g l s:=by
 induction l generalizing s with
 | nil=>rfl
 | cons a l ih=>
  simp only[Qz,h s a qmc];cases g s a with
  | go s'=>exact ih (λs b hb=>h s b (List.mem_cons_of_mem _ hb)) s'
  | stop s'=>rfl
theorem QXA{α:Type}{f:σ->α->QZ σ}{l:List α}(h:∀ s,∀ a∈l,f s a = .go s)(s:σ):Qz f l s = .go s:=by
 induction l generalizing s with
 | nil=>rfl
 | cons a l ih=>
  simp only[Qz,h s a qmc];exact ih (λs b hb=>h s b (List.mem_cons_of_mem _ hb)) s
theorem QI2{σ α β:Type}(f:σ->β->QZ σ)(g:α->List β):∀(l:List α) (s:σ),Qz f (l.flatMap g) s=Qz (λs a=>Qz f (g a) s) l s
 | [],_=>rfl
 | a::l,s=>by
  rw[List.flatMap_cons,QKj];simp only[Qz];cases Qz f (g a) s with
  | go s'=>exact QI2 f g l s'
  | stop s'=>rfl
theorem QKY{σ α β:Type}(f:σ->β->QZ σ)(g:α->β):∀(l:List α) (s:σ),Qz f (l.map g) s=Qz (λs a=>f s (g a)) l s
 | [],_=>rfl
 | a::l,s=>by
  simp only[List.map_cons,Qz];cases f s (g a)with
  | go s'=>exact QKY f g l s'
  | stop s'=>rfl
def QSe:List Lay:=(List.range d.ps.n).flatMap λp=>(List.range (QY d p)).map λt:Nat=>(⟨(p:Int),(t:Int)⟩:Lay)
def QHl(x:Lay):Bool:=l.any λy=>y.piece==x.piece
def QDd(A:Int->Lay->Bool)(d:Puz)(E:ECt)(l:List Lay)(x:Lay):Bool := !QHl l x&&(A l.length x&&Q0 d E l x)
def QEK(A:Int->Lay->Bool)(d:Puz)(E:ECt)(k:Nat)(l:List Lay):List (List Lay):=QBu (λ_=>QSe d) (QDd A d E) (λ_=>true) k l
def QQB(_:Int)(_:Lay):Bool:=true
theorem QNw{σ:Type}(A:Int->Lay->Bool)(d:Puz)(E:ECt)(Y:List Lay->σ->QZ σ):∀(k:Nat) (l:List Lay) (s:σ),onA A d E Y k l s=Qz (λs l=>Y l s) (QEK A d E k l) s
 | 0,l,s=>by
  simp only[onA,QEK,QBu,cond_true,Qz];cases Y l s<;>rfl
 | k+1,l,s=>by
  simp only[QEK,QBu];rw[QI2];unfold QSe;rw[QI2,onA];refine QEN (λs p _=>?_) s;unfold XP;rw[QKY];cases hu:KG l p with
  | true=>
   rw[cond_true];refine(QXA (λs t _=>?_) s).symm
   have:QDd A d E l ⟨(p:Int),(t:Int)⟩=false:=by
    unfold QDd;rw[show QHl l ⟨(p:Int),(t:Int)⟩=true from hu];rfl
   rw[this];rfl
  | false=>
   rw[cond_false];unfold inA;refine QEN (λs t _=>?_) s;unfold Jp KA QDd;rw[show QHl l ⟨(p:Int),(t:Int)⟩=false from hu];cases A l.length ⟨(p:Int),(t:Int)⟩with
   | false=>rfl
   | true=>
    cases Q0 d E l ⟨(p:Int),(t:Int)⟩with
    | false=>rfl
    | true=>
     have:=QNw A d E Y k (l++[⟨(p:Int),(t:Int)⟩]) s;simp only[cond_true,Bool.not_false,Bool.true_and]at this ⊢;rw[this];rfl
theorem QOB{σ:Type}(d:Puz)(E:ECt)(Y:List Lay->σ->QZ σ):∀(k:Nat) (l:List Lay) (s:σ),onY d E Y k l s=onA QQB d E Y k l s
 | 0,_,_=>rfl
 | k+1,l,s=>by
  rw[onY,onA];refine QEN (λs p _=>?_) s;unfold Km XP inZ inA;cases KG l p with
  | true=>rfl
  | false=>
   simp only[cond_false];refine QEN (λs t _=>?_) s;unfold Jp KA;rw[QOB d E Y k];rfl
def HT:List (List Lay):=QEK QQB d E d.ps.n []
theorem QdT(Y:List Lay->σ->QZ σ)(s:σ):onY d E Y d.ps.n [] s=Qz (λs l=>Y l s) (HT d E) s:=by
 rw[QOB,QNw];rfl
theorem Zo(p:Nat):(QY d p:Int)=tnV d p/\QY d p<=4:=by
 unfold QY;rcases QPz d p with h|h<;>rw[h]<;>decide
set_option maxHeartbeats 1000000 in
theorem QVT(l:List Lay)(p:Nat)(hp:p<d.ps.n)(hn:d.ps.n<=1000)(hl:l.length<=1000)(hu:KG l p=false):Jd (λk:Nat×SoS=>G3 d E ac body (QD l) l k.2.1 k.2.2.1 k.2.2.2 p (tnV d p) k.1) (λk=>k.1<=QY d p) (λk=>QY d p-k.1) (Y0 d E ac body rec l p) 464 QIj Z2 (jS prog d E ac body rec l p) (λk=>hnd (jS prog d E ac body rec l p k) 0) (QS (QJ f103 0)):=by
 refine⟨λk g0 hk=>?_⟩;obtain⟨t,many,f,g⟩:=k;have hk:t<=QY d p:=hk;obtain⟨ht1,ht4⟩:=Zo d p;have hlen:(l++[(⟨p,t⟩:Lay)]).length=l.length+1:=by rw[List.length_append,List.length_singleton]
 have hw1:i64.wrap (((l++[(⟨p,t⟩:Lay)]).length:Int)-1)=l.length:=(w64 (by omega) (by omega)).trans (by omega)
 have hpop:(i64.wrap (((l++[(⟨p,t⟩:Lay)]).length:Int)-1)).toNat=l.length:=by rw[hw1];exact Int.toNat_natCast _
 have hle:l.length<=(l++[(⟨p,t⟩:Lay)]).length:=by omega
 have hpb:t<QY d p->Zl d p t=QO:=λh=>by unfold Zl;rw[if_pos h]
 have wt:t<QY d p->i64.wrap ((t:Int)+1)=((t+1:Nat):Int):=λh=>(w64 (by omega) (by omega)).trans (by omega)
 have step:=λh:t<QY d p=>Wp (f:=KA d E rec l p) h (many,f,g);unfold jS;simp only
 have next:t<QY d p->∀{s2:SoS},KA d E rec l p (many,f,g) t = .go s2->∀ e J,Y0 d E ac body rec l p (t+1,s2) e J->Y0 d E ac body rec l p (t,many,f,g) e J:=by
  intro h s2 he e J hr;unfold Y0 at hr ⊢;simp only at hr ⊢;rw[step h,he];exact hr
 have last:QY d p<=t->Y0 d E ac body rec l p (t,many,f,g) (.exit 2) (QAv d E ac body (QD l) l many f g p):=by
  intro h;unfold Y0;simp only[Wz h,and_self]
 cases hr:rec (l++[⟨p,t⟩]) (many,f,g)with
 | go s'=>
  obtain⟨many',f',g'⟩:=s';simp only[YM];have et:=QXz (Zl d p t) (Zl d p t) d E ac body (QD l) (QD (l++[⟨p,t⟩])) l (l++[⟨p,t⟩]) (Q0 d E l ⟨p,t⟩) many f g p (tnV d p) t many' f' g' g0;refine Qf et ?_;clear et;refine QF (λb0=>?_) (λb0=>?_);have h:t<QY d p:=by have:=qdt b0;omega
  rw[hpb h];have hw:=wt h;refine QH ?_ ?_;rotate_left;refine QF ?_ ?_<;>intro b1
  .exact Bool.noConfusion (show false=true from b1)
  refine QH ?_ ?_;rotate_left;refine QF (λb2=>?_) (λb2=>?_);have hv:Q0 d E l ⟨p,t⟩=false:=by simpa using b2
  have ho:KA d E rec l p (many,f,g) t = .go (many,f,g):=by unfold KA;rw[hv];rfl
  refine⟨(t+1,many,f,g),h,by show QY d p-(t+1)<QY d p-t;omega,next h ho,rfl,rfl,_,QO3 d E ac body (QD l) l many f g p (tnV d p) t (t+1),?_⟩
  rotate_left
  iterate 7 (refine QH ?_ ?_;rotate_left)
  refine QF ?_ ?_<;>intro b3
  .cases b3
  have hv:Q0 d E l ⟨p,t⟩=true:=by simpa using b2
  have ho:KA d E rec l p (many,f,g) t = .go (many',f',g'):=by unfold KA;rw[hv];exact hr
  have hb:=Wt l d.ps.n p t hu;have hq:=qU l ⟨p,t⟩;have hnx:=next h ho
  clear next last step hr ho
  generalize QD (l++[⟨p,t⟩])=u2 at hb ⊢;generalize l++[⟨p,t⟩]=l2 at hpop hle hq ⊢;generalize hu1:QD l=u1 at hb ⊢;refine⟨(t+1,many',f',g'),h,by show QY d p-(t+1)<QY d p-t;omega,hnx,rfl,rfl,_,QSl d E ac body u1 u2 u1 l l2 p (tnV d p) t (t+1) many' f' g',?_⟩
  rotate_left
  have h:QY d p<=t:=by have:=qdf b0;omega
  refine⟨_,last h,rfl,rfl,_,QKr d E ac body (QD l) l many f g p,?_⟩
  rotate_left
  all_goals first|((with_reducible show _=true);(first|rfl|(refine Q6.2 ?_;repeat' first|with_reducible refine QP ?_ ?_|exact tv|with_reducible exact qRr|with_reducible exact hlen|with_reducible exact hlen.symm|with_reducible exact Nat.le_of_eq hlen|with_reducible exact WC l ⟨p,t⟩|with_reducible exact Wr l _ p t|exact rfl|refine aI ?_ ?_)|(rw[hw1];simp)|(simp;omega)))|(repeat' first|with_reducible refine QP ?_ ?_|exact tv|with_reducible exact qRr|with_reducible exact hw|with_reducible exact hpop|with_reducible exact hle|with_reducible exact hq|with_reducible exact hb|exact rfl|refine aI ?_ ?_)
 | stop s'=>
  obtain⟨many',f',g'⟩:=s';simp only[YM];have et:=Qfk (Zl d p t) (Zl d p t) d E ac body (QD l) (QD (l++[⟨p,t⟩])) l (l++[⟨p,t⟩]) (Q0 d E l ⟨p,t⟩) many f g p (tnV d p) t many' f' g' g0;refine Qf et ?_;clear et;refine QF (λb0=>?_) (λb0=>?_);have h:t<QY d p:=by have:=qdt b0;omega
  rw[hpb h];have hw:=wt h;refine QH ?_ ?_;rotate_left;refine QF ?_ ?_<;>intro b1
  .exact Bool.noConfusion (show false=true from b1)
  refine QH ?_ ?_;rotate_left;refine QF (λb2=>?_) (λb2=>?_);have hv:Q0 d E l ⟨p,t⟩=false:=by simpa using b2
  have ho:KA d E rec l p (many,f,g) t = .go (many,f,g):=by unfold KA;rw[hv];rfl
  refine⟨(t+1,many,f,g),h,by show QY d p-(t+1)<QY d p-t;omega,next h ho,rfl,rfl,_,QO3 d E ac body (QD l) l many f g p (tnV d p) t (t+1),?_⟩
  rotate_left
  iterate 7 (refine QH ?_ ?_;rotate_left)
  refine QF (λb3=>?_) (λb3=>?_);have hv:Q0 d E l ⟨p,t⟩=true:=by simpa using b2
  have ho:KA d E rec l p (many,f,g) t = .stop (many',f',g'):=by unfold KA;rw[hv];exact hr
  have hrel:Y0 d E ac body rec l p (t,many,f,g) .ret (soF d E ac body (QD l) l many' f' g'):=by
   unfold Y0;simp only[step h,ho,and_self]
  have hb:=Wt l d.ps.n p t hu;have hq:=qU l ⟨p,t⟩;clear next last step hr ho
  generalize QD (l++[⟨p,t⟩])=u2 at hb ⊢;generalize l++[⟨p,t⟩]=l2 at hpop hle hq ⊢;generalize hu1:QD l=u1 at hb hrel ⊢;refine⟨_,hrel,rfl,rfl,_,QVe d E ac body u2 u1 l l2 p many' f' g',?_⟩
  rotate_left
  .cases b3
  have h:QY d p<=t:=by have:=qdf b0;omega
  refine⟨_,last h,rfl,rfl,_,QKr d E ac body (QD l) l many f g p,?_⟩
  rotate_left
  all_goals first|((with_reducible show _=true);(first|rfl|(refine Q6.2 ?_;repeat' first|with_reducible refine QP ?_ ?_|exact tv|with_reducible exact qRr|with_reducible exact hlen|with_reducible exact hlen.symm|with_reducible exact Nat.le_of_eq hlen|with_reducible exact WC l ⟨p,t⟩|with_reducible exact Wr l _ p t|exact rfl|refine aI ?_ ?_)|(rw[hw1];simp)|(simp;omega)))|(repeat' first|with_reducible refine QP ?_ ?_|exact tv|with_reducible exact qRr|with_reducible exact hw|with_reducible exact hpop|with_reducible exact hle|with_reducible exact hq|with_reducible exact hb|exact rfl|refine aI ?_ ?_)
def QZ.s{σ:Type}:QZ σ->σ
 | .go s=>s
 | .stop s=>s
def QZ.isGo:QZ σ->Bool
 | .go _=>true
 | .stop _=>false
def QDG(l:List Lay)(p:Nat):Prop:=∀ t,t<QY d p->∀ s,QR prog 103 (uFC (YM d E ac body (l++[⟨p,t⟩]) s (rec (l++[⟨p,t⟩]) s)))
theorem QVO{d:Puz}{E:ECt}{ac body:Code}{rec:List Lay->SoS->QZ SoS}{l:List Lay}(hd:KI d)(hE:WfE E)(hl:l.length<=1000)(hL:∀ y∈l,KC d y)(hp:p<d.ps.n)(IH:QDG d E ac body rec l p)(k:Nat×SoS):(jS prog d E ac body rec l p k).Sound:=by
 unfold jS Zl
 by_cases h:k.1<QY d p
 .rw[if_pos h];have h4:=(Zo d p).2;exact QQ ((Qd.add (QCK d E l ⟨p,k.1⟩ hd hE hl hL ⟨⟨by show(0:Int)<=p;omega,by show(p:Int)<_;omega⟩,by show(0:Int)<=k.1;omega,by show(k.1:Int)<=3;omega⟩)).add (IH k.1 h k.2))
 .rw[if_neg h];exact QQ ((Qd.add (JY (by kernel_rfl) _)).add (JY (by kernel_rfl) _))
def QBN(l:List Lay)(p:Nat)(s:SoS):List (Prop×Ex×JSt):=
 [((inZ d E rec l p s).isGo=true,.exit 2,QAv d E ac body (QD l) l (inZ d E rec l p s).s.1 (inZ d E rec l p s).s.2.1 (inZ d E rec l p s).s.2.2 p),((inZ d E rec l p s).isGo=false,.ret,soF d E ac body (QD l) l (inZ d E rec l p s).s.1 (inZ d E rec l p s).s.2.1 (inZ d E rec l p s).s.2.2)]
theorem QEd{l:List Lay}(h:QD l p 0=0):KG l p=false:=by
 unfold QD at h;cases hb:KG l p with
 | false=>rfl
 | true=>rw[hb]at h;cases h
theorem QWr{d:Puz}{E:ECt}{ac body:Code}{rec:List Lay->SoS->QZ SoS}{l:List Lay}(hd:KI d)(hE:WfE E)(hl:l.length<=1000)(hL:∀ y∈l,KC d y)(p:Nat)(s:SoS)(IH:p<d.ps.n->QDG d E ac body rec l p)(G:Ctx)(hrd:G.rd=none)(hG:G.n<=464):
  Qu (mkE prog (W5 QO d l.length p)) G (QDt prog QO d E ac body (QD l) l s.1 s.2.1 s.2.2 p (QBN d E ac body rec l p s)) (QJ f103 0):=by
 have hT:Qe (W5 QO d l.length p):=Qd.add (YL d l.length p);refine KM (body:=QS (QJ f103 0)) (QQ hT) hrd (by kernel_rfl) ?_
 refine Jm λhp=>?_;have hu:=QEd hp.2;have hEnv:=QVO (ac:=ac) (body:=body) hd hE hl hL hp.1 (IH hp.1);refine Jt (E0:=mkE prog (W5 QO d l.length p)) (E:=jS prog d E ac body rec l p) (H:=λk=>hnd (jS prog d E ac body rec l p k) 0) (n0:=464) (s0:=(0,s)) (λ_=>rfl) hEnv hG (λk _=>Q1 (hEnv k) 0 G _ hrd) (λk _=>(by decide:464<=504)) ?_ (QVT d E ac body rec l p hp.1 hd.n hl hu) (Nat.zero_le _) ?_
 .intro k e J hr;unfold Y0 at hr;split at hr<;>(rw[hr.2];exact(by decide:464<=504))
 .intro e J hr;unfold Y0 at hr;simp only[List.drop_zero]at hr;have hi:inZ d E rec l p s=Qz (KA d E rec l p) (List.range (QY d p)) s:=rfl;unfold QBN;rw[hi];cases hc:Qz (KA d E rec l p) (List.range (QY d p)) s with
  | go s'=>
   rw[hc]at hr;exact⟨_,qmc,rfl,hr.1.symm,hr.2.symm⟩
  | stop s'=>
   rw[hc]at hr;exact⟨_,List.mem_cons_of_mem _ qmc,rfl,hr.1.symm,hr.2.symm⟩
def YC(l:List Lay)(k:Nat×SoS)(e:Ex)(J:JSt):Prop:=match Qz (Km d E rec l) ((List.range d.ps.n).drop k.1) k.2 with
 | .go s'=>e = .exit 0/\J=GK d E ac body (QD l) l s'.1 s'.2.1 s'.2.2
 | .stop s'=>e = .ret/\J=soF d E ac body (QD l) l s'.1 s'.2.1 s'.2.2
theorem Vd{l:List Lay}:decide (QD l ((p:Int).toNat+0) 0=1)=KG l p:=by
 show decide (cond (KG l p) (1:Int) 0=1)=KG l p;cases KG l p<;>rfl
set_option maxHeartbeats 1000000 in
theorem QZv(l:List Lay)(hn:d.ps.n<=1000):Jd (λk:Nat×SoS=>GO d E ac body (QD l) l k.2.1 k.2.2.1 k.2.2.2 k.1) (λk=>k.1<=d.ps.n) (λk=>d.ps.n-k.1) (YC d E ac body rec l) 464 QRP Z2 (λk=>mkE prog (W5 QO d l.length k.1)) (λk=>QDt prog QO d E ac body (QD l) l k.2.1 k.2.2.1 k.2.2.2 k.1 (QBN d E ac body rec l k.1 k.2)) (QJ f103 0):=by
 refine⟨λk g0 hk=>?_⟩;obtain⟨p,many,f,g⟩:=k;have hk:p<=d.ps.n:=hk;have wp:p<d.ps.n->i64.wrap ((p:Int)+1)=((p+1:Nat):Int):=λh=>Ju h hn;have step:=λh:p<d.ps.n=>Wp (f:=Km d E rec l) h (many,f,g)
 have next:p<d.ps.n->∀{s2:SoS},Km d E rec l (many,f,g) p = .go s2->∀ e J,YC d E ac body rec l (p+1,s2) e J->YC d E ac body rec l (p,many,f,g) e J:=by
  intro h s2 he e J hr;unfold YC at hr ⊢;simp only at hr ⊢;rw[step h,he];exact hr
 have stop:p<d.ps.n->∀{s2:SoS},Km d E rec l (many,f,g) p = .stop s2->YC d E ac body rec l (p,many,f,g) .ret (soF d E ac body (QD l) l s2.1 s2.2.1 s2.2.2):=by
  intro h s2 he;unfold YC;simp only[step h,he,and_self]
 have last:d.ps.n<=p->YC d E ac body rec l (p,many,f,g) (.exit 0) (GK d E ac body (QD l) l many f g):=by
  intro h;unfold YC;simp only[Wz h,and_self]
 have hpz:KG l p=false->Km d E rec l (many,f,g) p=inZ d E rec l p (many,f,g):=λh=>by unfold Km;rw[h];rfl
 have hpu:KG l p=true->Km d E rec l (many,f,g) p = .go (many,f,g):=λh=>by unfold Km;rw[h];rfl
 unfold QBN;simp only;cases hr:inZ d E rec l p (many,f,g)with
 | go s'=>
  obtain⟨many',f',g'⟩:=s';simp only[QZ.isGo,QZ.s,Bool.true_eq_false,Bool.false_eq_true];have et:=QMQ QO d E ac body (QD l) (QD l) l many f g p True False many' f' g' g0;refine Qf et ?_;clear et;refine QF (λb0=>?_) (λb0=>?_);have h:p<d.ps.n:=by have:=qdt b0;omega
  have hw:=wp h
  iterate 2 (refine QH ?_ ?_;rotate_left)
  refine QF (λb1=>?_) (λb1=>?_);have hub:KG l p=true:=Vd.symm.trans b1;refine⟨(p+1,many,f,g),h,by show d.ps.n-(p+1)<d.ps.n-p;omega,next h (hpu hub),rfl,rfl,_,QRQ d E ac body (QD l) l many f g p (p+1),?_⟩
  rotate_left
  have hub:KG l p=false:=Vd.symm.trans b1;have hu0:QD l p 0=0:=by unfold QD;rw[hub];rfl
  refine QH ?_ ?_;rotate_left
  iterate 132 refine Qt (by first|exact tv|exact⟨h,hu0⟩|with_reducible exact qRr|exact rfl) ?_
  refine Kl ?_ ?_;refine Qj λa0=>?_;refine Qk λg0=>?_;refine⟨(p+1,many',f',g'),h,by show d.ps.n-(p+1)<d.ps.n-p;omega,next h ((hpz hub).trans hr),rfl,rfl,_,QTv d E ac body (QD l) l p (p+1) many' f' g',?_⟩
  rotate_left
  refine Qj λa1=>?_;refine Qk λg1=>?_
  .exact a1.elim
  have h:d.ps.n<=p:=by have:=qdf b0;omega
  refine⟨_,last h,rfl,rfl,_,QNu d E ac body (QD l) l many f g,?_⟩
  rotate_left
  all_goals first|((with_reducible show _=true);(first|(refine Q6.2 ?_;repeat' first|exact tv|with_reducible exact qRr|exact rfl|refine aI ?_ ?_)|(simp;omega)))|(repeat' first|with_reducible refine QP ?_ ?_|exact tv|with_reducible exact qRr|with_reducible exact hw|exact rfl|refine aI ?_ ?_)
 | stop s'=>
  obtain⟨many',f',g'⟩:=s';simp only[QZ.isGo,QZ.s,Bool.true_eq_false,Bool.false_eq_true];have et:=QMQ QO d E ac body (QD l) (QD l) l many f g p False True many' f' g' g0;refine Qf et ?_;clear et;refine QF (λb0=>?_) (λb0=>?_);have h:p<d.ps.n:=by have:=qdt b0;omega
  have hw:=wp h
  iterate 2 (refine QH ?_ ?_;rotate_left)
  refine QF (λb1=>?_) (λb1=>?_);have hub:KG l p=true:=Vd.symm.trans b1;refine⟨(p+1,many,f,g),h,by show d.ps.n-(p+1)<d.ps.n-p;omega,next h (hpu hub),rfl,rfl,_,QRQ d E ac body (QD l) l many f g p (p+1),?_⟩
  rotate_left
  have hub:KG l p=false:=Vd.symm.trans b1;have hu0:QD l p 0=0:=by unfold QD;rw[hub];rfl
  refine QH ?_ ?_;rotate_left
  iterate 132 refine Qt (by first|exact tv|exact⟨h,hu0⟩|with_reducible exact qRr|exact rfl) ?_
  refine Kl ?_ ?_;refine Qj λa0=>?_;refine Qk λg0=>?_
  .exact a0.elim
  refine Qj λa1=>?_;refine Qk λg1=>?_;refine⟨_,stop h ((hpz hub).trans hr),rfl,rfl,_,QW6 d E ac body (QD l) l many' f' g',?_⟩
  rotate_left
  have h:d.ps.n<=p:=by have:=qdf b0;omega
  refine⟨_,last h,rfl,rfl,_,QNu d E ac body (QD l) l many f g,?_⟩
  rotate_left
  all_goals first|((with_reducible show _=true);(first|(refine Q6.2 ?_;repeat' first|exact tv|with_reducible exact qRr|exact rfl|refine aI ?_ ?_)|(simp;omega)))|(repeat' first|with_reducible refine QP ?_ ?_|exact tv|with_reducible exact qRr|with_reducible exact hw|exact rfl|refine aI ?_ ?_)
noncomputable abbrev J1:Code:=(QN f24 0).1
noncomputable abbrev J5:Code:=(QN f24 0).2
theorem QJg(many:Int)(f g:List Lay)(many':Int)(f' g':List Lay):(J3 d E ac body u l many f g many' f' g').Ok:=by
 refine⟨(by decide:424<=464),rfl,rfl,?_,rfl,λ_ _=>rfl,λnid h=>?_⟩
 .intro q hq;simp only[UC.po,J3,YI,rwY,rwU,List.mem_cons,List.not_mem_nil,or_false]at hq;rcases hq with rfl|rfl|rfl|rfl|rfl|rfl|rfl|rfl|rfl|rfl|rfl<;>refine⟨rfl,rfl,rfl,?_⟩<;>first|exact λ_=>rfl|exact λh=>absurd (show 464<424 from h) (by decide)|exact λh=>absurd (show 465<424 from h) (by decide)|exact λh=>absurd (show 466<424 from h) (by decide)|exact λh=>absurd (show 467<424 from h) (by decide)
 .have e0:=KW 424 464 0 nid (by decide)
  have e1:=KW 424 464 1 nid (by decide)
  have e2:=KW 424 464 2 nid (by decide)
  have e3:=KW 424 464 3 nid (by decide)
  simp only[UC.po,J3,YI,rwY,rwU,Gd,Xl,KR,Ql.val,List.cons_append,List.nil_append,List.map_cons,List.map_nil,Blk.mapId,AV.mapId,AV.mapIdL,Nat.add_zero]at e0 e1 e2 e3 ⊢;rw[e0,e1,e2,e3];rfl
theorem QPF(many:Int)(f g:List Lay)(many':Int)(f' g':List Lay):(XU d E ac body u l many f g many' f' g').Ok:=by
 refine⟨(by decide:424<=464),rfl,rfl,?_,rfl,λ_ _=>rfl,λnid h=>?_⟩
 .intro q hq;simp only[UC.po,XU,YI,rwY,rwU,List.mem_cons,List.not_mem_nil,or_false]at hq;rcases hq with rfl|rfl|rfl|rfl|rfl|rfl|rfl|rfl|rfl|rfl|rfl<;>refine⟨rfl,rfl,rfl,?_⟩<;>first|exact λ_=>rfl|exact λh=>absurd (show 464<424 from h) (by decide)|exact λh=>absurd (show 465<424 from h) (by decide)|exact λh=>absurd (show 466<424 from h) (by decide)|exact λh=>absurd (show 467<424 from h) (by decide)
 .have e0:=KW 424 464 0 nid (by decide)
  have e1:=KW 424 464 1 nid (by decide)
  have e2:=KW 424 464 2 nid (by decide)
  have e3:=KW 424 464 3 nid (by decide)
  simp only[UC.po,XU,YI,rwY,rwU,Gd,Xl,KR,Ql.val,List.cons_append,List.nil_append,List.map_cons,List.map_nil,Blk.mapId,AV.mapId,AV.mapIdL,Nat.add_zero]at e0 e1 e2 e3 ⊢;rw[e0,e1,e2,e3];rfl
theorem QQH(T:Tab)(hT:Qe T)(G:Ctx)(hrd:G.rd=none):Qu (mkE prog T) G (soN prog T) (Qp f103):=
 KM (body:=QJ f103 0) (QQ hT) hrd (by kernel_rfl) (λ_ _ _ _ _ _ _ h _ _=>h.elim)
set_option maxHeartbeats 1000000 in
theorem QUo(s:SoS)(hn:l.length=d.ps.n)(hpos:0<l.length)(hl:l.length<=1000):QR prog 103 (uFC (YM d E J1 J5 l s (QDg l s))):=by
 obtain⟨many,f,g⟩:=s;have hT:Qe (HK QO l):=Qd.add (QR4 l hpos hl);have et:=Qal QO d E (QD l) l many f g;have hlen:((l.length:Int)==(d.ps.n:Int))=true:=by rw[hn];simp
 unfold QDg;simp only;cases h100:i64.wrap (many+1)==100 with
 | true=>
  have h1:(i64.wrap (many+1)==1)=false:=by rw[beq_iff_eq.1 h100];rfl
  have h2:(i64.wrap (many+1)==2)=false:=by rw[beq_iff_eq.1 h100];rfl
  rw[h1,h2];simp only[cond_true,cond_false,YM];refine Ks (E:=mkE prog (HK QO l)) (QQ hT) func103 (by kernel_rfl) (by kernel_rfl) (QPF ..) (λG hG _=>QQH _ hT G hG) ⟨?_⟩
  refine Qf et ?_;clear et;refine QF (λb0=>?_) (λb0=>?_);refine QF ?_ ?_<;>intro b1
  .exact Bool.noConfusion (h1.symm.trans b1)
  refine QF ?_ ?_<;>intro b3
  .exact Bool.noConfusion (h2.symm.trans b3)
  refine QF (λb5=>?_) (λb5=>?_);refine⟨rfl,rfl,_,QXa d E (QD l) l many f g _ f g,?_⟩
  rotate_left
  .exact Bool.noConfusion (h100.symm.trans b5)
  .exact Bool.noConfusion (hlen.symm.trans b0)
  all_goals (repeat' first|with_reducible refine QP ?_ ?_|exact tv|with_reducible exact qRr|exact rfl|refine aI ?_ ?_)
 | false=>
  simp only[cond_false,YM];refine Ks (E:=mkE prog (HK QO l)) (QQ hT) func103 (by kernel_rfl) (by kernel_rfl) (QJg ..) (λG hG _=>QQH _ hT G hG) ⟨?_⟩
  refine Qf et ?_;clear et;refine QF (λb0=>?_) (λb0=>?_);refine QF (λb1=>?_) (λb1=>?_);refine QH ?_ ?_;rotate_left;refine QF ?_ ?_<;>intro b2
  .exact Bool.noConfusion (h100.symm.trans b2)
  rw[b1];simp only[cond_true];refine⟨rfl,rfl,_,QTE d E (QD l) l many f g _ l g,?_⟩
  rotate_left
  refine QF (λb3=>?_) (λb3=>?_);refine QH ?_ ?_;rotate_left;refine QF ?_ ?_<;>intro b4
  .exact Bool.noConfusion (h100.symm.trans b4)
  rw[b1,b3];simp only[cond_true,cond_false];refine⟨rfl,rfl,_,QTh d E (QD l) l many f g _ f l,?_⟩
  rotate_left
  refine QF ?_ ?_<;>intro b5
  .exact Bool.noConfusion (h100.symm.trans b5)
  rw[b1,b3];simp only[cond_false];refine⟨rfl,rfl,_,Qc9 d E (QD l) l many f g _ f g,?_⟩
  rotate_left
  .exact Bool.noConfusion (hlen.symm.trans b0)
  all_goals first|((with_reducible show _=true);((refine Q6.2 ?_;repeat' first|exact tv|with_reducible exact qRr|exact rfl|refine aI ?_ ?_)))|(repeat' first|with_reducible refine QP ?_ ?_|exact tv|with_reducible exact qRr|exact rfl|refine aI ?_ ?_)
theorem QPu{d:Puz}{E:ECt}{ac body:Code}{rec:List Lay->SoS->QZ SoS}{l:List Lay}(hd:KI d)(hE:WfE E)(hl:l.length<=1000)(hL:∀ y∈l,KC d y)(s:SoS)(IH:∀ p,p<d.ps.n->QDG d E ac body rec l p){X:List (Prop×Ex×JSt)}(hX:∀ e J,YC d E ac body rec l (0,s) e J->∃ y∈X,y.1/\y.2.1=e/\y.2.2=J)(G:Ctx)(hrd:G.rd=none)(hG:G.n=464):
  Qu (mkE prog QT) G (soX prog (GO d E ac body (QD l) l s.1 s.2.1 s.2.2 0) X) (Qp f103):=by
 refine KM (body:=QJ f103 0) (QQ Qd) hrd (by kernel_rfl) ?_
 have hEnv:∀ k:Nat×SoS,(mkE prog (W5 QO d l.length k.1)).Sound:=λk=>QQ (Qd.add (YL d l.length k.1));refine Jt (E0:=mkE prog QT) (E:=λk:Nat×SoS=>mkE prog (W5 QO d l.length k.1)) (H:=λk=>QDt prog QO d E ac body (QD l) l k.2.1 k.2.2.1 k.2.2.2 k.1 (QBN d E ac body rec l k.1 k.2)) (n0:=464) (s0:=(0,s)) (λ_=>rfl) hEnv (by omega) (λk _=>QWr hd hE hl hL k.1 k.2 (IH k.1) G hrd (by omega)) (λk _=>(by decide:464<=504)) ?_ (QZv d E ac body rec l hd.n) (Nat.zero_le _) hX
 intro k e J hr;unfold YC at hr;split at hr<;>(rw[hr.2];exact(by decide:464<=504))
set_option maxHeartbeats 1000000 in
theorem QYY{d:Puz}{E:ECt}(hd:KI d)(hE:WfE E){k:Nat}{l:List Lay}(hk:l.length+(k+1)=d.ps.n)(hL:∀ y∈l,KC d y)(IH:∀ p,p<d.ps.n->QDG d E J1 J5 (onZ d E k) l p)(s:SoS):QR prog 103 (uFC (YM d E J1 J5 l s (onZ d E (k+1) l s))):=by
 have hdn:=hd.n;have hr0:onZ d E (k+1) l s=Qz (Km d E (onZ d E k) l) (List.range d.ps.n) s:=rfl;rw[hr0];have hne:((l.length:Int)==(d.ps.n:Int))=false:=by rw[beq_eq_false_iff_ne];omega
 obtain⟨many,f,g⟩:=s;cases hc:Qz (Km d E (onZ d E k) l) (List.range d.ps.n) (many,f,g)with
 | go s'=>
  obtain⟨many',f',g'⟩:=s';simp only[YM];have et:=QJp d E (QD l) (QD l) l many f g True False many' f' g';refine Ks (E:=mkE prog QT) (QQ Qd) func103 (by kernel_rfl) (by kernel_rfl) (QJg ..) (QPu hd hE (by omega) hL (many,f,g) IH (X:=[(True,.exit 0,GK d E J1 J5 (QD l) l many' f' g'),(False,.ret,soF d E J1 J5 (QD l) l many' f' g')]) ?_) ⟨?_⟩
  .intro e J hr;unfold YC at hr;simp only[List.drop_zero,hc]at hr;exact⟨_,qmc,trivial,hr.1.symm,hr.2.symm⟩
  refine Qf et ?_;clear et;refine QF ?_ ?_<;>intro b0
  .exact Bool.noConfusion (hne.symm.trans b0)
  iterate 128 refine Qt (by first|exact tv|with_reducible exact qRr|exact rfl) ?_
  refine Kl ?_ ?_;refine Qj λa0=>?_;refine Qk λg0=>?_;refine⟨rfl,rfl,_,QcX d E (QD l) (QD l) l many f g many' f' g',?_⟩
  rotate_left
  refine Qj λa1=>?_;refine Qk λg1=>?_
  .exact a1.elim
  all_goals (repeat' first|with_reducible refine QP ?_ ?_|exact tv|with_reducible exact qRr|exact rfl|refine aI ?_ ?_)
 | stop s'=>
  obtain⟨many',f',g'⟩:=s';simp only[YM];have et:=QJp d E (QD l) (QD l) l many f g False True many' f' g';refine Ks (E:=mkE prog QT) (QQ Qd) func103 (by kernel_rfl) (by kernel_rfl) (QPF ..) (QPu hd hE (by omega) hL (many,f,g) IH (X:=[(False,.exit 0,GK d E J1 J5 (QD l) l many' f' g'),(True,.ret,soF d E J1 J5 (QD l) l many' f' g')]) ?_) ⟨?_⟩
  .intro e J hr;unfold YC at hr;simp only[List.drop_zero,hc]at hr;exact⟨_,List.mem_cons_of_mem _ qmc,trivial,hr.1.symm,hr.2.symm⟩
  refine Qf et ?_;clear et;refine QF ?_ ?_<;>intro b0
  .exact Bool.noConfusion (hne.symm.trans b0)
  iterate 128 refine Qt (by first|exact tv|with_reducible exact qRr|exact rfl) ?_
  refine Kl ?_ ?_;refine Qj λa0=>?_;refine Qk λg0=>?_
  .exact a0.elim
  refine Qj λa1=>?_;refine Qk λg1=>?_;refine⟨rfl,rfl,_,QTt d E (QD l) (QD l) l many f g many' f' g',?_⟩
  rotate_left
  all_goals (repeat' first|with_reducible refine QP ?_ ?_|exact tv|with_reducible exact qRr|exact rfl|refine aI ?_ ?_)
theorem QDE{d:Puz}{l:List Lay}{p t:Nat}(hp:p<d.ps.n)(ht:t<QY d p)(hL:∀ y∈l,KC d y):∀ y∈l++[(⟨p,t⟩:Lay)],KC d y:=by
 intro y hy;rcases List.mem_append.1 hy with q|q
 .exact hL y q
 .have h4:=(Zo d p).2;rw[List.mem_singleton.1 q];exact⟨⟨by show(0:Int)<=p;omega,by show(p:Int)<_;omega⟩,by show(0:Int)<=t;omega,by show(t:Int)<=3;omega⟩
theorem QbG{d:Puz}{E:ECt}(hn:d.ps.n<=1000)(hpos:0<d.ps.n)(l:List Lay)(s:SoS)(hk:l.length=d.ps.n):QR prog 103 (uFC (YM d E J1 J5 l s (onZ d E 0 l s))):=by
 have h0:onZ d E 0 l s=QDg l s:=rfl;have h1:0<l.length:=by rw[hk];exact hpos
 have h2:l.length<=1000:=by rw[hk];exact hn
 rw[h0];exact QUo d E l s hk h1 h2
theorem QBX(x:Lay){k n:Nat}(h:l.length+(k+1)=n):(l++[x]).length+k=n:=by
 rw[List.length_append,List.length_singleton];omega
theorem QWP{d:Puz}{E:ECt}(hd:KI d)(hE:WfE E)(hpos:0<d.ps.n)(k:Nat):∀(l:List Lay) (s:SoS),l.length+k=d.ps.n->(∀ y∈l,KC d y)->QR prog 103 (uFC (YM d E J1 J5 l s (onZ d E k l s))):=by
 induction k with
 | zero=>exact λl s hk _=>QbG hd.n hpos l s hk
 | succ k ih=>
  intro l s hk hL;refine QYY hd hE hk hL ?_ s;intro p hp t ht s;exact ih _ s (QBX l _ hk) (QDE hp ht hL)
def XT(pb:List Prop->Bool)(d:Puz)(E:ECt)(U:UC):Tab:=Qc (Qc QT 60 (KB pb (nbU d E))) 103 (KB pb U)
def ve(m e:Int):AV := .tup [.slz 0 0 f.length (.of 0),.slz 1 0 g.length (.of 0),.int false .i64 m,.int false .i64 e]
def vD:List (Nat×Blk):=[rwY 0 f,rwY 1 g]
abbrev QOr:List Prop:=
  (wab d++([cO=cO]++wae d))
abbrev QMD(d:Puz)(u:Nat->Nat->Int):List Prop:=
  ((wb2++[0=0])++wab d++(([cO=cO,0=0,E.1=E.1,E.2=E.2,0=0]++wcN d++[QB 1 d.ps.n (λx x_1=>(0:Int)) u])++waj++([Array.mk
  [18]=Array.mk [18]]++wcA))++wab d++([cO =
  cO]++wc0)++wab d++(([cO=cO]++wcG++(wcY++[(0:Int)=0,0=0,0=0,0=0,0=0,Fn.func 103=Fn.func 103]))++wb2++[0=0,0=0,0=0])++wab d++([cO=cO]++wae d))
noncomputable abbrev QRM:List (Nat×Blk):=
  [(449,.rowz true 49 kB f'.length λi=>QA.enc (f'.getD i (Lay.mk (0:Int) (0:Int)))),(450,.rowz true 49 kB g'.length λi=>
  QA.enc (g'.getD i (Lay.mk (0:Int) (0:Int))))]
theorem QPE(pb:List Prop->Bool)(d:Puz)(E:ECt)(u:Nat->Nat->Int)(many':Int)(f' g':List Lay):Ku (mkE prog (XT pb d E (J3 d E (QN f24 0).1 (QN f24 0).2 u [] 0 [] [] many' f' g'))) (hnd (mkE prog (XT pb d E (J3 d E (QN f24 0).1 (QN f24 0).2 u [] 0 [] [] many' f' g'))) 8) f24 (Qi.vals 0 ((d,()):Puz×Unit)) (Qi.blks 0 ((d,()):Puz×Unit)) 96 = .need (decide (d.ps.n<=d.ps.n)&&true&&decide (d.ps.n<=1000)) (.br (!d.ok) (.leaf (.tup [.nils,.nils,vj 0,vj 1]) ([])) (.need (pb ((QOr d))) (.need (decide ((d.ps.n:Int)=(d.ps.n:Int))&&decide ((0:Int)<=(d.ps.n:Int)/\(d.ps.n:Int)<=17179869184)) (.need (pb ((QMD E d u))) (.br (many'==0) (.leaf (.tup [.nils,.nils,vj 0, vj 4]) ([])) (.leaf (.tup [.slz 449 0 f'.length cO,.slz 450 0 g'.length cO,vi many',vj 0]) ((QRM f' g')))))))):=by kernel_rfl
theorem QXP(pb:List Prop->Bool)(d:Puz)(E:ECt)(u:Nat->Nat->Int)(many':Int)(f' g':List Lay):Ku (mkE prog (XT pb d E (XU d E (QN f24 0).1 (QN f24 0).2 u [] 0 [] [] many' f' g'))) (hnd (mkE prog (XT pb d E (XU d E (QN f24 0).1 (QN f24 0).2 u [] 0 [] [] many' f' g'))) 8) f24 (Qi.vals 0 ((d,()):Puz×Unit)) (Qi.blks 0 ((d,()):Puz×Unit)) 96 = .need (decide (d.ps.n<=d.ps.n)&&true&&decide (d.ps.n<=1000)) (.br (!d.ok) (.leaf (.tup [.nils,.nils,vj 0,vj 1]) ([])) (.need (pb ((QOr d))) (.need (decide ((d.ps.n:Int)=(d.ps.n:Int))&&decide ((0:Int)<=(d.ps.n:Int)/\(d.ps.n:Int)<=17179869184)) (.need (pb ((QMD E d u))) (.br (many'==0) (.leaf (.tup [.nils,.nils,vj 0, vj 4]) ([])) (.leaf (.tup [.slz 449 0 f'.length cO,.slz 450 0 g'.length cO,vi many',vj 0]) ((QRM f' g')))))))):=by kernel_rfl
theorem QeN(m e':Int):QG 96 [(AV.tup [AV.nils,AV.nils,vj (0:Int),vj (1:Int)])] ([]) (KT 96 (ve f g m e') (vD f g))=( some [f.length=(0:Nat),g.length=(0:Nat),(0:Int)=m,(1:Int)=e',f.length=(0:Nat),g.length=(0:Nat)]):=by kernel_rfl
theorem QcV(m e':Int):QG 96 [(AV.tup [AV.nils,AV.nils,vj (0:Int),vj (4:Int)])] ([]) (KT 96 (ve f g m e') (vD f g))=( some [f.length=(0:Nat),g.length=(0:Nat),(0:Int)=m,(4:Int)=e',f.length=(0:Nat),g.length=(0:Nat)]):=by kernel_rfl
noncomputable abbrev wbR(f:List Lay)(f':List Lay)(g:List Lay)(g':List Lay):List Prop:=[f.length<=f'.length,QB (2:Nat) f.length (λi=>QA.enc (f'.getD i (Lay.mk (0:Int) (0:Int)))) λi=>QA.enc (f.getD i (Lay.mk (0:Int) (0:Int))),g.length<=g'.length,QB (2:Nat) g.length (λi=>QA.enc (g'.getD i (Lay.mk (0:Int) (0:Int)))) λi=>QA.enc (g.getD i (Lay.mk (0:Int) (0:Int)))]
theorem Qdg(f' g' f g:List Lay)(m e':Int):QG 96 [(AV.tup [AV.slz (449:Nat) (0:Nat) f'.length cO,AV.slz (450:Nat) (0:Nat) g'.length cO,vi many',vj (0:Int)])] ([((449:Nat),Blk.rowz true (49:Nat) [CK.int i64,CK.int i64] f'.length λi=>QA.enc (f'.getD i (Lay.mk (0:Int) (0:Int)))),((450:Nat),Blk.rowz true (49:Nat) [CK.int i64,CK.int i64] g'.length λi=>QA.enc (g'.getD i (Lay.mk (0:Int) (0:Int))))]) (KT 96 (ve f g m e') (vD f g))=( some ([0=0,f'.length=f.length,cO=cO,0=0,g'.length=g.length,cO=cO,many'=m,(0:Int)=e']++wbR f f' g g')):=by kernel_rfl
theorem Qbi(m e':Int):QG 96 [(AV.tup [AV.nils,AV.nils,vj (0:Int),vj (4:Int)])] ([]) (KT 96 (ve f g m e') (vD f g))=( some [f.length=(0:Nat),g.length=(0:Nat),(0:Int)=m,(4:Int)=e',f.length=(0:Nat),g.length=(0:Nat)]):=by kernel_rfl
theorem Qap(f' g' f g:List Lay)(m e':Int):QG 96 [(AV.tup [AV.slz (449:Nat) (0:Nat) f'.length cO,AV.slz (450:Nat) (0:Nat) g'.length cO,vi many',vj (0:Int)])] ([((449:Nat),Blk.rowz true (49:Nat) [CK.int i64,CK.int i64] f'.length λi=>QA.enc (f'.getD i (Lay.mk (0:Int) (0:Int)))),((450:Nat),Blk.rowz true (49:Nat) [CK.int i64,CK.int i64] g'.length λi=>QA.enc (g'.getD i (Lay.mk (0:Int) (0:Int))))]) (KT 96 (ve f g m e') (vD f g))=( some ([0=0,f'.length=f.length,cO=cO,0=0,g'.length=g.length,cO=cO,many'=m,(0:Int)=e']++wbR f f' g g')):=by kernel_rfl
theorem jx{d:Puz}(h:d.okN=true):KI d/\0<d.ps.n/\d.ps.n<=9:=by
 simp only[Puz.okN,Qv,qbA,qdE,beq_iff_eq]at h;obtain⟨⟨h1,h2⟩,⟨h3,h4⟩,⟨h5,h6⟩,h7⟩:=h;have hm:d.wide*d.high<=9*9:=Int.mul_le_mul (by omega) (by omega) (by omega) (by omega)
 have hm0:0<=d.wide*d.high:=Int.mul_nonneg (by omega) (by omega)
 rw[w64 (by omega) (by omega)]at h7
 exact⟨⟨by omega,h3,h4,h5,h6,h7⟩,by omega,by omega⟩
theorem jy{d:Puz}(h:d.ok=true):d.okN=true:=by
 rw[Puz.ok,qbA]at h;exact h.1
def YO:List Lay×List Lay×Int×Int:=cond d.ok
 (match onZ d (QM d) d.ps.n [] (0,[],[])with
  | .go s | .stop s=>cond (s.1==0) ([],[],0,4) (s.2.1,s.2.2,s.1,0))
 ([],[],0,1)
def XK:WF (Puz×Unit):=λ|(d,_)=>(decide (d.ps.n<=1000),ve (YO d).1 (YO d).2.1 (YO d).2.2.1 (YO d).2.2.2,vD (YO d).1 (YO d).2.1)
def QRH:FC:=wFC XK
theorem QGN:WOk (XK (d,())).2.1 (XK (d,())).2.2:=⟨rfl,by simp[XK,vD,rwY,Blk.own,Blk.all],rfl⟩
theorem QbJ(hn:d.ps.n<=1000)(hx:d.ok=false):QR prog 24 (wFC (VJ XK (d,()))):=by
 have hT:Qe (XT (λ_=>false) d (QM d) (J3 d (QM d) J1 J5 (QD []) [] 0 [] [] 0 [] [])):=(Qd.add (JY (by kernel_rfl) _)).add (JY (by kernel_rfl) _)
 have hv:YO d=([],[],0,1):=by simp only[YO,hx,cond_false]
 refine Yk (c:=Qp f24) (E:=mkE prog (XT (λ_=>false) d (QM d) (J3 d (QM d) J1 J5 (QD []) [] 0 [] [] 0 [] []))) (H:=hnd (mkE prog (XT (λ_=>false) d (QM d) (J3 d (QM d) J1 J5 (QD []) [] 0 [] [] 0 [] []))) 8) (QQ hT) func24 (by kernel_rfl) (by kernel_rfl) (N:=96) (by decide) (d,()) (λG h1 _=>Q1 (QQ hT) 8 G _ h1) (QGN d) ?_
 refine Qf (QPE (λ_=>false) d (QM d) (QD []) 0 [] []) ?_;refine QH (by simp;omega) (QF (λ_=>?_) (λh=>by rw[hx]at h;cases h))
 simp only[XK,hv];refine⟨rfl,rfl,_,QeN [] [] 0 1,?_⟩
 repeat' first|with_reducible refine QP ?_ ?_|exact tv|with_reducible exact qRr|exact rfl|refine aI ?_ ?_
theorem QXJ(hx:d.ok=true):QR prog 24 (wFC (VJ XK (d,()))):=by
 obtain⟨hd,hpos,h9⟩:=jx (jy hx);have hon:=QWP hd (Y5 d hd.n).w hpos d.ps.n [] (0,[],[]) (by simp) (λc hc=>by cases hc)
 have hdn:=hd.n;have hz:∀ k,QB 1 k (λ_ _=>0) (QD []):=λk i _=>⟨rfl,trivial⟩;cases he:onZ d (QM d) d.ps.n [] (0,[],[])with
 | go s=>
  rw[he]at hon;have hT:Qe (XT QO d (QM d) (J3 d (QM d) J1 J5 (QD []) [] 0 [] [] s.1 s.2.1 s.2.2)):=(Qd.add (Zz d (by omega))).add hon
  have hv:YO d=cond (s.1==0) ([],[],0,4) (s.2.1,s.2.2,s.1,0):=by
   simp only[YO,hx,he,cond_true]
  refine Yk (c:=Qp f24) (E:=mkE prog (XT QO d (QM d) (J3 d (QM d) J1 J5 (QD []) [] 0 [] [] s.1 s.2.1 s.2.2))) (H:=hnd (mkE prog (XT QO d (QM d) (J3 d (QM d) J1 J5 (QD []) [] 0 [] [] s.1 s.2.1 s.2.2))) 8) (QQ hT) func24 (by kernel_rfl) (by kernel_rfl) (N:=96) (by decide) (d,()) (λG h1 _=>Q1 (QQ hT) 8 G _ h1) (QGN d) ?_
  have et:=QPE QO d (QM d) (QD []) s.1 s.2.1 s.2.2;refine Qf et ?_;clear et;refine QH ?_ ?_;rotate_left;refine QF ?_ ?_<;>intro b0
  .rw[hx]at b0;cases b0
  iterate 3 (refine QH ?_ ?_;rotate_left)
  refine QF (λb1=>?_) (λb1=>?_);simp only[XK,hv,show(s.1==0)=true from b1,cond_true];refine⟨rfl,rfl,_,QcV [] [] 0 4,?_⟩
  rotate_left
  simp only[XK,hv,show(s.1==0)=false from b1,cond_false];refine⟨rfl,rfl,_,Qdg s.1 s.2.1 s.2.2 s.2.1 s.2.2 s.1 0,?_⟩
  rotate_left
  all_goals first|((with_reducible show _=true);(first|(refine Q6.2 ?_;repeat' first|with_reducible refine QP ?_ ?_|exact tv|with_reducible exact qRr|with_reducible exact hz _|exact rfl|refine aI ?_ ?_)|(simp;omega)))|(repeat' first|with_reducible refine QP ?_ ?_|exact tv|with_reducible exact qRr|exact rfl|refine aI ?_ ?_)
 | stop s=>
  rw[he]at hon;have hT:Qe (XT QO d (QM d) (XU d (QM d) J1 J5 (QD []) [] 0 [] [] s.1 s.2.1 s.2.2)):=(Qd.add (Zz d (by omega))).add hon
  have hv:YO d=cond (s.1==0) ([],[],0,4) (s.2.1,s.2.2,s.1,0):=by
   simp only[YO,hx,he,cond_true]
  refine Yk (c:=Qp f24) (E:=mkE prog (XT QO d (QM d) (XU d (QM d) J1 J5 (QD []) [] 0 [] [] s.1 s.2.1 s.2.2))) (H:=hnd (mkE prog (XT QO d (QM d) (XU d (QM d) J1 J5 (QD []) [] 0 [] [] s.1 s.2.1 s.2.2))) 8) (QQ hT) func24 (by kernel_rfl) (by kernel_rfl) (N:=96) (by decide) (d,()) (λG h1 _=>Q1 (QQ hT) 8 G _ h1) (QGN d) ?_
  have et:=QXP QO d (QM d) (QD []) s.1 s.2.1 s.2.2;refine Qf et ?_;clear et;refine QH ?_ ?_;rotate_left;refine QF ?_ ?_<;>intro b0
  .rw[hx]at b0;cases b0
  iterate 3 (refine QH ?_ ?_;rotate_left)
  refine QF (λb1=>?_) (λb1=>?_);simp only[XK,hv,show(s.1==0)=true from b1,cond_true];refine⟨rfl,rfl,_,Qbi [] [] 0 4,?_⟩
  rotate_left
  simp only[XK,hv,show(s.1==0)=false from b1,cond_false];refine⟨rfl,rfl,_,Qap s.1 s.2.1 s.2.2 s.2.1 s.2.2 s.1 0,?_⟩
  rotate_left
  all_goals first|((with_reducible show _=true);(first|(refine Q6.2 ?_;repeat' first|with_reducible refine QP ?_ ?_|exact tv|with_reducible exact qRr|with_reducible exact hz _|exact rfl|refine aI ?_ ?_)|(simp;omega)))|(repeat' first|with_reducible refine QP ?_ ?_|exact tv|with_reducible exact qRr|exact rfl|refine aI ?_ ?_)
theorem QbH(hx:(XK (d,())).1=true):QR prog 24 (wFC (VJ XK (d,()))):=by
 have hn:d.ps.n<=1000:=qdt hx;cases ho:d.ok with
 | false=>exact QbJ d hn ho
 | true=>exact QXJ d ho
theorem Qbe:QR prog 24 QRH:=vh (by kernel_rfl) λ|(d,()),hx=>QbH d hx
