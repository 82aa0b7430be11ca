/- - -/
import Derived.Test.YtekbmehgcofnkaaGreatMze
import Derived.Test.YtekbmehgcofnkaaGreatMzf
open Go.Proofs.Tryz
open Go.IntKind (i64)
set_option maxRecDepth 100000
namespace Go.Proofs.YtekbmehgcofnkaaGreat
open Go.SX Go.SX.Told
theorem QRA{σ α:Type}(f:σ->α->Qb σ):∀(a b:List α) (s:σ),Qv f (a++b) s=match Qv f a s with
  | .go s'=>Qv f b s'
  | .stop s' => .stop s'
 | [],_,_=>rfl
 | x::a,b,s=>by
  simp only[List.cons_append,Qv];cases f s x with
  | go s'=>exact QRA f a b s'
  | stop s'=>rfl
variable {σ α:Type}{p:Nat}(d:Puz)(E:ECt)(f g:List Lay)(ac body:Code)(l:List Lay)(u:Nat->Nat->Int)(rec:List Lay->SoS->Qb SoS)(many':Int)(f' g':List Lay)
theorem QFW{f g:σ->α->Qb σ}{l:List α}(h:∀ s,∀ a∈l,f s a=g s a)(s:σ):Qv f l s=Qv g l s:=by
 induction l generalizing s with
 | nil=>rfl
 | cons a l ih=>
  simp only[Qv,h s a qmc];cases g s a with
  | go s'=>exact ih (λs b hb=>h s b (List.mem_cons_of_mem _ hb)) s'
  | stop s'=>rfl
theorem QVh{f:σ->α->Qb σ}{l:List α}(h:∀ s,∀ a∈l,f s a = .go s)(s:σ):Qv f l s = .go s:=by
 induction l generalizing s with
 | nil=>rfl
 | cons a l ih=>
  simp only[Qv,h s a qmc];exact ih (λs b hb=>h s b (List.mem_cons_of_mem _ hb)) s
theorem QIz{σ α β:Type}(f:σ->β->Qb σ)(g:α->List β):∀(l:List α) (s:σ),Qv f (l.flatMap g) s=Qv (λs a=>Qv f (g a) s) l s
 | [],_=>rfl
 | a::l,s=>by
  rw[List.flatMap_cons,QRA];simp only[Qv];cases Qv f (g a) s with
  | go s'=>exact QIz f g l s'
  | stop s'=>rfl
theorem QT9{σ α β:Type}(f:σ->β->Qb σ)(g:α->β):∀(l:List α) (s:σ),Qv f (l.map g) s=Qv (λs a=>f s (g a)) l s
 | [],_=>rfl
 | a::l,s=>by
  simp only[List.map_cons,Qv];cases f s (g a)with
  | go s'=>exact QT9 f g l s'
  | stop s'=>rfl
def zB:List Lay:=(List.range d.ps.n).flatMap λp=>(List.range (QY d p)).map λt:Nat=>(⟨(p:Int),(t:Int)⟩:Lay)
def qc(x:Lay):Bool:=l.any λy=>y.piece==x.piece
def HI(A:Int->Lay->Bool)(d:Puz)(E:ECt)(l:List Lay)(x:Lay):Bool := !qc l x&&(A l.length x&&Qy d E l x)
def QAB(A:Int->Lay->Bool)(d:Puz)(E:ECt)(k:Nat)(l:List Lay):List (List Lay):=jJ (λ_=>zB d) (HI A d E) (λ_=>true) k l
def QFS(_:Int)(_:Lay):Bool:=true
theorem QNQ{σ:Type}(A:Int->Lay->Bool)(d:Puz)(E:ECt)(Y:List Lay->σ->Qb σ):∀(k:Nat) (l:List Lay) (s:σ),onA A d E Y k l s=Qv (λs l=>Y l s) (QAB A d E k l) s
 | 0,l,s=>by
  simp only[onA,QAB,jJ,cond_true,Qv];cases Y l s<;>rfl
 | k+1,l,s=>by
  simp only[QAB,jJ];rw[QIz];unfold zB;rw[QIz,onA];refine QFW (λs p _=>?_) s;unfold Xg;rw[QT9];cases hu:KK l p with
  | true=>
   rw[cond_true];refine(QVh (λs t _=>?_) s).symm
   have:HI A d E l ⟨(p:Int),(t:Int)⟩=false:=by
    unfold HI;rw[show qc l ⟨(p:Int),(t:Int)⟩=true from hu];rfl
   rw[this];rfl
  | false=>
   rw[cond_false];unfold inA;refine QFW (λs t _=>?_) s;unfold Ju KE HI;rw[show qc l ⟨(p:Int),(t:Int)⟩=false from hu];cases A l.length ⟨(p:Int),(t:Int)⟩with
   | false=>rfl
   | true=>
    cases Qy d E l ⟨(p:Int),(t:Int)⟩with
    | false=>rfl
    | true=>
     have:=QNQ A d E Y k (l++[⟨(p:Int),(t:Int)⟩]) s;simp only[cond_true,Bool.not_false,Bool.true_and]at this ⊢;rw[this];rfl
theorem QOM{σ:Type}(d:Puz)(E:ECt)(Y:List Lay->σ->Qb σ):∀(k:Nat) (l:List Lay) (s:σ),onY d E Y k l s=onA QFS d E Y k l s
 | 0,_,_=>rfl
 | k+1,l,s=>by
  rw[onY,onA];refine QFW (λs p _=>?_) s;unfold Kr Xg inZ inA;cases KK l p with
  | true=>rfl
  | false=>
   simp only[cond_false];refine QFW (λs t _=>?_) s;unfold Ju KE;rw[QOM d E Y k];rfl
def Ko:List (List Lay):=QAB QFS d E d.ps.n []
theorem QHa(Y:List Lay->σ->Qb σ)(s:σ):onY d E Y d.ps.n [] s=Qv (λs l=>Y l s) (Ko d E) s:=by
 rw[QOM,QNQ];rfl
def Xk(P:List (List Lay)):SoS:=((P.length:Int),P.getD 0 [],P.getD 1 [])
theorem QYf(P:List (List Lay))(l:List Lay)(h:P.length<100):ZK l (Xk P)=cond (decide (P.length+1=100)) (.stop (Xk (P++[l]))) (.go (Xk (P++[l]))):=by
 have hw:i64.wrap ((P.length:Int)+1)=((P.length+1:Nat):Int):=(w64 (by omega) (by omega)).trans (by omega)
 have hs:(i64.wrap ((P.length:Int)+1),cond (i64.wrap ((P.length:Int)+1)==1) l (P.getD 0 []),cond (i64.wrap ((P.length:Int)+1)==1) (P.getD 1 []) (cond (i64.wrap ((P.length:Int)+1)==2) l (P.getD 1 [])))=Xk (P++[l]):=by
  rw[hw];unfold Xk
  match P with
  | []=>rfl
  | [a]=>rfl
  | a::b::P=>
   have h1:((((a::b::P).length+1:Nat):Int)==1)=false:=by
    rw[beq_eq_false_iff_ne];simp only[List.length_cons];omega
   have h2:((((a::b::P).length+1:Nat):Int)==2)=false:=by
    rw[beq_eq_false_iff_ne];simp only[List.length_cons];omega
   rw[h1,h2];simp
 unfold ZK
 have hc:(i64.wrap ((Xk P).1+1)==100)=decide (P.length+1=100):=by
  show(i64.wrap ((P.length:Int)+1)==100)=_;rw[hw,Bool.eq_iff_iff];simp only[beq_iff_eq,qdE];omega
 rw[hc];show cond _ (Qb.stop (i64.wrap ((P.length:Int)+1),cond (i64.wrap ((P.length:Int)+1)==1) l (P.getD 0 []),cond (i64.wrap ((P.length:Int)+1)==1) (P.getD 1 []) (cond (i64.wrap ((P.length:Int)+1)==2) l (P.getD 1 [])))) (Qb.go (i64.wrap ((P.length:Int)+1),cond (i64.wrap ((P.length:Int)+1)==1) l (P.getD 0 []),cond (i64.wrap ((P.length:Int)+1)==1) (P.getD 1 []) (cond (i64.wrap ((P.length:Int)+1)==2) l (P.getD 1 []))))=_;rw[hs]
theorem QT1:∀(L P:List (List Lay)),P.length<100->Qv (λs l=>ZK l s) L (Xk P) = .go (Xk (P++L))/\(P++L).length<100∨Qv (λs l=>ZK l s) L (Xk P) = .stop (Xk ((P++L).take 100))/\100<=(P++L).length
 | [],P,h => .inl ⟨by rw[List.append_nil];rfl,by rw[List.append_nil];exact h⟩
 | l::L,P,h=>by
  simp only[Qv,QYf P l h]
  by_cases h1:P.length+1=100
  .refine .inr ⟨?_,by simp only[List.length_append,List.length_cons];omega⟩
   rw[qde h1,cond_true]
   have:(P++l::L).take 100=P++[l]:=by
    rw[show P++l::L=(P++[l])++L by simp,List.take_append_of_le_length (by simp;omega),List.take_of_length_le (by simp;omega)]
   rw[this]
  .rw[decide_eq_false h1,cond_false];have:=QT1 L (P++[l]) (by simp;omega)
   simpa using this
theorem QQ4(L:List α)(k i:Nat)(a:α)(h:i<k):(L.take k).getD i a=L.getD i a:=by
 simp only[List.getD_eq_getElem?_getD,List.getElem?_take,if_pos h]
theorem QUm:(match onZ d E d.ps.n [] (0,[],[])with | .go s | .stop s=>s)=(((min (Ko d E).length 100:Nat):Int),(Ko d E).getD 0 [],(Ko d E).getD 1 []):=by
 have h:=QT1 (Ko d E) [] (by decide)
 rw[List.nil_append]at h;have e:onZ d E d.ps.n [] (0,[],[])=Qv (λs l=>ZK l s) (Ko d E) (Xk []):=QHa d E ZK (0,[],[]);rw[e];rcases h with ⟨h1,h2⟩|⟨h1,h2⟩
 .rw[h1];simp only[Xk];rw[Nat.min_eq_left (by omega)]
 .rw[h1];simp only[Xk];rw[QQ4 _ _ _ _ (by decide),QQ4 _ _ _ _ (by decide),List.length_take,Nat.min_comm]
theorem WX(p:Nat):(QY d p:Int)=tnV d p/\QY d p<=4:=by
 unfold QY;rcases QPp d p with h|h<;>rw[h]<;>decide
set_option maxHeartbeats 1000000 in
theorem QbU(l:List Lay)(p:Nat)(hp:p<d.ps.n)(hn:d.ps.n<=1000)(hl:l.length<=1000)(hu:KK l p=false):JW (λk:Nat×SoS=>G8 d E ac body (QD l) l k.2.1 k.2.2.1 k.2.2.2 p (tnV d p) k.1) (λk=>k.1<=QY d p) (λk=>QY d p-k.1) (ZL d E ac body rec l p) 464 QFi Zz (q8 prog d E ac body rec l p) (λk=>hnd (q8 prog d E ac body rec l p k) 0) (QZ (QI f103 0)):=by
 refine⟨λk g0 hk=>?_⟩;obtain⟨t,many,f,g⟩:=k;have hk:t<=QY d p:=hk;obtain⟨ht1,ht4⟩:=WX d p;have hlen:(l++[(⟨p,t⟩:Lay)]).length=l.length+1:=by rw[List.length_append,List.length_singleton]
 have hw1:i64.wrap (((l++[(⟨p,t⟩:Lay)]).length:Int)-1)=l.length:=(w64 (by omega) (by omega)).trans (by omega)
 have hpop:(i64.wrap (((l++[(⟨p,t⟩:Lay)]).length:Int)-1)).toNat=l.length:=by rw[hw1];exact Int.toNat_natCast _
 have hle:l.length<=(l++[(⟨p,t⟩:Lay)]).length:=by omega
 have hpb:t<QY d p->WH d p t=QQ:=λh=>by unfold WH;rw[if_pos h]
 have wt:t<QY d p->i64.wrap ((t:Int)+1)=((t+1:Nat):Int):=λh=>(w64 (by omega) (by omega)).trans (by omega)
 have step:=λh:t<QY d p=>Wx (f:=KE d E rec l p) h (many,f,g);unfold q8;simp only
 have next:t<QY d p->∀{s2:SoS},KE d E rec l p (many,f,g) t = .go s2->∀ e J,ZL d E ac body rec l p (t+1,s2) e J->ZL d E ac body rec l p (t,many,f,g) e J:=by
  intro h s2 he e J hr;unfold ZL at hr ⊢;simp only at hr ⊢;rw[step h,he];exact hr
 have last:QY d p<=t->ZL d E ac body rec l p (t,many,f,g) (.exit 2) (QBe d E ac body (QD l) l many f g p):=by
  intro h;unfold ZL;simp only[qe h,and_self]
 cases hr:rec (l++[⟨p,t⟩]) (many,f,g)with
 | go s'=>
  obtain⟨many',f',g'⟩:=s';simp only[Xm];have et:=Qa8 (WH d p t) (WH d p t) d E ac body (QD l) (QD (l++[⟨p,t⟩])) l (l++[⟨p,t⟩]) (Qy d E l ⟨p,t⟩) many f g p (tnV d p) t many' f' g' g0;refine Qg et ?_;clear et;refine QF (λb0=>?_) (λb0=>?_);have h:t<QY d p:=by have:=qdt b0;omega
  rw[hpb h];have hw:=wt h;refine QG ?_ ?_;rotate_left;refine QF ?_ ?_<;>intro b1
  .exact Bool.noConfusion (show false=true from b1)
  refine QG ?_ ?_;rotate_left;refine QF (λb2=>?_) (λb2=>?_);have hv:Qy d E l ⟨p,t⟩=false:=by simpa using b2
  have ho:KE d E rec l p (many,f,g) t = .go (many,f,g):=by unfold KE;rw[hv];rfl
  refine⟨(t+1,many,f,g),h,by show QY d p-(t+1)<QY d p-t;omega,next h ho,rfl,rfl,_,QLH d E ac body (QD l) l many f g p (tnV d p) t (t+1),?_⟩
  rotate_left
  iterate 7 (refine QG ?_ ?_;rotate_left)
  refine QF ?_ ?_<;>intro b3
  .cases b3
  have hv:Qy d E l ⟨p,t⟩=true:=by simpa using b2
  have ho:KE d E rec l p (many,f,g) t = .go (many',f',g'):=by unfold KE;rw[hv];exact hr
  have hb:=qM l d.ps.n p t hu;have hq:=qo l ⟨p,t⟩;have hnx:=next h ho
  clear next last step hr ho
  generalize QD (l++[⟨p,t⟩])=u2 at hb ⊢;generalize l++[⟨p,t⟩]=l2 at hpop hle hq ⊢;generalize hu1:QD l=u1 at hb ⊢;refine⟨(t+1,many',f',g'),h,by show QY d p-(t+1)<QY d p-t;omega,hnx,rfl,rfl,_,QVH d E ac body u1 u2 u1 l l2 p (tnV d p) t (t+1) many' f' g',?_⟩
  rotate_left
  have h:QY d p<=t:=by have:=qdf b0;omega
  refine⟨_,last h,rfl,rfl,_,QMj d E ac body (QD l) l many f g p,?_⟩
  rotate_left
  all_goals first|((with_reducible show _=true);(first|rfl|(refine KA.2 ?_;repeat' first|with_reducible refine QP ?_ ?_|exact tv|with_reducible exact qRr|with_reducible exact hlen|with_reducible exact hlen.symm|with_reducible exact Nat.le_of_eq hlen|with_reducible exact qD l ⟨p,t⟩|with_reducible exact W9 l _ p t|exact rfl|refine aI ?_ ?_)|(rw[hw1];simp)|(simp;omega)))|(repeat' first|with_reducible refine QP ?_ ?_|exact tv|with_reducible exact qRr|with_reducible exact hw|with_reducible exact hpop|with_reducible exact hle|with_reducible exact hq|with_reducible exact hb|exact rfl|refine aI ?_ ?_)
 | stop s'=>
  obtain⟨many',f',g'⟩:=s';simp only[Xm];have et:=Qb9 (WH d p t) (WH d p t) d E ac body (QD l) (QD (l++[⟨p,t⟩])) l (l++[⟨p,t⟩]) (Qy d E l ⟨p,t⟩) many f g p (tnV d p) t many' f' g' g0;refine Qg et ?_;clear et;refine QF (λb0=>?_) (λb0=>?_);have h:t<QY d p:=by have:=qdt b0;omega
  rw[hpb h];have hw:=wt h;refine QG ?_ ?_;rotate_left;refine QF ?_ ?_<;>intro b1
  .exact Bool.noConfusion (show false=true from b1)
  refine QG ?_ ?_;rotate_left;refine QF (λb2=>?_) (λb2=>?_);have hv:Qy d E l ⟨p,t⟩=false:=by simpa using b2
  have ho:KE d E rec l p (many,f,g) t = .go (many,f,g):=by unfold KE;rw[hv];rfl
  refine⟨(t+1,many,f,g),h,by show QY d p-(t+1)<QY d p-t;omega,next h ho,rfl,rfl,_,QLH d E ac body (QD l) l many f g p (tnV d p) t (t+1),?_⟩
  rotate_left
  iterate 7 (refine QG ?_ ?_;rotate_left)
  refine QF (λb3=>?_) (λb3=>?_);have hv:Qy d E l ⟨p,t⟩=true:=by simpa using b2
  have ho:KE d E rec l p (many,f,g) t = .stop (many',f',g'):=by unfold KE;rw[hv];exact hr
  have hrel:ZL d E ac body rec l p (t,many,f,g) .ret (soF d E ac body (QD l) l many' f' g'):=by
   unfold ZL;simp only[step h,ho,and_self]
  have hb:=qM l d.ps.n p t hu;have hq:=qo l ⟨p,t⟩;clear next last step hr ho
  generalize QD (l++[⟨p,t⟩])=u2 at hb ⊢;generalize l++[⟨p,t⟩]=l2 at hpop hle hq ⊢;generalize hu1:QD l=u1 at hb hrel ⊢;refine⟨_,hrel,rfl,rfl,_,QWC d E ac body u2 u1 l l2 p many' f' g',?_⟩
  rotate_left
  .cases b3
  have h:QY d p<=t:=by have:=qdf b0;omega
  refine⟨_,last h,rfl,rfl,_,QMj d E ac body (QD l) l many f g p,?_⟩
  rotate_left
  all_goals first|((with_reducible show _=true);(first|rfl|(refine KA.2 ?_;repeat' first|with_reducible refine QP ?_ ?_|exact tv|with_reducible exact qRr|with_reducible exact hlen|with_reducible exact hlen.symm|with_reducible exact Nat.le_of_eq hlen|with_reducible exact qD l ⟨p,t⟩|with_reducible exact W9 l _ p t|exact rfl|refine aI ?_ ?_)|(rw[hw1];simp)|(simp;omega)))|(repeat' first|with_reducible refine QP ?_ ?_|exact tv|with_reducible exact qRr|with_reducible exact hw|with_reducible exact hpop|with_reducible exact hle|with_reducible exact hq|with_reducible exact hb|exact rfl|refine aI ?_ ?_)
def Qb.s{σ:Type}:Qb σ->σ
 | .go s=>s
 | .stop s=>s
def Qb.isGo:Qb σ->Bool
 | .go _=>true
 | .stop _=>false
def QCg(l:List Lay)(p:Nat):Prop:=∀ t,t<QY d p->∀ s,QS prog 103 (uFC (Xm d E ac body (l++[⟨p,t⟩]) s (rec (l++[⟨p,t⟩]) s)))
theorem QbE{d:Puz}{E:ECt}{ac body:Code}{rec:List Lay->SoS->Qb SoS}{l:List Lay}(hd:KB d)(hE:WfE E)(hl:l.length<=1000)(hL:∀ y∈l,Q8 d y)(hp:p<d.ps.n)(IH:QCg d E ac body rec l p)(k:Nat×SoS):(q8 prog d E ac body rec l p k).Sound:=by
 unfold q8 WH
 by_cases h:k.1<QY d p
 .rw[if_pos h];have h4:=(WX d p).2;exact QO ((Qf.add (QDD d E l ⟨p,k.1⟩ hd hE hl hL ⟨⟨by show(0:Int)<=p;omega,by show(p:Int)<_;omega⟩,by show(0:Int)<=k.1;omega,by show(k.1:Int)<=3;omega⟩)).add (IH k.1 h k.2))
 .rw[if_neg h];exact QO ((Qf.add (Jr (by kernel_rfl) _)).add (Jr (by kernel_rfl) _))
def QAd(l:List Lay)(p:Nat)(s:SoS):List (Prop×Ex×JSt):=
 [((inZ d E rec l p s).isGo=true,.exit 2,QBe d E ac body (QD l) l (inZ d E rec l p s).s.1 (inZ d E rec l p s).s.2.1 (inZ d E rec l p s).s.2.2 p),((inZ d E rec l p s).isGo=false,.ret,soF d E ac body (QD l) l (inZ d E rec l p s).s.1 (inZ d E rec l p s).s.2.1 (inZ d E rec l p s).s.2.2)]
theorem QCq{l:List Lay}(h:QD l p 0=0):KK l p=false:=by
 unfold QD at h;cases hb:KK l p with
 | false=>rfl
 | true=>rw[hb]at h;cases h
theorem QX0{d:Puz}{E:ECt}{ac body:Code}{rec:List Lay->SoS->Qb SoS}{l:List Lay}(hd:KB d)(hE:WfE E)(hl:l.length<=1000)(hL:∀ y∈l,Q8 d y)(p:Nat)(s:SoS)(IH:p<d.ps.n->QCg d E ac body rec l p)(G:Ctx)(hrd:G.rd=none)(hG:G.n<=464):
  Qx (mkE prog (W3 QQ d l.length p)) G (QCI prog QQ d E ac body (QD l) l s.1 s.2.1 s.2.2 p (QAd d E ac body rec l p s)) (QI f103 0):=by
 have hT:Qd (W3 QQ d l.length p):=Qf.add (YR d l.length p);refine KO (body:=QZ (QI f103 0)) (QO hT) hrd (by kernel_rfl) ?_
 refine Jj λhp=>?_;have hu:=QCq hp.2;have hEnv:=QbE (ac:=ac) (body:=body) hd hE hl hL hp.1 (IH hp.1);refine Jq (E0:=mkE prog (W3 QQ d l.length p)) (E:=q8 prog d E ac body rec l p) (H:=λk=>hnd (q8 prog d E ac body rec l p k) 0) (n0:=464) (s0:=(0,s)) (λ_=>rfl) hEnv hG (λk _=>Qw (hEnv k) 0 G _ hrd) (λk _=>(by decide:464<=504)) ?_ (QbU d E ac body rec l p hp.1 hd.n hl hu) (Nat.zero_le _) ?_
 .intro k e J hr;unfold ZL at hr;split at hr<;>(rw[hr.2];exact(by decide:464<=504))
 .intro e J hr;unfold ZL at hr;simp only[List.drop_zero]at hr;have hi:inZ d E rec l p s=Qv (KE d E rec l p) (List.range (QY d p)) s:=rfl;unfold QAd;rw[hi];cases hc:Qv (KE d E rec l p) (List.range (QY d p)) s with
  | go s'=>
   rw[hc]at hr;exact⟨_,qmc,rfl,hr.1.symm,hr.2.symm⟩
  | stop s'=>
   rw[hc]at hr;exact⟨_,List.mem_cons_of_mem _ qmc,rfl,hr.1.symm,hr.2.symm⟩
def X8(l:List Lay)(k:Nat×SoS)(e:Ex)(J:JSt):Prop:=match Qv (Kr d E rec l) ((List.range d.ps.n).drop k.1) k.2 with
 | .go s'=>e = .exit 0/\J=vo d E ac body (QD l) l s'.1 s'.2.1 s'.2.2
 | .stop s'=>e = .ret/\J=soF d E ac body (QD l) l s'.1 s'.2.1 s'.2.2
theorem Ve{l:List Lay}:decide (QD l ((p:Int).toNat+0) 0=1)=KK l p:=by
 show decide (cond (KK l p) (1:Int) 0=1)=KK l p;cases KK l p<;>rfl
set_option maxHeartbeats 1000000 in
theorem QVP(l:List Lay)(hn:d.ps.n<=1000):JW (λk:Nat×SoS=>vq d E ac body (QD l) l k.2.1 k.2.2.1 k.2.2.2 k.1) (λk=>k.1<=d.ps.n) (λk=>d.ps.n-k.1) (X8 d E ac body rec l) 464 QN8 Zz (λk=>mkE prog (W3 QQ d l.length k.1)) (λk=>QCI prog QQ d E ac body (QD l) l k.2.1 k.2.2.1 k.2.2.2 k.1 (QAd d E ac body rec l k.1 k.2)) (QI f103 0):=by
 refine⟨λk g0 hk=>?_⟩;obtain⟨p,many,f,g⟩:=k;have hk:p<=d.ps.n:=hk;have wp:p<d.ps.n->i64.wrap ((p:Int)+1)=((p+1:Nat):Int):=λh=>VT h hn;have step:=λh:p<d.ps.n=>Wx (f:=Kr d E rec l) h (many,f,g)
 have next:p<d.ps.n->∀{s2:SoS},Kr d E rec l (many,f,g) p = .go s2->∀ e J,X8 d E ac body rec l (p+1,s2) e J->X8 d E ac body rec l (p,many,f,g) e J:=by
  intro h s2 he e J hr;unfold X8 at hr ⊢;simp only at hr ⊢;rw[step h,he];exact hr
 have stop:p<d.ps.n->∀{s2:SoS},Kr d E rec l (many,f,g) p = .stop s2->X8 d E ac body rec l (p,many,f,g) .ret (soF d E ac body (QD l) l s2.1 s2.2.1 s2.2.2):=by
  intro h s2 he;unfold X8;simp only[step h,he,and_self]
 have last:d.ps.n<=p->X8 d E ac body rec l (p,many,f,g) (.exit 0) (vo d E ac body (QD l) l many f g):=by
  intro h;unfold X8;simp only[qe h,and_self]
 have hpz:KK l p=false->Kr d E rec l (many,f,g) p=inZ d E rec l p (many,f,g):=λh=>by unfold Kr;rw[h];rfl
 have hpu:KK l p=true->Kr d E rec l (many,f,g) p = .go (many,f,g):=λh=>by unfold Kr;rw[h];rfl
 unfold QAd;simp only;cases hr:inZ d E rec l p (many,f,g)with
 | go s'=>
  obtain⟨many',f',g'⟩:=s';simp only[Qb.isGo,Qb.s,Bool.true_eq_false,Bool.false_eq_true];have et:=QQD QQ d E ac body (QD l) (QD l) l many f g p True False many' f' g' g0;refine Qg et ?_;clear et;refine QF (λb0=>?_) (λb0=>?_);have h:p<d.ps.n:=by have:=qdt b0;omega
  have hw:=wp h
  iterate 2 (refine QG ?_ ?_;rotate_left)
  refine QF (λb1=>?_) (λb1=>?_);have hub:KK l p=true:=Ve.symm.trans b1;refine⟨(p+1,many,f,g),h,by show d.ps.n-(p+1)<d.ps.n-p;omega,next h (hpu hub),rfl,rfl,_,QR1 d E ac body (QD l) l many f g p (p+1),?_⟩
  rotate_left
  have hub:KK l p=false:=Ve.symm.trans b1;have hu0:QD l p 0=0:=by unfold QD;rw[hub];rfl
  refine QG ?_ ?_;rotate_left
  iterate 132 refine Qq (by first|exact tv|exact⟨h,hu0⟩|with_reducible exact qRr|exact rfl) ?_
  refine Kf ?_ ?_;refine Qh λa0=>?_;refine Qj λg0=>?_;refine⟨(p+1,many',f',g'),h,by show d.ps.n-(p+1)<d.ps.n-p;omega,next h ((hpz hub).trans hr),rfl,rfl,_,QaM d E ac body (QD l) l p (p+1) many' f' g',?_⟩
  rotate_left
  refine Qh λa1=>?_;refine Qj λg1=>?_
  .exact a1.elim
  have h:d.ps.n<=p:=by have:=qdf b0;omega
  refine⟨_,last h,rfl,rfl,_,QSK d E ac body (QD l) l many f g,?_⟩
  rotate_left
  all_goals first|((with_reducible show _=true);(first|(refine KA.2 ?_;repeat' first|exact tv|with_reducible exact qRr|exact rfl|refine aI ?_ ?_)|(simp;omega)))|(repeat' first|with_reducible refine QP ?_ ?_|exact tv|with_reducible exact qRr|with_reducible exact hw|exact rfl|refine aI ?_ ?_)
 | stop s'=>
  obtain⟨many',f',g'⟩:=s';simp only[Qb.isGo,Qb.s,Bool.true_eq_false,Bool.false_eq_true];have et:=QQD QQ d E ac body (QD l) (QD l) l many f g p False True many' f' g' g0;refine Qg et ?_;clear et;refine QF (λb0=>?_) (λb0=>?_);have h:p<d.ps.n:=by have:=qdt b0;omega
  have hw:=wp h
  iterate 2 (refine QG ?_ ?_;rotate_left)
  refine QF (λb1=>?_) (λb1=>?_);have hub:KK l p=true:=Ve.symm.trans b1;refine⟨(p+1,many,f,g),h,by show d.ps.n-(p+1)<d.ps.n-p;omega,next h (hpu hub),rfl,rfl,_,QR1 d E ac body (QD l) l many f g p (p+1),?_⟩
  rotate_left
  have hub:KK l p=false:=Ve.symm.trans b1;have hu0:QD l p 0=0:=by unfold QD;rw[hub];rfl
  refine QG ?_ ?_;rotate_left
  iterate 132 refine Qq (by first|exact tv|exact⟨h,hu0⟩|with_reducible exact qRr|exact rfl) ?_
  refine Kf ?_ ?_;refine Qh λa0=>?_;refine Qj λg0=>?_
  .exact a0.elim
  refine Qh λa1=>?_;refine Qj λg1=>?_;refine⟨_,stop h ((hpz hub).trans hr),rfl,rfl,_,Qcj d E ac body (QD l) l many' f' g',?_⟩
  rotate_left
  have h:d.ps.n<=p:=by have:=qdf b0;omega
  refine⟨_,last h,rfl,rfl,_,QSK d E ac body (QD l) l many f g,?_⟩
  rotate_left
  all_goals first|((with_reducible show _=true);(first|(refine KA.2 ?_;repeat' first|exact tv|with_reducible exact qRr|exact rfl|refine aI ?_ ?_)|(simp;omega)))|(repeat' first|with_reducible refine QP ?_ ?_|exact tv|with_reducible exact qRr|with_reducible exact hw|exact rfl|refine aI ?_ ?_)
noncomputable abbrev VF:Code:=(QN f24 0).1
noncomputable abbrev VG:Code:=(QN f24 0).2
theorem QOt(l:List Lay)(many:Int)(f g:List Lay)(many':Int)(f' g':List Lay):(VB d E ac body u l many f g many' f' g').Ok:=by
 refine⟨(by decide:424<=464),rfl,rfl,?_,rfl,λ_ _=>rfl,λnid h=>?_⟩
 .intro q hq;simp only[UC.po,VB,YZ,rwY,rwU,List.mem_cons,List.not_mem_nil,or_false]at hq;rcases hq with rfl|rfl|rfl|rfl|rfl|rfl|rfl|rfl|rfl|rfl|rfl<;>refine⟨rfl,rfl,rfl,?_⟩<;>first|exact λ_=>rfl|exact λh=>absurd (show 464<424 from h) (by decide)|exact λh=>absurd (show 465<424 from h) (by decide)|exact λh=>absurd (show 466<424 from h) (by decide)|exact λh=>absurd (show 467<424 from h) (by decide)
 .have e0:=KZ 424 464 0 nid (by decide)
  have e1:=KZ 424 464 1 nid (by decide)
  have e2:=KZ 424 464 2 nid (by decide)
  have e3:=KZ 424 464 3 nid (by decide)
  simp only[UC.po,VB,YZ,rwY,rwU,Gp,YP,KX,Qm.val,List.cons_append,List.nil_append,List.map_cons,List.map_nil,Blk.mapId,AV.mapId,AV.mapIdL,Nat.add_zero]at e0 e1 e2 e3 ⊢;rw[e0,e1,e2,e3];rfl
theorem QLi(l:List Lay)(many:Int)(f g:List Lay)(many':Int)(f' g':List Lay):(Xa d E ac body u l many f g many' f' g').Ok:=by
 refine⟨(by decide:424<=464),rfl,rfl,?_,rfl,λ_ _=>rfl,λnid h=>?_⟩
 .intro q hq;simp only[UC.po,Xa,YZ,rwY,rwU,List.mem_cons,List.not_mem_nil,or_false]at hq;rcases hq with rfl|rfl|rfl|rfl|rfl|rfl|rfl|rfl|rfl|rfl|rfl<;>refine⟨rfl,rfl,rfl,?_⟩<;>first|exact λ_=>rfl|exact λh=>absurd (show 464<424 from h) (by decide)|exact λh=>absurd (show 465<424 from h) (by decide)|exact λh=>absurd (show 466<424 from h) (by decide)|exact λh=>absurd (show 467<424 from h) (by decide)
 .have e0:=KZ 424 464 0 nid (by decide)
  have e1:=KZ 424 464 1 nid (by decide)
  have e2:=KZ 424 464 2 nid (by decide)
  have e3:=KZ 424 464 3 nid (by decide)
  simp only[UC.po,Xa,YZ,rwY,rwU,Gp,YP,KX,Qm.val,List.cons_append,List.nil_append,List.map_cons,List.map_nil,Blk.mapId,AV.mapId,AV.mapIdL,Nat.add_zero]at e0 e1 e2 e3 ⊢;rw[e0,e1,e2,e3];rfl
theorem QSd(T:Tab)(hT:Qd T)(G:Ctx)(hrd:G.rd=none):Qx (mkE prog T) G (soN prog T) (Ql f103):=
 KO (body:=QI f103 0) (QO hT) hrd (by kernel_rfl) (λ_ _ _ _ _ _ _ h _ _=>h.elim)
set_option maxHeartbeats 1000000 in
theorem QhH(s:SoS)(hn:l.length=d.ps.n)(hpos:0<l.length)(hl:l.length<=1000):QS prog 103 (uFC (Xm d E VF VG l s (ZK l s))):=by
 obtain⟨many,f,g⟩:=s;have hT:Qd (QB0 QQ l):=Qf.add (QQc l hpos hl);have et:=QZL QQ d E (QD l) l many f g;have hlen:((l.length:Int)==(d.ps.n:Int))=true:=by rw[hn];simp
 unfold ZK;simp only;cases h100:i64.wrap (many+1)==100 with
 | true=>
  have h1:(i64.wrap (many+1)==1)=false:=by rw[beq_iff_eq.1 h100];rfl
  have h2:(i64.wrap (many+1)==2)=false:=by rw[beq_iff_eq.1 h100];rfl
  rw[h1,h2];simp only[cond_true,cond_false,Xm];refine Ky (E:=mkE prog (QB0 QQ l)) (QO hT) func103 (by kernel_rfl) (by kernel_rfl) (QLi ..) (λG hG _=>QSd _ hT G hG) ⟨?_⟩
  refine Qg et ?_;clear et;refine QF (λb0=>?_) (λb0=>?_);refine QF ?_ ?_<;>intro b1
  .exact Bool.noConfusion (h1.symm.trans b1)
  refine QF ?_ ?_<;>intro b3
  .exact Bool.noConfusion (h2.symm.trans b3)
  refine QF (λb5=>?_) (λb5=>?_);refine⟨rfl,rfl,_,Qf3 d E (QD l) l many f g _ f g,?_⟩
  rotate_left
  .exact Bool.noConfusion (h100.symm.trans b5)
  .exact Bool.noConfusion (hlen.symm.trans b0)
  all_goals (repeat' first|with_reducible refine QP ?_ ?_|exact tv|with_reducible exact qRr|exact rfl|refine aI ?_ ?_)
 | false=>
  simp only[cond_false,Xm];refine Ky (E:=mkE prog (QB0 QQ l)) (QO hT) func103 (by kernel_rfl) (by kernel_rfl) (QOt ..) (λG hG _=>QSd _ hT G hG) ⟨?_⟩
  refine Qg et ?_;clear et;refine QF (λb0=>?_) (λb0=>?_);refine QF (λb1=>?_) (λb1=>?_);refine QG ?_ ?_;rotate_left;refine QF ?_ ?_<;>intro b2
  .exact Bool.noConfusion (h100.symm.trans b2)
  rw[b1];simp only[cond_true];refine⟨rfl,rfl,_,Qe4 d E (QD l) l many f g _ l g,?_⟩
  rotate_left
  refine QF (λb3=>?_) (λb3=>?_);refine QG ?_ ?_;rotate_left;refine QF ?_ ?_<;>intro b4
  .exact Bool.noConfusion (h100.symm.trans b4)
  rw[b1,b3];simp only[cond_true,cond_false];refine⟨rfl,rfl,_,QgQ d E (QD l) l many f g _ f l,?_⟩
  rotate_left
  refine QF ?_ ?_<;>intro b5
  .exact Bool.noConfusion (h100.symm.trans b5)
  rw[b1,b3];simp only[cond_false];refine⟨rfl,rfl,_,QUX d E (QD l) l many f g _ f g,?_⟩
  rotate_left
  .exact Bool.noConfusion (hlen.symm.trans b0)
  all_goals first|((with_reducible show _=true);((refine KA.2 ?_;repeat' first|exact tv|with_reducible exact qRr|exact rfl|refine aI ?_ ?_)))|(repeat' first|with_reducible refine QP ?_ ?_|exact tv|with_reducible exact qRr|exact rfl|refine aI ?_ ?_)
theorem QTM{d:Puz}{E:ECt}{ac body:Code}{rec:List Lay->SoS->Qb SoS}{l:List Lay}(hd:KB d)(hE:WfE E)(hl:l.length<=1000)(hL:∀ y∈l,Q8 d y)(s:SoS)(IH:∀ p,p<d.ps.n->QCg d E ac body rec l p){X:List (Prop×Ex×JSt)}(hX:∀ e J,X8 d E ac body rec l (0,s) e J->∃ y∈X,y.1/\y.2.1=e/\y.2.2=J)(G:Ctx)(hrd:G.rd=none)(hG:G.n=464):
  Qx (mkE prog QT) G (soX prog (vq d E ac body (QD l) l s.1 s.2.1 s.2.2 0) X) (Ql f103):=by
 refine KO (body:=QI f103 0) (QO Qf) hrd (by kernel_rfl) ?_
 have hEnv:∀ k:Nat×SoS,(mkE prog (W3 QQ d l.length k.1)).Sound:=λk=>QO (Qf.add (YR d l.length k.1));refine Jq (E0:=mkE prog QT) (E:=λk:Nat×SoS=>mkE prog (W3 QQ d l.length k.1)) (H:=λk=>QCI prog QQ d E ac body (QD l) l k.2.1 k.2.2.1 k.2.2.2 k.1 (QAd d E ac body rec l k.1 k.2)) (n0:=464) (s0:=(0,s)) (λ_=>rfl) hEnv (by omega) (λk _=>QX0 hd hE hl hL k.1 k.2 (IH k.1) G hrd (by omega)) (λk _=>(by decide:464<=504)) ?_ (QVP d E ac body rec l hd.n) (Nat.zero_le _) hX
 intro k e J hr;unfold X8 at hr;split at hr<;>(rw[hr.2];exact(by decide:464<=504))
set_option maxHeartbeats 1000000 in
theorem QgN{d:Puz}{E:ECt}(hd:KB d)(hE:WfE E){k:Nat}{l:List Lay}(hk:l.length+(k+1)=d.ps.n)(hL:∀ y∈l,Q8 d y)(IH:∀ p,p<d.ps.n->QCg d E VF VG (onZ d E k) l p)(s:SoS):QS prog 103 (uFC (Xm d E VF VG l s (onZ d E (k+1) l s))):=by
 have hdn:=hd.n;have hr0:onZ d E (k+1) l s=Qv (Kr d E (onZ d E k) l) (List.range d.ps.n) s:=rfl;rw[hr0];have hne:((l.length:Int)==(d.ps.n:Int))=false:=by rw[beq_eq_false_iff_ne];omega
 obtain⟨many,f,g⟩:=s;cases hc:Qv (Kr d E (onZ d E k) l) (List.range d.ps.n) (many,f,g)with
 | go s'=>
  obtain⟨many',f',g'⟩:=s';simp only[Xm];have et:=QMf d E (QD l) (QD l) l many f g True False many' f' g';refine Ky (E:=mkE prog QT) (QO Qf) func103 (by kernel_rfl) (by kernel_rfl) (QOt ..) (QTM hd hE (by omega) hL (many,f,g) IH (X:=[(True,.exit 0,vo d E VF VG (QD l) l many' f' g'),(False,.ret,soF d E VF VG (QD l) l many' f' g')]) ?_) ⟨?_⟩
  .intro e J hr;unfold X8 at hr;simp only[List.drop_zero,hc]at hr;exact⟨_,qmc,trivial,hr.1.symm,hr.2.symm⟩
  refine Qg et ?_;clear et;refine QF ?_ ?_<;>intro b0
  .exact Bool.noConfusion (hne.symm.trans b0)
  iterate 128 refine Qq (by first|exact tv|with_reducible exact qRr|exact rfl) ?_
  refine Kf ?_ ?_;refine Qh λa0=>?_;refine Qj λg0=>?_;refine⟨rfl,rfl,_,QYj d E (QD l) (QD l) l many f g many' f' g',?_⟩
  rotate_left
  refine Qh λa1=>?_;refine Qj λg1=>?_
  .exact a1.elim
  all_goals (repeat' first|with_reducible refine QP ?_ ?_|exact tv|with_reducible exact qRr|exact rfl|refine aI ?_ ?_)
 | stop s'=>
  obtain⟨many',f',g'⟩:=s';simp only[Xm];have et:=QMf d E (QD l) (QD l) l many f g False True many' f' g';refine Ky (E:=mkE prog QT) (QO Qf) func103 (by kernel_rfl) (by kernel_rfl) (QLi ..) (QTM hd hE (by omega) hL (many,f,g) IH (X:=[(False,.exit 0,vo d E VF VG (QD l) l many' f' g'),(True,.ret,soF d E VF VG (QD l) l many' f' g')]) ?_) ⟨?_⟩
  .intro e J hr;unfold X8 at hr;simp only[List.drop_zero,hc]at hr;exact⟨_,List.mem_cons_of_mem _ qmc,trivial,hr.1.symm,hr.2.symm⟩
  refine Qg et ?_;clear et;refine QF ?_ ?_<;>intro b0
  .exact Bool.noConfusion (hne.symm.trans b0)
  iterate 128 refine Qq (by first|exact tv|with_reducible exact qRr|exact rfl) ?_
  refine Kf ?_ ?_;refine Qh λa0=>?_;refine Qj λg0=>?_
  .exact a0.elim
  refine Qh λa1=>?_;refine Qj λg1=>?_;refine⟨rfl,rfl,_,Qdj d E (QD l) (QD l) l many f g many' f' g',?_⟩
  rotate_left
  all_goals (repeat' first|with_reducible refine QP ?_ ?_|exact tv|with_reducible exact qRr|exact rfl|refine aI ?_ ?_)
theorem QCK{d:Puz}{l:List Lay}{p t:Nat}(hp:p<d.ps.n)(ht:t<QY d p)(hL:∀ y∈l,Q8 d y):∀ y∈l++[(⟨p,t⟩:Lay)],Q8 d y:=by
 intro y hy;rcases List.mem_append.1 hy with q|q
 .exact hL y q
 .have h4:=(WX d p).2;rw[List.mem_singleton.1 q];exact⟨⟨by show(0:Int)<=p;omega,by show(p:Int)<_;omega⟩,by show(0:Int)<=t;omega,by show(t:Int)<=3;omega⟩
theorem QWO{d:Puz}{E:ECt}(hn:d.ps.n<=1000)(hpos:0<d.ps.n)(l:List Lay)(s:SoS)(hk:l.length=d.ps.n):QS prog 103 (uFC (Xm d E VF VG l s (onZ d E 0 l s))):=by
 have h0:onZ d E 0 l s=ZK l s:=rfl;have h1:0<l.length:=by rw[hk];exact hpos
 have h2:l.length<=1000:=by rw[hk];exact hn
 rw[h0];exact QhH d E l s hk h1 h2
theorem QCj(x:Lay){k n:Nat}(h:l.length+(k+1)=n):(l++[x]).length+k=n:=by
 rw[List.length_append,List.length_singleton];omega
theorem Qh1{d:Puz}{E:ECt}(hd:KB d)(hE:WfE E)(hpos:0<d.ps.n)(k:Nat):∀(l:List Lay) (s:SoS),l.length+k=d.ps.n->(∀ y∈l,Q8 d y)->QS prog 103 (uFC (Xm d E VF VG l s (onZ d E k l s))):=by
 induction k with
 | zero=>exact λl s hk _=>QWO hd.n hpos l s hk
 | succ k ih=>
  intro l s hk hL;refine QgN hd hE hk hL ?_ s;intro p hp t ht s;exact ih _ s (QCj l _ hk) (QCK hp ht hL)
def XY(pb:List Prop->Bool)(d:Puz)(E:ECt)(U:UC):Tab:=Qa (Qa QT 60 (KG pb (nbU d E))) 103 (KG pb U)
def Gm(m e:Int):AV := .tup [.slz 0 0 f.length (.of 0),.slz 1 0 g.length (.of 0),.int false .i64 m,.int false .i64 e]
def vI:List (Nat×Blk):=[rwY 0 f,rwY 1 g]
abbrev QOf:List Prop:=
  (wab d++([cO=cO]++wae d))
abbrev QLh(d:Puz)(u:Nat->Nat->Int):List Prop:=
  ((wbo++[0=0])++wab d++(([cO=cO,0=0,E.1=E.1,E.2=E.2,0=0]++wbH d++[QB 1 d.ps.n (λx x_1=>(0:Int)) u])++wai++([Array.mk
  [18]=Array.mk [18]]++wbD))++wab d++([cO =
  cO]++wbZ)++wab d++(([cO=cO]++wbO++(wbX++[(0:Int)=0,0=0,0=0,0=0,0=0,Fn.func 103=Fn.func 103]))++wbo++[0=0,0=0,0=0])++wab d++([cO=cO]++wae d))
noncomputable abbrev QK2:List (Nat×Blk):=
  [(449,.rowz true 49 kB f'.length λi=>QA.enc (f'.getD i (Lay.mk (0:Int) (0:Int)))),(450,.rowz true 49 kB g'.length λi=>
  QA.enc (g'.getD i (Lay.mk (0:Int) (0:Int))))]
theorem QKP(pb:List Prop->Bool)(d:Puz)(E:ECt)(u:Nat->Nat->Int)(many':Int)(f' g':List Lay):Kn (mkE prog (XY pb d E (VB d E (QN f24 0).1 (QN f24 0).2 u [] 0 [] [] many' f' g'))) (hnd (mkE prog (XY pb d E (VB d E (QN f24 0).1 (QN f24 0).2 u [] 0 [] [] many' f' g'))) 8) f24 (Qe.vals 0 ((d,()):Puz×Unit)) (Qe.blks 0 ((d,()):Puz×Unit)) 96 = .need (decide (d.ps.n<=d.ps.n)&&true&&decide (d.ps.n<=1000)) (.br (!d.ok) (.leaf (.tup [.nils,.nils,vj 0,vj 1]) ([])) (.need (pb ((QOf d))) (.need (decide ((d.ps.n:Int)=(d.ps.n:Int))&&decide ((0:Int)<=(d.ps.n:Int)/\(d.ps.n:Int)<=17179869184)) (.need (pb ((QLh E d u))) (.br (many'==0) (.leaf (.tup [.nils,.nils,vj 0, vj 4]) ([])) (.leaf (.tup [.slz 449 0 f'.length cO,.slz 450 0 g'.length cO,vi many',vj 0]) ((QK2 f' g')))))))):=by kernel_rfl
theorem QVt(pb:List Prop->Bool)(d:Puz)(E:ECt)(u:Nat->Nat->Int)(many':Int)(f' g':List Lay):Kn (mkE prog (XY pb d E (Xa d E (QN f24 0).1 (QN f24 0).2 u [] 0 [] [] many' f' g'))) (hnd (mkE prog (XY pb d E (Xa d E (QN f24 0).1 (QN f24 0).2 u [] 0 [] [] many' f' g'))) 8) f24 (Qe.vals 0 ((d,()):Puz×Unit)) (Qe.blks 0 ((d,()):Puz×Unit)) 96 = .need (decide (d.ps.n<=d.ps.n)&&true&&decide (d.ps.n<=1000)) (.br (!d.ok) (.leaf (.tup [.nils,.nils,vj 0,vj 1]) ([])) (.need (pb ((QOf d))) (.need (decide ((d.ps.n:Int)=(d.ps.n:Int))&&decide ((0:Int)<=(d.ps.n:Int)/\(d.ps.n:Int)<=17179869184)) (.need (pb ((QLh E d u))) (.br (many'==0) (.leaf (.tup [.nils,.nils,vj 0, vj 4]) ([])) (.leaf (.tup [.slz 449 0 f'.length cO,.slz 450 0 g'.length cO,vi many',vj 0]) ((QK2 f' g')))))))):=by kernel_rfl
theorem Qaa(m e':Int):QE 96 [(AV.tup [AV.nils,AV.nils,vj (0:Int),vj (1:Int)])] ([]) (KN 96 (Gm f g m e') (vI f g))=( some [f.length=(0:Nat),g.length=(0:Nat),(0:Int)=m,(1:Int)=e',f.length=(0:Nat),g.length=(0:Nat)]):=by kernel_rfl
theorem Qhh(m e':Int):QE 96 [(AV.tup [AV.nils,AV.nils,vj (0:Int),vj (4:Int)])] ([]) (KN 96 (Gm f g m e') (vI f g))=( some [f.length=(0:Nat),g.length=(0:Nat),(0:Int)=m,(4:Int)=e',f.length=(0:Nat),g.length=(0:Nat)]):=by kernel_rfl
noncomputable abbrev wbf(f:List Lay)(f':List Lay)(g:List Lay)(g':List Lay):List Prop:=[f.length<=f'.length,QB (2:Nat) f.length (λi=>QA.enc (f'.getD i (Lay.mk (0:Int) (0:Int)))) λi=>QA.enc (f.getD i (Lay.mk (0:Int) (0:Int))),g.length<=g'.length,QB (2:Nat) g.length (λi=>QA.enc (g'.getD i (Lay.mk (0:Int) (0:Int)))) λi=>QA.enc (g.getD i (Lay.mk (0:Int) (0:Int)))]
theorem QcO(f' g' f g:List Lay)(m e':Int):QE 96 [(AV.tup [AV.slz (449:Nat) (0:Nat) f'.length cO,AV.slz (450:Nat) (0:Nat) g'.length cO,vi many',vj (0:Int)])] ([((449:Nat),Blk.rowz true (49:Nat) [CK.int i64,CK.int i64] f'.length λi=>QA.enc (f'.getD i (Lay.mk (0:Int) (0:Int)))),((450:Nat),Blk.rowz true (49:Nat) [CK.int i64,CK.int i64] g'.length λi=>QA.enc (g'.getD i (Lay.mk (0:Int) (0:Int))))]) (KN 96 (Gm f g m e') (vI f g))=( some ([0=0,f'.length=f.length,cO=cO,0=0,g'.length=g.length,cO=cO,many'=m,(0:Int)=e']++wbf f f' g g')):=by kernel_rfl
theorem Qa4(m e':Int):QE 96 [(AV.tup [AV.nils,AV.nils,vj (0:Int),vj (4:Int)])] ([]) (KN 96 (Gm f g m e') (vI f g))=( some [f.length=(0:Nat),g.length=(0:Nat),(0:Int)=m,(4:Int)=e',f.length=(0:Nat),g.length=(0:Nat)]):=by kernel_rfl
theorem Qev(f' g' f g:List Lay)(m e':Int):QE 96 [(AV.tup [AV.slz (449:Nat) (0:Nat) f'.length cO,AV.slz (450:Nat) (0:Nat) g'.length cO,vi many',vj (0:Int)])] ([((449:Nat),Blk.rowz true (49:Nat) [CK.int i64,CK.int i64] f'.length λi=>QA.enc (f'.getD i (Lay.mk (0:Int) (0:Int)))),((450:Nat),Blk.rowz true (49:Nat) [CK.int i64,CK.int i64] g'.length λi=>QA.enc (g'.getD i (Lay.mk (0:Int) (0:Int))))]) (KN 96 (Gm f g m e') (vI f g))=( some ([0=0,f'.length=f.length,cO=cO,0=0,g'.length=g.length,cO=cO,many'=m,(0:Int)=e']++wbf f f' g g')):=by kernel_rfl
theorem WQ{d:Puz}(h:d.okN=true):KB d/\0<d.ps.n/\d.ps.n<=9:=by
 simp only[Puz.okN,Qz,qbA,qdE,beq_iff_eq]at h;obtain⟨⟨h1,h2⟩,⟨h3,h4⟩,⟨h5,h6⟩,h7⟩:=h;have hm:d.wide*d.high<=9*9:=Int.mul_le_mul (by omega) (by omega) (by omega) (by omega)
 have hm0:0<=d.wide*d.high:=Int.mul_nonneg (by omega) (by omega)
 rw[w64 (by omega) (by omega)]at h7
 exact⟨⟨by omega,h3,h4,h5,h6,h7⟩,by omega,by omega⟩
theorem Zl{d:Puz}(h:d.ok=true):d.okN=true:=by
 rw[Puz.ok,qbA]at h;exact h.1
def QH:List Lay×List Lay×Int×Int:=cond d.ok
 (match onZ d (QK d) d.ps.n [] (0,[],[])with
  | .go s | .stop s=>cond (s.1==0) ([],[],0,4) (s.2.1,s.2.2,s.1,0))
 ([],[],0,1)
def Xj:WF (Puz×Unit):=λ|(d,_)=>(decide (d.ps.n<=1000),Gm (QH d).1 (QH d).2.1 (QH d).2.2.1 (QH d).2.2.2,vI (QH d).1 (QH d).2.1)
def QG1:FC:=wFC Xj
theorem QGu:WOk (Xj (d,())).2.1 (Xj (d,())).2.2:=⟨rfl,by simp[Xj,vI,rwY,Blk.own,Blk.all],rfl⟩
theorem Qfa(hn:d.ps.n<=1000)(hx:d.ok=false):QS prog 24 (wFC (VW Xj (d,()))):=by
 have hT:Qd (XY (λ_=>false) d (QK d) (VB d (QK d) VF VG (QD []) [] 0 [] [] 0 [] [])):=(Qf.add (Jr (by kernel_rfl) _)).add (Jr (by kernel_rfl) _)
 have hv:QH d=([],[],0,1):=by simp only[QH,hx,cond_false]
 refine Yh (c:=Ql f24) (E:=mkE prog (XY (λ_=>false) d (QK d) (VB d (QK d) VF VG (QD []) [] 0 [] [] 0 [] []))) (H:=hnd (mkE prog (XY (λ_=>false) d (QK d) (VB d (QK d) VF VG (QD []) [] 0 [] [] 0 [] []))) 8) (QO hT) func24 (by kernel_rfl) (by kernel_rfl) (N:=96) (by decide) (d,()) (λG h1 _=>Qw (QO hT) 8 G _ h1) (QGu d) ?_
 refine Qg (QKP (λ_=>false) d (QK d) (QD []) 0 [] []) ?_;refine QG (by simp;omega) (QF (λ_=>?_) (λh=>by rw[hx]at h;cases h))
 simp only[Xj,hv];refine⟨rfl,rfl,_,Qaa [] [] 0 1,?_⟩
 repeat' first|with_reducible refine QP ?_ ?_|exact tv|with_reducible exact qRr|exact rfl|refine aI ?_ ?_
theorem QUi(hx:d.ok=true):QS prog 24 (wFC (VW Xj (d,()))):=by
 obtain⟨hd,hpos,h9⟩:=WQ (Zl hx);have hon:=Qh1 hd (Zo d hd.n).w hpos d.ps.n [] (0,[],[]) (by simp) (λc hc=>by cases hc)
 have hdn:=hd.n;have hz:∀ k,QB 1 k (λ_ _=>0) (QD []):=λk i _=>⟨rfl,trivial⟩;cases he:onZ d (QK d) d.ps.n [] (0,[],[])with
 | go s=>
  rw[he]at hon;have hT:Qd (XY QQ d (QK d) (VB d (QK d) VF VG (QD []) [] 0 [] [] s.1 s.2.1 s.2.2)):=(Qf.add (WI d (by omega))).add hon
  have hv:QH d=cond (s.1==0) ([],[],0,4) (s.2.1,s.2.2,s.1,0):=by
   simp only[QH,hx,he,cond_true]
  refine Yh (c:=Ql f24) (E:=mkE prog (XY QQ d (QK d) (VB d (QK d) VF VG (QD []) [] 0 [] [] s.1 s.2.1 s.2.2))) (H:=hnd (mkE prog (XY QQ d (QK d) (VB d (QK d) VF VG (QD []) [] 0 [] [] s.1 s.2.1 s.2.2))) 8) (QO hT) func24 (by kernel_rfl) (by kernel_rfl) (N:=96) (by decide) (d,()) (λG h1 _=>Qw (QO hT) 8 G _ h1) (QGu d) ?_
  have et:=QKP QQ d (QK d) (QD []) s.1 s.2.1 s.2.2;refine Qg et ?_;clear et;refine QG ?_ ?_;rotate_left;refine QF ?_ ?_<;>intro b0
  .rw[hx]at b0;cases b0
  iterate 3 (refine QG ?_ ?_;rotate_left)
  refine QF (λb1=>?_) (λb1=>?_);simp only[Xj,hv,show(s.1==0)=true from b1,cond_true];refine⟨rfl,rfl,_,Qhh [] [] 0 4,?_⟩
  rotate_left
  simp only[Xj,hv,show(s.1==0)=false from b1,cond_false];refine⟨rfl,rfl,_,QcO s.1 s.2.1 s.2.2 s.2.1 s.2.2 s.1 0,?_⟩
  rotate_left
  all_goals first|((with_reducible show _=true);(first|(refine KA.2 ?_;repeat' first|with_reducible refine QP ?_ ?_|exact tv|with_reducible exact qRr|with_reducible exact hz _|exact rfl|refine aI ?_ ?_)|(simp;omega)))|(repeat' first|with_reducible refine QP ?_ ?_|exact tv|with_reducible exact qRr|exact rfl|refine aI ?_ ?_)
 | stop s=>
  rw[he]at hon;have hT:Qd (XY QQ d (QK d) (Xa d (QK d) VF VG (QD []) [] 0 [] [] s.1 s.2.1 s.2.2)):=(Qf.add (WI d (by omega))).add hon
  have hv:QH d=cond (s.1==0) ([],[],0,4) (s.2.1,s.2.2,s.1,0):=by
   simp only[QH,hx,he,cond_true]
  refine Yh (c:=Ql f24) (E:=mkE prog (XY QQ d (QK d) (Xa d (QK d) VF VG (QD []) [] 0 [] [] s.1 s.2.1 s.2.2))) (H:=hnd (mkE prog (XY QQ d (QK d) (Xa d (QK d) VF VG (QD []) [] 0 [] [] s.1 s.2.1 s.2.2))) 8) (QO hT) func24 (by kernel_rfl) (by kernel_rfl) (N:=96) (by decide) (d,()) (λG h1 _=>Qw (QO hT) 8 G _ h1) (QGu d) ?_
  have et:=QVt QQ d (QK d) (QD []) s.1 s.2.1 s.2.2;refine Qg et ?_;clear et;refine QG ?_ ?_;rotate_left;refine QF ?_ ?_<;>intro b0
  .rw[hx]at b0;cases b0
  iterate 3 (refine QG ?_ ?_;rotate_left)
  refine QF (λb1=>?_) (λb1=>?_);simp only[Xj,hv,show(s.1==0)=true from b1,cond_true];refine⟨rfl,rfl,_,Qa4 [] [] 0 4,?_⟩
  rotate_left
  simp only[Xj,hv,show(s.1==0)=false from b1,cond_false];refine⟨rfl,rfl,_,Qev s.1 s.2.1 s.2.2 s.2.1 s.2.2 s.1 0,?_⟩
  rotate_left
  all_goals first|((with_reducible show _=true);(first|(refine KA.2 ?_;repeat' first|with_reducible refine QP ?_ ?_|exact tv|with_reducible exact qRr|with_reducible exact hz _|exact rfl|refine aI ?_ ?_)|(simp;omega)))|(repeat' first|with_reducible refine QP ?_ ?_|exact tv|with_reducible exact qRr|exact rfl|refine aI ?_ ?_)
theorem QYc(hx:(Xj (d,())).1=true):QS prog 24 (wFC (VW Xj (d,()))):=by
 have hn:d.ps.n<=1000:=qdt hx;cases ho:d.ok with
 | false=>exact Qfa d hn ho
 | true=>exact QUi d ho
theorem QRZ:QS prog 24 QG1:=zH (by kernel_rfl) λ|(d,()),hx=>QYc d hx
