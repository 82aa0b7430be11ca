/- - -/
import Derived.Test.YtekbmehgcofnkaaGreatMzc
import Derived.Test.YtekbmehgcofnkaaGreatMzd
open Go.Proofs.Tryz
open Go.IntKind (i64)
set_option maxRecDepth 100000
namespace Go.Proofs.YtekbmehgcofnkaaGreat
open Go.SX Go.SX.Told
theorem QOF{σ α:Type}(f:σ->α->Qd σ):∀(a b:List α) (s:σ),Q5 f (a++b) s=match Q5 f a s with
  | .go s'=>Q5 f b s'
  | .stop s' => .stop s'
 | [],_,_=>rfl
 | x::a,b,s=>by
  simp only[List.cons_append,Q5];cases f s x with
  | go s'=>exact QOF f a b s'
  | stop s'=>rfl
variable {σ α:Type}(d:Puz)(E:ECt)(f g:List Lay)(C:Cap)(K:Rw Pt)(ac body:Code)(many':Int)(f' g' l l2:List Lay)(p:Nat)(u u2:Nat->Nat->Int)(t:Nat)
theorem QEK{f g:σ->α->Qd σ}{l:List α}(h:∀ s,∀ a∈l,f s a=g s a)(s:σ):Q5 f l s=Q5 g l s:=by
 induction l generalizing s with
 | nil=>rfl
 | cons a l ih=>
  simp only[Q5,h s a qmc];cases g s a with
  | go s'=>exact ih (λs b hb=>h s b (List.mem_cons_of_mem _ hb)) s'
  | stop s'=>rfl
theorem Qap{f:σ->α->Qd σ}{l:List α}(h:∀ s,∀ a∈l,f s a = .go s)(s:σ):Q5 f l s = .go s:=by
 induction l generalizing s with
 | nil=>rfl
 | cons a l ih=>
  simp only[Q5,h s a qmc];exact ih (λs b hb=>h s b (List.mem_cons_of_mem _ hb)) s
theorem QIU{σ α β:Type}(f:σ->β->Qd σ)(g:α->List β):∀(l:List α) (s:σ),Q5 f (l.flatMap g) s=Q5 (λs a=>Q5 f (g a) s) l s
 | [],_=>rfl
 | a::l,s=>by
  rw[List.flatMap_cons,QOF];simp only[Q5];cases Q5 f (g a) s with
  | go s'=>exact QIU f g l s'
  | stop s'=>rfl
theorem QU9{σ α β:Type}(f:σ->β->Qd σ)(g:α->β):∀(l:List α) (s:σ),Q5 f (l.map g) s=Q5 (λs a=>f s (g a)) l s
 | [],_=>rfl
 | a::l,s=>by
  simp only[List.map_cons,Q5];cases f s (g a)with
  | go s'=>exact QU9 f g l s'
  | stop s'=>rfl
def Zs:List Lay:=(List.range d.ps.n).flatMap λp=>(List.range (QZ d p)).map λt:Nat=>(⟨(p:Int),(t:Int)⟩:Lay)
def ZT(x:Lay):Bool:=l.any λy=>y.piece==x.piece
def zG(A:Int->Lay->Bool)(d:Puz)(E:ECt)(l:List Lay)(x:Lay):Bool := !ZT l x&&(A l.length x&&Q7 d E l x)
def QBj(A:Int->Lay->Bool)(d:Puz)(E:ECt)(k:Nat)(l:List Lay):List (List Lay):=Yw (λ_=>Zs d) (zG A d E) (λ_=>true) k l
def QD1(_:Int)(_:Lay):Bool:=true
theorem QUD{σ:Type}(A:Int->Lay->Bool)(d:Puz)(E:ECt)(Y:List Lay->σ->Qd σ):∀(k:Nat) (l:List Lay) (s:σ),onA A d E Y k l s=Q5 (λs l=>Y l s) (QBj A d E k l) s
 | 0,l,s=>by
  simp only[onA,QBj,Yw,cond_true,Q5];cases Y l s<;>rfl
 | k+1,l,s=>by
  simp only[QBj,Yw];rw[QIU];unfold Zs;rw[QIU,onA];refine QEK (λs p _=>?_) s;unfold XZ;rw[QU9];cases hu:Q6 l p with
  | true=>
   rw[cond_true];refine(Qap (λs t _=>?_) s).symm
   have:zG A d E l ⟨(p:Int),(t:Int)⟩=false:=by
    unfold zG;rw[show ZT l ⟨(p:Int),(t:Int)⟩=true from hu];rfl
   rw[this];rfl
  | false=>
   rw[cond_false];unfold inA;refine QEK (λs t _=>?_) s;unfold Jy KK zG;rw[show ZT l ⟨(p:Int),(t:Int)⟩=false from hu];cases A l.length ⟨(p:Int),(t:Int)⟩with
   | false=>rfl
   | true=>
    cases Q7 d E l ⟨(p:Int),(t:Int)⟩with
    | false=>rfl
    | true=>
     have:=QUD A d E Y k (l++[⟨(p:Int),(t:Int)⟩]) s;simp only[cond_true,Bool.not_false,Bool.true_and]at this ⊢;rw[this];rfl
theorem QSk{σ:Type}(d:Puz)(E:ECt)(Y:List Lay->σ->Qd σ):∀(k:Nat) (l:List Lay) (s:σ),onY d E Y k l s=onA QD1 d E Y k l s
 | 0,_,_=>rfl
 | k+1,l,s=>by
  rw[onY,onA];refine QEK (λs p _=>?_) s;unfold K3 XZ inZ inA;cases Q6 l p with
  | true=>rfl
  | false=>
   simp only[cond_false];refine QEK (λs t _=>?_) s;unfold Jy KK;rw[QSk d E Y k];rfl
def JO:List (List Lay):=QBj QD1 d E d.ps.n []
theorem QTZ(Y:List Lay->σ->Qd σ)(s:σ):onY d E Y d.ps.n [] s=Q5 (λs l=>Y l s) (JO d E) s:=by
 rw[QSk,QUD];rfl
def XQ(P:List (List Lay)):SoS:=((P.length:Int),P.getD 0 [],P.getD 1 [])
theorem QdJ(P:List (List Lay))(l:List Lay)(h:P.length<100):ZI l (XQ P)=cond (decide (P.length+1=100)) (.stop (XQ (P++[l]))) (.go (XQ (P++[l]))):=by
 have hw:i64.wrap ((P.length:Int)+1)=((P.length+1:Nat):Int):=(w64 (by omega) (by omega)).trans (by omega)
 have hs:(i64.wrap ((P.length:Int)+1),cond (i64.wrap ((P.length:Int)+1)==1) l (P.getD 0 []),cond (i64.wrap ((P.length:Int)+1)==1) (P.getD 1 []) (cond (i64.wrap ((P.length:Int)+1)==2) l (P.getD 1 [])))=XQ (P++[l]):=by
  rw[hw];unfold XQ
  match P with
  | []=>rfl
  | [a]=>rfl
  | a::b::P=>
   have h1:((((a::b::P).length+1:Nat):Int)==1)=false:=by
    rw[beq_eq_false_iff_ne];simp only[List.length_cons];omega
   have h2:((((a::b::P).length+1:Nat):Int)==2)=false:=by
    rw[beq_eq_false_iff_ne];simp only[List.length_cons];omega
   rw[h1,h2];simp
 unfold ZI
 have hc:(i64.wrap ((XQ P).1+1)==100)=decide (P.length+1=100):=by
  show(i64.wrap ((P.length:Int)+1)==100)=_;rw[hw,Bool.eq_iff_iff];simp only[beq_iff_eq,qdE];omega
 rw[hc];show cond _ (Qd.stop (i64.wrap ((P.length:Int)+1),cond (i64.wrap ((P.length:Int)+1)==1) l (P.getD 0 []),cond (i64.wrap ((P.length:Int)+1)==1) (P.getD 1 []) (cond (i64.wrap ((P.length:Int)+1)==2) l (P.getD 1 [])))) (Qd.go (i64.wrap ((P.length:Int)+1),cond (i64.wrap ((P.length:Int)+1)==1) l (P.getD 0 []),cond (i64.wrap ((P.length:Int)+1)==1) (P.getD 1 []) (cond (i64.wrap ((P.length:Int)+1)==2) l (P.getD 1 []))))=_;rw[hs]
theorem QMY:∀(L P:List (List Lay)),P.length<100->Q5 (λs l=>ZI l s) L (XQ P) = .go (XQ (P++L))/\(P++L).length<100∨Q5 (λs l=>ZI l s) L (XQ P) = .stop (XQ ((P++L).take 100))/\100<=(P++L).length
 | [],P,h => .inl ⟨by rw[List.append_nil];rfl,by rw[List.append_nil];exact h⟩
 | l::L,P,h=>by
  simp only[Q5,QdJ P l h]
  by_cases h1:P.length+1=100
  .refine .inr ⟨?_,by simp only[List.length_append,List.length_cons];omega⟩
   rw[qde h1,cond_true]
   have:(P++l::L).take 100=P++[l]:=by
    rw[show P++l::L=(P++[l])++L by simp,List.take_append_of_le_length (by simp;omega),List.take_of_length_le (by simp;omega)]
   rw[this]
  .rw[decide_eq_false h1,cond_false];have:=QMY L (P++[l]) (by simp;omega)
   simpa using this
theorem QN2(L:List α)(k i:Nat)(a:α)(h:i<k):(L.take k).getD i a=L.getD i a:=by
 simp only[List.getD_eq_getElem?_getD,List.getElem?_take,if_pos h]
theorem Qdt:(match onZ d E d.ps.n [] (0,[],[])with | .go s | .stop s=>s)=(((min (JO d E).length 100:Nat):Int),(JO d E).getD 0 [],(JO d E).getD 1 []):=by
 have h:=QMY (JO d E) [] (by decide)
 rw[List.nil_append]at h;have e:onZ d E d.ps.n [] (0,[],[])=Q5 (λs l=>ZI l s) (JO d E) (XQ []):=QTZ d E ZI (0,[],[]);rw[e];rcases h with ⟨h1,h2⟩|⟨h1,h2⟩
 .rw[h1];simp only[XQ];rw[Nat.min_eq_left (by omega)]
 .rw[h1];simp only[XQ];rw[QN2 _ _ _ _ (by decide),QN2 _ _ _ _ (by decide),List.length_take,Nat.min_comm]
theorem WD:(QZ d p:Int)=tnV d p/\QZ d p<=4:=by
 unfold QZ;rcases QOB d p with h|h<;>rw[h]<;>decide
set_option maxHeartbeats 1000000 in
theorem Qfy(rec:List Lay->SoS->Qd SoS)(l:List Lay)(p:Nat)(hp:p<d.ps.n)(hn:d.ps.n<=1000)(hl:l.length<=1000)(hu:Q6 l p=false):JW (λk:Nat×SoS=>HW d E ac body (QD l) l k.2.1 k.2.2.1 k.2.2.2 p (tnV d p) k.1) (λk=>k.1<=QZ d p) (λk=>QZ d p-k.1) (Y2 d E ac body rec l p) 464 QIx Ze (vT prog d E ac body rec l p) (λk=>hnd (vT prog d E ac body rec l p k) 0) (QU (QH f103 0)):=by
 refine⟨λk g0 hk=>?_⟩;obtain⟨t,many,f,g⟩:=k;have hk:t<=QZ d p:=hk;obtain⟨ht1,ht4⟩:=WD d p;have hlen:(l++[(⟨p,t⟩:Lay)]).length=l.length+1:=by rw[List.length_append,List.length_singleton]
 have hw1:i64.wrap (((l++[(⟨p,t⟩:Lay)]).length:Int)-1)=l.length:=(w64 (by omega) (by omega)).trans (by omega)
 have hpop:(i64.wrap (((l++[(⟨p,t⟩:Lay)]).length:Int)-1)).toNat=l.length:=by rw[hw1];exact Int.toNat_natCast _
 have hle:l.length<=(l++[(⟨p,t⟩:Lay)]).length:=by omega
 have hpb:t<QZ d p->Zk d p t=QQ:=λh=>by unfold Zk;rw[if_pos h]
 have wt:t<QZ d p->i64.wrap ((t:Int)+1)=((t+1:Nat):Int):=λh=>(w64 (by omega) (by omega)).trans (by omega)
 have step:=λh:t<QZ d p=>qL (f:=KK d E rec l p) h (many,f,g);unfold vT;simp only
 have next:t<QZ d p->∀{s2:SoS},KK d E rec l p (many,f,g) t = .go s2->∀ e J,Y2 d E ac body rec l p (t+1,s2) e J->Y2 d E ac body rec l p (t,many,f,g) e J:=by
  intro h s2 he e J hr;unfold Y2 at hr ⊢;simp only at hr ⊢;rw[step h,he];exact hr
 have last:QZ d p<=t->Y2 d E ac body rec l p (t,many,f,g) (.exit 2) (QBN d E ac body (QD l) l many f g p):=by
  intro h;unfold Y2;simp only[Wp h,and_self]
 cases hr:rec (l++[⟨p,t⟩]) (many,f,g)with
 | go s'=>
  obtain⟨many',f',g'⟩:=s';simp only[X9];have et:=QWu (Zk d p t) (Zk d p t) d E ac body (QD l) (QD (l++[⟨p,t⟩])) l (l++[⟨p,t⟩]) (Q7 d E l ⟨p,t⟩) many f g p (tnV d p) t many' f' g' g0;refine Qf et ?_;clear et;refine QE (λb0=>?_) (λb0=>?_);have h:t<QZ d p:=by have:=qdt b0;omega
  rw[hpb h];have hw:=wt h;refine QG ?_ ?_;rotate_left;refine QE ?_ ?_<;>intro b1
  .exact Bool.noConfusion (show false=true from b1)
  refine QG ?_ ?_;rotate_left;refine QE (λb2=>?_) (λb2=>?_);have hv:Q7 d E l ⟨p,t⟩=false:=by simpa using b2
  have ho:KK d E rec l p (many,f,g) t = .go (many,f,g):=by unfold KK;rw[hv];rfl
  refine⟨(t+1,many,f,g),h,by show QZ d p-(t+1)<QZ d p-t;omega,next h ho,rfl,rfl,_,QQx d E ac body (QD l) l many f g p (tnV d p) t (t+1),?_⟩
  rotate_left
  iterate 7 (refine QG ?_ ?_;rotate_left)
  refine QE ?_ ?_<;>intro b3
  .cases b3
  have hv:Q7 d E l ⟨p,t⟩=true:=by simpa using b2
  have ho:KK d E rec l p (many,f,g) t = .go (many',f',g'):=by unfold KK;rw[hv];exact hr
  have hb:=qk l d.ps.n p t hu;have hq:=Wb l ⟨p,t⟩;have hnx:=next h ho
  clear next last step hr ho
  generalize QD (l++[⟨p,t⟩])=u2 at hb ⊢;generalize l++[⟨p,t⟩]=l2 at hpop hle hq ⊢;generalize hu1:QD l=u1 at hb ⊢;refine⟨(t+1,many',f',g'),h,by show QZ d p-(t+1)<QZ d p-t;omega,hnx,rfl,rfl,_,Qi0 d E ac body u1 u2 u1 l l2 p (tnV d p) t (t+1) many' f' g',?_⟩
  rotate_left
  have h:QZ d p<=t:=by have:=qdf b0;omega
  refine⟨_,last h,rfl,rfl,_,QSI d E ac body (QD l) l many f g p,?_⟩
  rotate_left
  all_goals first|((with_reducible show _=true);(first|rfl|(refine KI.2 ?_;repeat' first|with_reducible refine QL ?_ ?_|exact tv|with_reducible exact qRr|with_reducible exact hlen|with_reducible exact hlen.symm|with_reducible exact Nat.le_of_eq hlen|with_reducible exact Zd l ⟨p,t⟩|with_reducible exact Z6 l _ p t|exact rfl|refine aI ?_ ?_)|(rw[hw1];simp)|(simp;omega)))|(repeat' first|with_reducible refine QL ?_ ?_|exact tv|with_reducible exact qRr|with_reducible exact hw|with_reducible exact hpop|with_reducible exact hle|with_reducible exact hq|with_reducible exact hb|exact rfl|refine aI ?_ ?_)
 | stop s'=>
  obtain⟨many',f',g'⟩:=s';simp only[X9];have et:=QZF (Zk d p t) (Zk d p t) d E ac body (QD l) (QD (l++[⟨p,t⟩])) l (l++[⟨p,t⟩]) (Q7 d E l ⟨p,t⟩) many f g p (tnV d p) t many' f' g' g0;refine Qf et ?_;clear et;refine QE (λb0=>?_) (λb0=>?_);have h:t<QZ d p:=by have:=qdt b0;omega
  rw[hpb h];have hw:=wt h;refine QG ?_ ?_;rotate_left;refine QE ?_ ?_<;>intro b1
  .exact Bool.noConfusion (show false=true from b1)
  refine QG ?_ ?_;rotate_left;refine QE (λb2=>?_) (λb2=>?_);have hv:Q7 d E l ⟨p,t⟩=false:=by simpa using b2
  have ho:KK d E rec l p (many,f,g) t = .go (many,f,g):=by unfold KK;rw[hv];rfl
  refine⟨(t+1,many,f,g),h,by show QZ d p-(t+1)<QZ d p-t;omega,next h ho,rfl,rfl,_,QQx d E ac body (QD l) l many f g p (tnV d p) t (t+1),?_⟩
  rotate_left
  iterate 7 (refine QG ?_ ?_;rotate_left)
  refine QE (λb3=>?_) (λb3=>?_);have hv:Q7 d E l ⟨p,t⟩=true:=by simpa using b2
  have ho:KK d E rec l p (many,f,g) t = .stop (many',f',g'):=by unfold KK;rw[hv];exact hr
  have hrel:Y2 d E ac body rec l p (t,many,f,g) .ret (soF d E ac body (QD l) l many' f' g'):=by
   unfold Y2;simp only[step h,ho,and_self]
  have hb:=qk l d.ps.n p t hu;have hq:=Wb l ⟨p,t⟩;clear next last step hr ho
  generalize QD (l++[⟨p,t⟩])=u2 at hb ⊢;generalize l++[⟨p,t⟩]=l2 at hpop hle hq ⊢;generalize hu1:QD l=u1 at hb hrel ⊢;refine⟨_,hrel,rfl,rfl,_,QfN d E ac body u2 u1 l l2 p many' f' g',?_⟩
  rotate_left
  .cases b3
  have h:QZ d p<=t:=by have:=qdf b0;omega
  refine⟨_,last h,rfl,rfl,_,QSI d E ac body (QD l) l many f g p,?_⟩
  rotate_left
  all_goals first|((with_reducible show _=true);(first|rfl|(refine KI.2 ?_;repeat' first|with_reducible refine QL ?_ ?_|exact tv|with_reducible exact qRr|with_reducible exact hlen|with_reducible exact hlen.symm|with_reducible exact Nat.le_of_eq hlen|with_reducible exact Zd l ⟨p,t⟩|with_reducible exact Z6 l _ p t|exact rfl|refine aI ?_ ?_)|(rw[hw1];simp)|(simp;omega)))|(repeat' first|with_reducible refine QL ?_ ?_|exact tv|with_reducible exact qRr|with_reducible exact hw|with_reducible exact hpop|with_reducible exact hle|with_reducible exact hq|with_reducible exact hb|exact rfl|refine aI ?_ ?_)
def Qd.s{σ:Type}:Qd σ->σ
 | .go s=>s
 | .stop s=>s
def Qd.isGo:Qd σ->Bool
 | .go _=>true
 | .stop _=>false
def QED(rec:List Lay->SoS->Qd SoS)(l:List Lay)(p:Nat):Prop:=∀ t,t<QZ d p->∀ s,QR prog 103 (uFC (X9 d E ac body (l++[⟨p,t⟩]) s (rec (l++[⟨p,t⟩]) s)))
theorem QXd{d:Puz}{E:ECt}{ac body:Code}{rec:List Lay->SoS->Qd SoS}{l:List Lay}{p:Nat}(hd:KO d)(hE:WfE E)(hl:l.length<=1000)(hL:∀ y∈l,KD d y)(hp:p<d.ps.n)(IH:QED d E ac body rec l p)(k:Nat×SoS):(vT prog d E ac body rec l p k).Sound:=by
 unfold vT Zk
 by_cases h:k.1<QZ d p
 .rw[if_pos h];have h4:=(WD d p).2;exact QO ((Qh.add (QE5 d E l ⟨p,k.1⟩ hd hE hl hL ⟨⟨by show(0:Int)<=p;omega,by show(p:Int)<_;omega⟩,by show(0:Int)<=k.1;omega,by show(k.1:Int)<=3;omega⟩)).add (IH k.1 h k.2))
 .rw[if_neg h];exact QO ((Qh.add (Jr (by kernel_rfl) _)).add (Jr (by kernel_rfl) _))
def QB5(rec:List Lay->SoS->Qd SoS)(l:List Lay)(p:Nat)(s:SoS):List (Prop×Ex×JSt):=
 [((inZ d E rec l p s).isGo=true,.exit 2,QBN d E ac body (QD l) l (inZ d E rec l p s).s.1 (inZ d E rec l p s).s.2.1 (inZ d E rec l p s).s.2.2 p),((inZ d E rec l p s).isGo=false,.ret,soF d E ac body (QD l) l (inZ d E rec l p s).s.1 (inZ d E rec l p s).s.2.1 (inZ d E rec l p s).s.2.2)]
theorem QEJ{l:List Lay}{p:Nat}(h:QD l p 0=0):Q6 l p=false:=by
 unfold QD at h;cases hb:Q6 l p with
 | false=>rfl
 | true=>rw[hb]at h;cases h
theorem Qf2{d:Puz}{E:ECt}{ac body:Code}{rec:List Lay->SoS->Qd SoS}{l:List Lay}(hd:KO d)(hE:WfE E)(hl:l.length<=1000)(hL:∀ y∈l,KD d y)(p:Nat)(s:SoS)(IH:p<d.ps.n->QED d E ac body rec l p)(G:Ctx)(hrd:G.rd=none)(hG:G.n<=464):
  Qw (mkE prog (Ww QQ d l.length p)) G (QCt prog QQ d E ac body (QD l) l s.1 s.2.1 s.2.2 p (QB5 d E ac body rec l p s)) (QH f103 0):=by
 have hT:Qc (Ww QQ d l.length p):=Qh.add (X6 d l.length p);refine KN (body:=QU (QH f103 0)) (QO hT) hrd (by kernel_rfl) ?_
 refine Jh λhp=>?_;have hu:=QEJ hp.2;have hEnv:=QXd (ac:=ac) (body:=body) hd hE hl hL hp.1 (IH hp.1);refine Jo (E0:=mkE prog (Ww QQ d l.length p)) (E:=vT prog d E ac body rec l p) (H:=λk=>hnd (vT prog d E ac body rec l p k) 0) (n0:=464) (s0:=(0,s)) (λ_=>rfl) hEnv hG (λk _=>Qv (hEnv k) 0 G _ hrd) (λk _=>(by decide:464<=504)) ?_ (Qfy d E ac body rec l p hp.1 hd.n hl hu) (Nat.zero_le _) ?_
 .intro k e J hr;unfold Y2 at hr;split at hr<;>(rw[hr.2];exact(by decide:464<=504))
 .intro e J hr;unfold Y2 at hr;simp only[List.drop_zero]at hr;have hi:inZ d E rec l p s=Q5 (KK d E rec l p) (List.range (QZ d p)) s:=rfl;unfold QB5;rw[hi];cases hc:Q5 (KK d E rec l p) (List.range (QZ d p)) s with
  | go s'=>
   rw[hc]at hr;exact⟨_,qmc,rfl,hr.1.symm,hr.2.symm⟩
  | stop s'=>
   rw[hc]at hr;exact⟨_,List.mem_cons_of_mem _ qmc,rfl,hr.1.symm,hr.2.symm⟩
def Xx(rec:List Lay->SoS->Qd SoS)(l:List Lay)(k:Nat×SoS)(e:Ex)(J:JSt):Prop:=match Q5 (K3 d E rec l) ((List.range d.ps.n).drop k.1) k.2 with
 | .go s'=>e = .exit 0/\J=zl d E ac body (QD l) l s'.1 s'.2.1 s'.2.2
 | .stop s'=>e = .ret/\J=soF d E ac body (QD l) l s'.1 s'.2.1 s'.2.2
theorem Vi{l:List Lay}{p:Nat}:decide (QD l ((p:Int).toNat+0) 0=1)=Q6 l p:=by
 show decide (cond (Q6 l p) (1:Int) 0=1)=Q6 l p;cases Q6 l p<;>rfl
set_option maxHeartbeats 1000000 in
theorem QdW(rec:List Lay->SoS->Qd SoS)(l:List Lay)(hn:d.ps.n<=1000):JW (λk:Nat×SoS=>Gf d E ac body (QD l) l k.2.1 k.2.2.1 k.2.2.2 k.1) (λk=>k.1<=d.ps.n) (λk=>d.ps.n-k.1) (Xx d E ac body rec l) 464 QLd Ze (λk=>mkE prog (Ww QQ d l.length k.1)) (λk=>QCt prog QQ d E ac body (QD l) l k.2.1 k.2.2.1 k.2.2.2 k.1 (QB5 d E ac body rec l k.1 k.2)) (QH f103 0):=by
 refine⟨λk g0 hk=>?_⟩;obtain⟨p,many,f,g⟩:=k;have hk:p<=d.ps.n:=hk;have wp:p<d.ps.n->i64.wrap ((p:Int)+1)=((p+1:Nat):Int):=λh=>Ja h hn;have step:=λh:p<d.ps.n=>qL (f:=K3 d E rec l) h (many,f,g)
 have next:p<d.ps.n->∀{s2:SoS},K3 d E rec l (many,f,g) p = .go s2->∀ e J,Xx d E ac body rec l (p+1,s2) e J->Xx d E ac body rec l (p,many,f,g) e J:=by
  intro h s2 he e J hr;unfold Xx at hr ⊢;simp only at hr ⊢;rw[step h,he];exact hr
 have stop:p<d.ps.n->∀{s2:SoS},K3 d E rec l (many,f,g) p = .stop s2->Xx d E ac body rec l (p,many,f,g) .ret (soF d E ac body (QD l) l s2.1 s2.2.1 s2.2.2):=by
  intro h s2 he;unfold Xx;simp only[step h,he,and_self]
 have last:d.ps.n<=p->Xx d E ac body rec l (p,many,f,g) (.exit 0) (zl d E ac body (QD l) l many f g):=by
  intro h;unfold Xx;simp only[Wp h,and_self]
 have hpz:Q6 l p=false->K3 d E rec l (many,f,g) p=inZ d E rec l p (many,f,g):=λh=>by unfold K3;rw[h];rfl
 have hpu:Q6 l p=true->K3 d E rec l (many,f,g) p = .go (many,f,g):=λh=>by unfold K3;rw[h];rfl
 unfold QB5;simp only;cases hr:inZ d E rec l p (many,f,g)with
 | go s'=>
  obtain⟨many',f',g'⟩:=s';simp only[Qd.isGo,Qd.s,Bool.true_eq_false,Bool.false_eq_true];have et:=QKh QQ d E ac body (QD l) (QD l) l many f g p True False many' f' g' g0;refine Qf et ?_;clear et;refine QE (λb0=>?_) (λb0=>?_);have h:p<d.ps.n:=by have:=qdt b0;omega
  have hw:=wp h
  iterate 2 (refine QG ?_ ?_;rotate_left)
  refine QE (λb1=>?_) (λb1=>?_);have hub:Q6 l p=true:=Vi.symm.trans b1;refine⟨(p+1,many,f,g),h,by show d.ps.n-(p+1)<d.ps.n-p;omega,next h (hpu hub),rfl,rfl,_,QTA d E ac body (QD l) l many f g p (p+1),?_⟩
  rotate_left
  have hub:Q6 l p=false:=Vi.symm.trans b1;have hu0:QD l p 0=0:=by unfold QD;rw[hub];rfl
  refine QG ?_ ?_;rotate_left
  iterate 132 refine Qu (by first|exact tv|exact⟨h,hu0⟩|with_reducible exact qRr|exact rfl) ?_
  refine Kh ?_ ?_;refine Qg λa0=>?_;refine Qj λg0=>?_;refine⟨(p+1,many',f',g'),h,by show d.ps.n-(p+1)<d.ps.n-p;omega,next h ((hpz hub).trans hr),rfl,rfl,_,QVR d E ac body (QD l) l p (p+1) many' f' g',?_⟩
  rotate_left
  refine Qg λa1=>?_;refine Qj λg1=>?_
  .exact a1.elim
  have h:d.ps.n<=p:=by have:=qdf b0;omega
  refine⟨_,last h,rfl,rfl,_,QLv d E ac body (QD l) l many f g,?_⟩
  rotate_left
  all_goals first|((with_reducible show _=true);(first|(refine KI.2 ?_;repeat' first|exact tv|with_reducible exact qRr|exact rfl|refine aI ?_ ?_)|(simp;omega)))|(repeat' first|with_reducible refine QL ?_ ?_|exact tv|with_reducible exact qRr|with_reducible exact hw|exact rfl|refine aI ?_ ?_)
 | stop s'=>
  obtain⟨many',f',g'⟩:=s';simp only[Qd.isGo,Qd.s,Bool.true_eq_false,Bool.false_eq_true];have et:=QKh QQ d E ac body (QD l) (QD l) l many f g p False True many' f' g' g0;refine Qf et ?_;clear et;refine QE (λb0=>?_) (λb0=>?_);have h:p<d.ps.n:=by have:=qdt b0;omega
  have hw:=wp h
  iterate 2 (refine QG ?_ ?_;rotate_left)
  refine QE (λb1=>?_) (λb1=>?_);have hub:Q6 l p=true:=Vi.symm.trans b1;refine⟨(p+1,many,f,g),h,by show d.ps.n-(p+1)<d.ps.n-p;omega,next h (hpu hub),rfl,rfl,_,QTA d E ac body (QD l) l many f g p (p+1),?_⟩
  rotate_left
  have hub:Q6 l p=false:=Vi.symm.trans b1;have hu0:QD l p 0=0:=by unfold QD;rw[hub];rfl
  refine QG ?_ ?_;rotate_left
  iterate 132 refine Qu (by first|exact tv|exact⟨h,hu0⟩|with_reducible exact qRr|exact rfl) ?_
  refine Kh ?_ ?_;refine Qg λa0=>?_;refine Qj λg0=>?_
  .exact a0.elim
  refine Qg λa1=>?_;refine Qj λg1=>?_;refine⟨_,stop h ((hpz hub).trans hr),rfl,rfl,_,Qg9 d E ac body (QD l) l many' f' g',?_⟩
  rotate_left
  have h:d.ps.n<=p:=by have:=qdf b0;omega
  refine⟨_,last h,rfl,rfl,_,QLv d E ac body (QD l) l many f g,?_⟩
  rotate_left
  all_goals first|((with_reducible show _=true);(first|(refine KI.2 ?_;repeat' first|exact tv|with_reducible exact qRr|exact rfl|refine aI ?_ ?_)|(simp;omega)))|(repeat' first|with_reducible refine QL ?_ ?_|exact tv|with_reducible exact qRr|with_reducible exact hw|exact rfl|refine aI ?_ ?_)
noncomputable abbrev VG:Code:=(QN f24 0).1
noncomputable abbrev VN:Code:=(QN f24 0).2
theorem QPG(l:List Lay)(many:Int)(f g:List Lay)(many':Int)(f' g':List Lay):(VJ d E ac body u l many f g many' f' g').Ok:=by
 refine⟨(by decide:424<=464),rfl,rfl,?_,rfl,λ_ _=>rfl,λnid h=>?_⟩
 .intro q hq;simp only[UC.po,VJ,X5,rwY,rwU,List.mem_cons,List.not_mem_nil,or_false]at hq;rcases hq with rfl|rfl|rfl|rfl|rfl|rfl|rfl|rfl|rfl|rfl|rfl<;>refine⟨rfl,rfl,rfl,?_⟩<;>first|exact λ_=>rfl|exact λh=>absurd (show 464<424 from h) (by decide)|exact λh=>absurd (show 465<424 from h) (by decide)|exact λh=>absurd (show 466<424 from h) (by decide)|exact λh=>absurd (show 467<424 from h) (by decide)
 .have e0:=Kp 424 464 0 nid (by decide)
  have e1:=Kp 424 464 1 nid (by decide)
  have e2:=Kp 424 464 2 nid (by decide)
  have e3:=Kp 424 464 3 nid (by decide)
  simp only[UC.po,VJ,X5,rwY,rwU,HZ,YB,KS,Qi.val,List.cons_append,List.nil_append,List.map_cons,List.map_nil,Blk.mapId,AV.mapId,AV.mapIdL,Nat.add_zero]at e0 e1 e2 e3 ⊢;rw[e0,e1,e2,e3];rfl
theorem QTk(l:List Lay)(many:Int)(f g:List Lay)(many':Int)(f' g':List Lay):(Xa d E ac body u l many f g many' f' g').Ok:=by
 refine⟨(by decide:424<=464),rfl,rfl,?_,rfl,λ_ _=>rfl,λnid h=>?_⟩
 .intro q hq;simp only[UC.po,Xa,X5,rwY,rwU,List.mem_cons,List.not_mem_nil,or_false]at hq;rcases hq with rfl|rfl|rfl|rfl|rfl|rfl|rfl|rfl|rfl|rfl|rfl<;>refine⟨rfl,rfl,rfl,?_⟩<;>first|exact λ_=>rfl|exact λh=>absurd (show 464<424 from h) (by decide)|exact λh=>absurd (show 465<424 from h) (by decide)|exact λh=>absurd (show 466<424 from h) (by decide)|exact λh=>absurd (show 467<424 from h) (by decide)
 .have e0:=Kp 424 464 0 nid (by decide)
  have e1:=Kp 424 464 1 nid (by decide)
  have e2:=Kp 424 464 2 nid (by decide)
  have e3:=Kp 424 464 3 nid (by decide)
  simp only[UC.po,Xa,X5,rwY,rwU,HZ,YB,KS,Qi.val,List.cons_append,List.nil_append,List.map_cons,List.map_nil,Blk.mapId,AV.mapId,AV.mapIdL,Nat.add_zero]at e0 e1 e2 e3 ⊢;rw[e0,e1,e2,e3];rfl
theorem QR6(T:Tab)(hT:Qc T)(G:Ctx)(hrd:G.rd=none):Qw (mkE prog T) G (soN prog T) (Qk f103):=
 KN (body:=QH f103 0) (QO hT) hrd (by kernel_rfl) (λ_ _ _ _ _ _ _ h _ _=>h.elim)
set_option maxHeartbeats 1000000 in
theorem Qg7(s:SoS)(hn:l.length=d.ps.n)(hpos:0<l.length)(hl:l.length<=1000):QR prog 103 (uFC (X9 d E VG VN l s (ZI l s))):=by
 obtain⟨many,f,g⟩:=s;have hT:Qc (QAT QQ l):=Qh.add (QQQ l hpos hl);have et:=QWG QQ d E (QD l) l many f g;have hlen:((l.length:Int)==(d.ps.n:Int))=true:=by rw[hn];simp
 unfold ZI;simp only;cases h100:i64.wrap (many+1)==100 with
 | true=>
  have h1:(i64.wrap (many+1)==1)=false:=by rw[beq_iff_eq.1 h100];rfl
  have h2:(i64.wrap (many+1)==2)=false:=by rw[beq_iff_eq.1 h100];rfl
  rw[h1,h2];simp only[cond_true,cond_false,X9];refine K7 (E:=mkE prog (QAT QQ l)) (QO hT) func103 (by kernel_rfl) (by kernel_rfl) (QTk ..) (λG hG _=>QR6 _ hT G hG) ⟨?_⟩
  refine Qf et ?_;clear et;refine QE (λb0=>?_) (λb0=>?_);refine QE ?_ ?_<;>intro b1
  .exact Bool.noConfusion (h1.symm.trans b1)
  refine QE ?_ ?_<;>intro b3
  .exact Bool.noConfusion (h2.symm.trans b3)
  refine QE (λb5=>?_) (λb5=>?_);refine⟨rfl,rfl,_,Qds d E (QD l) l many f g _ f g,?_⟩
  rotate_left
  .exact Bool.noConfusion (h100.symm.trans b5)
  .exact Bool.noConfusion (hlen.symm.trans b0)
  all_goals (repeat' first|with_reducible refine QL ?_ ?_|exact tv|with_reducible exact qRr|exact rfl|refine aI ?_ ?_)
 | false=>
  simp only[cond_false,X9];refine K7 (E:=mkE prog (QAT QQ l)) (QO hT) func103 (by kernel_rfl) (by kernel_rfl) (QPG ..) (λG hG _=>QR6 _ hT G hG) ⟨?_⟩
  refine Qf et ?_;clear et;refine QE (λb0=>?_) (λb0=>?_);refine QE (λb1=>?_) (λb1=>?_);refine QG ?_ ?_;rotate_left;refine QE ?_ ?_<;>intro b2
  .exact Bool.noConfusion (h100.symm.trans b2)
  rw[b1];simp only[cond_true];refine⟨rfl,rfl,_,QcW d E (QD l) l many f g _ l g,?_⟩
  rotate_left
  refine QE (λb3=>?_) (λb3=>?_);refine QG ?_ ?_;rotate_left;refine QE ?_ ?_<;>intro b4
  .exact Bool.noConfusion (h100.symm.trans b4)
  rw[b1,b3];simp only[cond_true,cond_false];refine⟨rfl,rfl,_,QgP d E (QD l) l many f g _ f l,?_⟩
  rotate_left
  refine QE ?_ ?_<;>intro b5
  .exact Bool.noConfusion (h100.symm.trans b5)
  rw[b1,b3];simp only[cond_false];refine⟨rfl,rfl,_,Qcm d E (QD l) l many f g _ f g,?_⟩
  rotate_left
  .exact Bool.noConfusion (hlen.symm.trans b0)
  all_goals first|((with_reducible show _=true);((refine KI.2 ?_;repeat' first|exact tv|with_reducible exact qRr|exact rfl|refine aI ?_ ?_)))|(repeat' first|with_reducible refine QL ?_ ?_|exact tv|with_reducible exact qRr|exact rfl|refine aI ?_ ?_)
theorem QKU{d:Puz}{E:ECt}{ac body:Code}{rec:List Lay->SoS->Qd SoS}{l:List Lay}(hd:KO d)(hE:WfE E)(hl:l.length<=1000)(hL:∀ y∈l,KD d y)(s:SoS)(IH:∀ p,p<d.ps.n->QED d E ac body rec l p){X:List (Prop×Ex×JSt)}(hX:∀ e J,Xx d E ac body rec l (0,s) e J->∃ y∈X,y.1/\y.2.1=e/\y.2.2=J)(G:Ctx)(hrd:G.rd=none)(hG:G.n=464):
  Qw (mkE prog QT) G (soX prog (Gf d E ac body (QD l) l s.1 s.2.1 s.2.2 0) X) (Qk f103):=by
 refine KN (body:=QH f103 0) (QO Qh) hrd (by kernel_rfl) ?_
 have hEnv:∀ k:Nat×SoS,(mkE prog (Ww QQ d l.length k.1)).Sound:=λk=>QO (Qh.add (X6 d l.length k.1));refine Jo (E0:=mkE prog QT) (E:=λk:Nat×SoS=>mkE prog (Ww QQ d l.length k.1)) (H:=λk=>QCt prog QQ d E ac body (QD l) l k.2.1 k.2.2.1 k.2.2.2 k.1 (QB5 d E ac body rec l k.1 k.2)) (n0:=464) (s0:=(0,s)) (λ_=>rfl) hEnv (by omega) (λk _=>Qf2 hd hE hl hL k.1 k.2 (IH k.1) G hrd (by omega)) (λk _=>(by decide:464<=504)) ?_ (QdW d E ac body rec l hd.n) (Nat.zero_le _) hX
 intro k e J hr;unfold Xx at hr;split at hr<;>(rw[hr.2];exact(by decide:464<=504))
set_option maxHeartbeats 1000000 in
theorem QeR{d:Puz}{E:ECt}(hd:KO d)(hE:WfE E){k:Nat}{l:List Lay}(hk:l.length+(k+1)=d.ps.n)(hL:∀ y∈l,KD d y)(IH:∀ p,p<d.ps.n->QED d E VG VN (onZ d E k) l p)(s:SoS):QR prog 103 (uFC (X9 d E VG VN l s (onZ d E (k+1) l s))):=by
 have hdn:=hd.n;have hr0:onZ d E (k+1) l s=Q5 (K3 d E (onZ d E k) l) (List.range d.ps.n) s:=rfl;rw[hr0];have hne:((l.length:Int)==(d.ps.n:Int))=false:=by rw[beq_eq_false_iff_ne];omega
 obtain⟨many,f,g⟩:=s;cases hc:Q5 (K3 d E (onZ d E k) l) (List.range d.ps.n) (many,f,g)with
 | go s'=>
  obtain⟨many',f',g'⟩:=s';simp only[X9];have et:=QNe d E (QD l) (QD l) l many f g True False many' f' g';refine K7 (E:=mkE prog QT) (QO Qh) func103 (by kernel_rfl) (by kernel_rfl) (QPG ..) (QKU hd hE (by omega) hL (many,f,g) IH (X:=[(True,.exit 0,zl d E VG VN (QD l) l many' f' g'),(False,.ret,soF d E VG VN (QD l) l many' f' g')]) ?_) ⟨?_⟩
  .intro e J hr;unfold Xx at hr;simp only[List.drop_zero,hc]at hr;exact⟨_,qmc,trivial,hr.1.symm,hr.2.symm⟩
  refine Qf et ?_;clear et;refine QE ?_ ?_<;>intro b0
  .exact Bool.noConfusion (hne.symm.trans b0)
  iterate 128 refine Qu (by first|exact tv|with_reducible exact qRr|exact rfl) ?_
  refine Kh ?_ ?_;refine Qg λa0=>?_;refine Qj λg0=>?_;refine⟨rfl,rfl,_,Qel d E (QD l) (QD l) l many f g many' f' g',?_⟩
  rotate_left
  refine Qg λa1=>?_;refine Qj λg1=>?_
  .exact a1.elim
  all_goals (repeat' first|with_reducible refine QL ?_ ?_|exact tv|with_reducible exact qRr|exact rfl|refine aI ?_ ?_)
 | stop s'=>
  obtain⟨many',f',g'⟩:=s';simp only[X9];have et:=QNe d E (QD l) (QD l) l many f g False True many' f' g';refine K7 (E:=mkE prog QT) (QO Qh) func103 (by kernel_rfl) (by kernel_rfl) (QTk ..) (QKU hd hE (by omega) hL (many,f,g) IH (X:=[(False,.exit 0,zl d E VG VN (QD l) l many' f' g'),(True,.ret,soF d E VG VN (QD l) l many' f' g')]) ?_) ⟨?_⟩
  .intro e J hr;unfold Xx at hr;simp only[List.drop_zero,hc]at hr;exact⟨_,List.mem_cons_of_mem _ qmc,trivial,hr.1.symm,hr.2.symm⟩
  refine Qf et ?_;clear et;refine QE ?_ ?_<;>intro b0
  .exact Bool.noConfusion (hne.symm.trans b0)
  iterate 128 refine Qu (by first|exact tv|with_reducible exact qRr|exact rfl) ?_
  refine Kh ?_ ?_;refine Qg λa0=>?_;refine Qj λg0=>?_
  .exact a0.elim
  refine Qg λa1=>?_;refine Qj λg1=>?_;refine⟨rfl,rfl,_,QV3 d E (QD l) (QD l) l many f g many' f' g',?_⟩
  rotate_left
  all_goals (repeat' first|with_reducible refine QL ?_ ?_|exact tv|with_reducible exact qRr|exact rfl|refine aI ?_ ?_)
theorem QDP{d:Puz}{l:List Lay}{p t:Nat}(hp:p<d.ps.n)(ht:t<QZ d p)(hL:∀ y∈l,KD d y):∀ y∈l++[(⟨p,t⟩:Lay)],KD d y:=by
 intro y hy;rcases List.mem_append.1 hy with q|q
 .exact hL y q
 .have h4:=(WD d p).2;rw[List.mem_singleton.1 q];exact⟨⟨by show(0:Int)<=p;omega,by show(p:Int)<_;omega⟩,by show(0:Int)<=t;omega,by show(t:Int)<=3;omega⟩
theorem Qan{d:Puz}{E:ECt}(hn:d.ps.n<=1000)(hpos:0<d.ps.n)(l:List Lay)(s:SoS)(hk:l.length=d.ps.n):QR prog 103 (uFC (X9 d E VG VN l s (onZ d E 0 l s))):=by
 have h0:onZ d E 0 l s=ZI l s:=rfl;have h1:0<l.length:=by rw[hk];exact hpos
 have h2:l.length<=1000:=by rw[hk];exact hn
 rw[h0];exact Qg7 d E l s hk h1 h2
theorem QEr(x:Lay){k n:Nat}(h:l.length+(k+1)=n):(l++[x]).length+k=n:=by
 rw[List.length_append,List.length_singleton];omega
theorem QVl{d:Puz}{E:ECt}(hd:KO d)(hE:WfE E)(hpos:0<d.ps.n)(k:Nat):∀(l:List Lay) (s:SoS),l.length+k=d.ps.n->(∀ y∈l,KD d y)->QR prog 103 (uFC (X9 d E VG VN l s (onZ d E k l s))):=by
 induction k with
 | zero=>exact λl s hk _=>Qan hd.n hpos l s hk
 | succ k ih=>
  intro l s hk hL;refine QeR hd hE hk hL ?_ s;intro p hp t ht s;exact ih _ s (QEr l _ hk) (QDP hp ht hL)
def XO(pb:List Prop->Bool)(d:Puz)(E:ECt)(U:UC):Tab:=Qa (Qa QT 60 (KM pb (nbU d E))) 103 (KM pb U)
def GC(m e:Int):AV := .tup [.slz 0 0 f.length (.of 0),.slz 1 0 g.length (.of 0),.int false .i64 m,.int false .i64 e]
def j4:List (Nat×Blk):=[rwY 0 f,rwY 1 g]
abbrev QQs:List Prop:=
  (waa d++([cO=cO]++wad d))
abbrev QUW(d:Puz)(u:Nat->Nat->Int):List Prop:=
  ((wbK)++waa d++(([cO=cO,0=0,E.1=E.1,E.2=E.2,0=0]++wbo d++[QB 1 d.ps.n (λx x_1=>(0:Int)) u])++wai++([Array.mk
  [18]=Array.mk [18]]++wbz))++waa d++([cO =
  cO]++wbX)++waa d++([cO=cO]++wbE++((wbV++[(0:Int)=0,0=0,0=0,0=0,0=0,Fn.func 103=Fn.func 103])++wbK++[0=0,0=0]))++waa d++([cO=cO]++wad d))
noncomputable abbrev QNp:List (Nat×Blk):=
  [(449,.rowz true 49 kB f'.length λi=>QA.enc (f'.getD i (Lay.mk (0:Int) (0:Int)))),(450,.rowz true 49 kB g'.length λi=>
  QA.enc (g'.getD i (Lay.mk (0:Int) (0:Int))))]
theorem QUm(pb:List Prop->Bool)(d:Puz)(E:ECt)(u:Nat->Nat->Int)(many':Int)(f' g':List Lay):Kd (mkE prog (XO pb d E (VJ d E (QN f24 0).1 (QN f24 0).2 u [] 0 [] [] many' f' g'))) (hnd (mkE prog (XO pb d E (VJ d E (QN f24 0).1 (QN f24 0).2 u [] 0 [] [] many' f' g'))) 8) f24 (Qb.vals 0 ((d,()):Puz×Unit)) (Qb.blks 0 ((d,()):Puz×Unit)) 96 = .need (decide (d.ps.n<=d.ps.n)&&true&&decide (d.ps.n<=1000)) (.br (!d.ok) (.leaf (.tup [.nils,.nils,vj 0,vj 1]) ([])) (.need (pb ((QQs d))) (.need (decide ((d.ps.n:Int)=(d.ps.n:Int))&&decide ((0:Int)<=(d.ps.n:Int)/\(d.ps.n:Int)<=17179869184)) (.need (pb ((QUW E d u))) (.br (many'==0) (.leaf (.tup [.nils,.nils,vj 0, vj 4]) ([])) (.leaf (.tup [.slz 449 0 f'.length cO,.slz 450 0 g'.length cO,vi many',vj 0]) ((QNp f' g')))))))):=by kernel_rfl
theorem Qem(pb:List Prop->Bool)(d:Puz)(E:ECt)(u:Nat->Nat->Int)(many':Int)(f' g':List Lay):Kd (mkE prog (XO pb d E (Xa d E (QN f24 0).1 (QN f24 0).2 u [] 0 [] [] many' f' g'))) (hnd (mkE prog (XO pb d E (Xa d E (QN f24 0).1 (QN f24 0).2 u [] 0 [] [] many' f' g'))) 8) f24 (Qb.vals 0 ((d,()):Puz×Unit)) (Qb.blks 0 ((d,()):Puz×Unit)) 96 = .need (decide (d.ps.n<=d.ps.n)&&true&&decide (d.ps.n<=1000)) (.br (!d.ok) (.leaf (.tup [.nils,.nils,vj 0,vj 1]) ([])) (.need (pb ((QQs d))) (.need (decide ((d.ps.n:Int)=(d.ps.n:Int))&&decide ((0:Int)<=(d.ps.n:Int)/\(d.ps.n:Int)<=17179869184)) (.need (pb ((QUW E d u))) (.br (many'==0) (.leaf (.tup [.nils,.nils,vj 0, vj 4]) ([])) (.leaf (.tup [.slz 449 0 f'.length cO,.slz 450 0 g'.length cO,vi many',vj 0]) ((QNp f' g')))))))):=by kernel_rfl
theorem Qge(m e':Int):QF 96 [(AV.tup [AV.nils,AV.nils,vj (0:Int),vj (1:Int)])] ([]) (KW 96 (GC f g m e') (j4 f g))=( some [f.length=(0:Nat),g.length=(0:Nat),(0:Int)=m,(1:Int)=e',f.length=(0:Nat),g.length=(0:Nat)]):=by kernel_rfl
theorem QdT(m e':Int):QF 96 [(AV.tup [AV.nils,AV.nils,vj (0:Int),vj (4:Int)])] ([]) (KW 96 (GC f g m e') (j4 f g))=( some [f.length=(0:Nat),g.length=(0:Nat),(0:Int)=m,(4:Int)=e',f.length=(0:Nat),g.length=(0:Nat)]):=by kernel_rfl
noncomputable abbrev wbf(f:List Lay)(f':List Lay)(g:List Lay)(g':List Lay):List Prop:=[f.length<=f'.length,QB (2:Nat) f.length (λi=>QA.enc (f'.getD i (Lay.mk (0:Int) (0:Int)))) λi=>QA.enc (f.getD i (Lay.mk (0:Int) (0:Int))),g.length<=g'.length,QB (2:Nat) g.length (λi=>QA.enc (g'.getD i (Lay.mk (0:Int) (0:Int)))) λi=>QA.enc (g.getD i (Lay.mk (0:Int) (0:Int)))]
theorem QjA(f' g' f g:List Lay)(m e':Int):QF 96 [(AV.tup [AV.slz (449:Nat) (0:Nat) f'.length cO,AV.slz (450:Nat) (0:Nat) g'.length cO,vi many',vj (0:Int)])] ([((449:Nat),Blk.rowz true (49:Nat) [CK.int i64,CK.int i64] f'.length λi=>QA.enc (f'.getD i (Lay.mk (0:Int) (0:Int)))),((450:Nat),Blk.rowz true (49:Nat) [CK.int i64,CK.int i64] g'.length λi=>QA.enc (g'.getD i (Lay.mk (0:Int) (0:Int))))]) (KW 96 (GC f g m e') (j4 f g))=( some ([0=0,f'.length=f.length,cO=cO,0=0,g'.length=g.length,cO=cO,many'=m,(0:Int)=e']++wbf f f' g g')):=by kernel_rfl
theorem QZK(m e':Int):QF 96 [(AV.tup [AV.nils,AV.nils,vj (0:Int),vj (4:Int)])] ([]) (KW 96 (GC f g m e') (j4 f g))=( some [f.length=(0:Nat),g.length=(0:Nat),(0:Int)=m,(4:Int)=e',f.length=(0:Nat),g.length=(0:Nat)]):=by kernel_rfl
theorem QXF(f' g' f g:List Lay)(m e':Int):QF 96 [(AV.tup [AV.slz (449:Nat) (0:Nat) f'.length cO,AV.slz (450:Nat) (0:Nat) g'.length cO,vi many',vj (0:Int)])] ([((449:Nat),Blk.rowz true (49:Nat) [CK.int i64,CK.int i64] f'.length λi=>QA.enc (f'.getD i (Lay.mk (0:Int) (0:Int)))),((450:Nat),Blk.rowz true (49:Nat) [CK.int i64,CK.int i64] g'.length λi=>QA.enc (g'.getD i (Lay.mk (0:Int) (0:Int))))]) (KW 96 (GC f g m e') (j4 f g))=( some ([0=0,f'.length=f.length,cO=cO,0=0,g'.length=g.length,cO=cO,many'=m,(0:Int)=e']++wbf f f' g g')):=by kernel_rfl
theorem ZA{d:Puz}(h:d.okN=true):KO d/\0<d.ps.n/\d.ps.n<=9:=by
 simp only[Puz.okN,Qz,qbA,qdE,beq_iff_eq]at h;obtain⟨⟨h1,h2⟩,⟨h3,h4⟩,⟨h5,h6⟩,h7⟩:=h;have hm:d.wide*d.high<=9*9:=Int.mul_le_mul (by omega) (by omega) (by omega) (by omega)
 have hm0:0<=d.wide*d.high:=Int.mul_nonneg (by omega) (by omega)
 rw[w64 (by omega) (by omega)]at h7
 exact⟨⟨by omega,h3,h4,h5,h6,h7⟩,by omega,by omega⟩
theorem Y4{d:Puz}(h:d.ok=true):d.okN=true:=by
 rw[Puz.ok,qbA]at h;exact h.1
def QX:List Lay×List Lay×Int×Int:=cond d.ok
 (match onZ d (QK d) d.ps.n [] (0,[],[])with
  | .go s | .stop s=>cond (s.1==0) ([],[],0,4) (s.2.1,s.2.2,s.1,0))
 ([],[],0,1)
def XP:WF (Puz×Unit):=λ|(d,_)=>(decide (d.ps.n<=1000),GC (QX d).1 (QX d).2.1 (QX d).2.2.1 (QX d).2.2.2,j4 (QX d).1 (QX d).2.1)
def QIu:FC:=wFC XP
theorem QH4:WOk (XP (d,())).2.1 (XP (d,())).2.2:=⟨rfl,by simp[XP,j4,rwY,Blk.own,Blk.all],rfl⟩
theorem QXj(hn:d.ps.n<=1000)(hx:d.ok=false):QR prog 24 (wFC (VY XP (d,()))):=by
 have hT:Qc (XO (λ_=>false) d (QK d) (VJ d (QK d) VG VN (QD []) [] 0 [] [] 0 [] [])):=(Qh.add (Jr (by kernel_rfl) _)).add (Jr (by kernel_rfl) _)
 have hv:QX d=([],[],0,1):=by simp only[QX,hx,cond_false]
 refine Yu (c:=Qk f24) (E:=mkE prog (XO (λ_=>false) d (QK d) (VJ d (QK d) VG VN (QD []) [] 0 [] [] 0 [] []))) (H:=hnd (mkE prog (XO (λ_=>false) d (QK d) (VJ d (QK d) VG VN (QD []) [] 0 [] [] 0 [] []))) 8) (QO hT) func24 (by kernel_rfl) (by kernel_rfl) (N:=96) (by decide) (d,()) (λG h1 _=>Qv (QO hT) 8 G _ h1) (QH4 d) ?_
 refine Qf (QUm (λ_=>false) d (QK d) (QD []) 0 [] []) ?_;refine QG (by simp;omega) (QE (λ_=>?_) (λh=>by rw[hx]at h;cases h))
 simp only[XP,hv];refine⟨rfl,rfl,_,Qge [] [] 0 1,?_⟩
 repeat' first|with_reducible refine QL ?_ ?_|exact tv|with_reducible exact qRr|exact rfl|refine aI ?_ ?_
theorem Qin(hx:d.ok=true):QR prog 24 (wFC (VY XP (d,()))):=by
 obtain⟨hd,hpos,h9⟩:=ZA (Y4 hx);have hon:=QVl hd (Y1 d hd.n).w hpos d.ps.n [] (0,[],[]) (by simp) (λc hc=>by cases hc)
 have hdn:=hd.n;have hz:∀ k,QB 1 k (λ_ _=>0) (QD []):=λk i _=>⟨rfl,trivial⟩;cases he:onZ d (QK d) d.ps.n [] (0,[],[])with
 | go s=>
  rw[he]at hon;have hT:Qc (XO QQ d (QK d) (VJ d (QK d) VG VN (QD []) [] 0 [] [] s.1 s.2.1 s.2.2)):=(Qh.add (Zn d (by omega))).add hon
  have hv:QX d=cond (s.1==0) ([],[],0,4) (s.2.1,s.2.2,s.1,0):=by
   simp only[QX,hx,he,cond_true]
  refine Yu (c:=Qk f24) (E:=mkE prog (XO QQ d (QK d) (VJ d (QK d) VG VN (QD []) [] 0 [] [] s.1 s.2.1 s.2.2))) (H:=hnd (mkE prog (XO QQ d (QK d) (VJ d (QK d) VG VN (QD []) [] 0 [] [] s.1 s.2.1 s.2.2))) 8) (QO hT) func24 (by kernel_rfl) (by kernel_rfl) (N:=96) (by decide) (d,()) (λG h1 _=>Qv (QO hT) 8 G _ h1) (QH4 d) ?_
  have et:=QUm QQ d (QK d) (QD []) s.1 s.2.1 s.2.2;refine Qf et ?_;clear et;refine QG ?_ ?_;rotate_left;refine QE ?_ ?_<;>intro b0
  .rw[hx]at b0;cases b0
  iterate 3 (refine QG ?_ ?_;rotate_left)
  refine QE (λb1=>?_) (λb1=>?_);simp only[XP,hv,show(s.1==0)=true from b1,cond_true];refine⟨rfl,rfl,_,QdT [] [] 0 4,?_⟩
  rotate_left
  simp only[XP,hv,show(s.1==0)=false from b1,cond_false];refine⟨rfl,rfl,_,QjA s.1 s.2.1 s.2.2 s.2.1 s.2.2 s.1 0,?_⟩
  rotate_left
  all_goals first|((with_reducible show _=true);(first|(refine KI.2 ?_;repeat' first|with_reducible refine QL ?_ ?_|exact tv|with_reducible exact qRr|with_reducible exact hz _|exact rfl|refine aI ?_ ?_)|(simp;omega)))|(repeat' first|with_reducible refine QL ?_ ?_|exact tv|with_reducible exact qRr|exact rfl|refine aI ?_ ?_)
 | stop s=>
  rw[he]at hon;have hT:Qc (XO QQ d (QK d) (Xa d (QK d) VG VN (QD []) [] 0 [] [] s.1 s.2.1 s.2.2)):=(Qh.add (Zn d (by omega))).add hon
  have hv:QX d=cond (s.1==0) ([],[],0,4) (s.2.1,s.2.2,s.1,0):=by
   simp only[QX,hx,he,cond_true]
  refine Yu (c:=Qk f24) (E:=mkE prog (XO QQ d (QK d) (Xa d (QK d) VG VN (QD []) [] 0 [] [] s.1 s.2.1 s.2.2))) (H:=hnd (mkE prog (XO QQ d (QK d) (Xa d (QK d) VG VN (QD []) [] 0 [] [] s.1 s.2.1 s.2.2))) 8) (QO hT) func24 (by kernel_rfl) (by kernel_rfl) (N:=96) (by decide) (d,()) (λG h1 _=>Qv (QO hT) 8 G _ h1) (QH4 d) ?_
  have et:=Qem QQ d (QK d) (QD []) s.1 s.2.1 s.2.2;refine Qf et ?_;clear et;refine QG ?_ ?_;rotate_left;refine QE ?_ ?_<;>intro b0
  .rw[hx]at b0;cases b0
  iterate 3 (refine QG ?_ ?_;rotate_left)
  refine QE (λb1=>?_) (λb1=>?_);simp only[XP,hv,show(s.1==0)=true from b1,cond_true];refine⟨rfl,rfl,_,QZK [] [] 0 4,?_⟩
  rotate_left
  simp only[XP,hv,show(s.1==0)=false from b1,cond_false];refine⟨rfl,rfl,_,QXF s.1 s.2.1 s.2.2 s.2.1 s.2.2 s.1 0,?_⟩
  rotate_left
  all_goals first|((with_reducible show _=true);(first|(refine KI.2 ?_;repeat' first|with_reducible refine QL ?_ ?_|exact tv|with_reducible exact qRr|with_reducible exact hz _|exact rfl|refine aI ?_ ?_)|(simp;omega)))|(repeat' first|with_reducible refine QL ?_ ?_|exact tv|with_reducible exact qRr|exact rfl|refine aI ?_ ?_)
theorem Qgv(hx:(XP (d,())).1=true):QR prog 24 (wFC (VY XP (d,()))):=by
 have hn:d.ps.n<=1000:=qdt hx;cases ho:d.ok with
 | false=>exact QXj d hn ho
 | true=>exact Qin d ho
theorem QRW:QR prog 24 QIu:=Gc (by kernel_rfl) λ|(d,()),hx=>Qgv d hx
def haT:List AV:=[.ptr 200 0 0,(.slz 216 0 K.n C),.tup [],.tup [],.ptr 232 0 0,.ptr 200 0 0,(.slz 216 0 K.n C),.fn (.func 102) [.ptr 256 0 0,.ptr 264 0 0],.tup []]
def QG1:List AV:=[.ptr 256 0 0,.ptr 304 0 0,.ptr 368 0 0,.ptr 264 0 0,.ptr 384 0 0]
def haR:List (Nat×Blk):=
 [(384,.cellsR 0 31 [.fn (.func 103) QG1]),(304,.cellsR 0 105 [.yld 297]),(264,.cellsR 0 96 [(.slz 216 0 K.n C)]),(256,.cellsR 0 90 [.ptr 200 0 0])]++Qi.blk 216 K++Qi.blk 0 d.ps
def haW(ls:LoopState)(pe:Option Code)(v:Bool)(d:Puz)(E:ECt)(C:Cap)(K:Rw Pt)(ac body:Code)(u:Nat->Nat->Int)(l:List Lay)(a w:Nat):List (Nat×Blk):=
 [(200,.cells 0 152 (KS d++[.map 201,.slz a 0 l.length (.of 0)])),(201,.mp E.1 E.2),rwY a l,(368,.cells 0 114 [.slz w 0 d.ps.n (.of 0)]),rwU w d u,(297,.lp ls pe (haT C K) #[8] ac body),(232,.cells 0 4 [.bool true v])]
def haS:List (Nat×AV):=[(0,.ptr 256 0 0),(1,.ptr 304 0 0),(2,.ptr 368 0 0),(3,.ptr 264 0 0),(4,.ptr 384 0 0)]
def Gw(l:List Lay):JSt:=⟨5,haS,haW .ready none false d E C K ac body u l 400 408++haR d C K,416⟩
def Z1(_:List Lay)(_:Unit):Qd Unit := .stop ()
def haU(l:List Lay)  :UC:=
 ⟨392,Gw d E C K ac body u l,λ_=>.bool false true,λm=>haW .ready none false d E C K ac body u l m (m+1)⟩
def haV(l:List Lay)  :UC:=
 ⟨392,Gw d E C K ac body u l,λ_=>.bool false false,λm=>haW .done (some .ret) true d E C K ac body u l m (m+1)⟩
def Zg:List Nat:=[200,201,368,297,232]
def QHK(n:Nat)(p:Nat):List (Nat×AV):=haS++[(33,.int false .i64 n),(34,.int false .i64 p)]
def Qh1(n:Nat)(p:Nat)(tn:Int)(t:Nat):List (Nat×AV):=QHK n p++[(6,.int false .i64 p),(43,.int false .i64 tn),(44,.int false .i64 t)]
def zJ(l:List Lay)(p:Nat):JSt:=⟨101,QHK d.ps.n p,haW .ready none false d E C K ac body u l 424 432++haR d C K,440⟩
def jo(l:List Lay)(p:Nat)(tn:Int)(t:Nat):JSt:=⟨101,Qh1 d.ps.n p tn t,haW .ready none false d E C K ac body u l 424 432++haR d C K,440⟩
def Gp(l:List Lay):JSt:=⟨101,[],haW .ready none false d E C K ac body u l 424 432,440⟩
def QAd(l:List Lay)(p:Nat):JSt:=⟨101,QHK d.ps.n p,haW .ready none false d E C K ac body u l 424 432++haR d C K,440⟩
def haF(l:List Lay):JSt:=⟨101,[(5,.bool false false)],haW .done (some .ret) true d E C K ac body u l 424 432,440⟩
def QNm:Ex->List Nat
 | .normal=>[0,1,2,3,4,33,34]
 | .exit _=>[]
 | .ret=>[5]
def QJh:Ex->List Nat
 | .normal=>[0,1,2,3,4,33,34,6,43,44]
 | .exit _=>[0,1,2,3,4,33,34]
 | .ret=>[5]
def QBA(pb1 pb2:List Prop->Bool)(d:Puz)(E:ECt)(C:Cap)(K:Rw Pt)(l:List Lay)(x:Lay)(v:Bool)(U:UC):Tab:=Qa (Qa QT 105 (KM pb1 (myU d E l x v))) 103 (KM pb2 U)
noncomputable abbrev waK:List AV:=[.ptr 256 0 0,.ptr 304 0 0,.ptr 368 0 0,.ptr 264 0 0,.ptr 384 0 0]
noncomputable abbrev Gd(tn:Int):List AV:=
  (.nilp::.ptr 101 0 0::List.append (waK) ((List.append (wbp d p) ([.int false .i64 tn,vi (i64.wrap ((t:Int)+1))]))))
noncomputable abbrev vA:Nat×Blk:=
  (256,.cellsR 0 90 [.ptr 200 0 0])
noncomputable abbrev vQ:Nat×Blk:=
  (264,.cellsR 0 96 [.slz 216 0 K.n C])
noncomputable abbrev QCe:Nat×Blk:=
  (384,.cellsR 0 31 [.fn (Fn.func 103) (waK)])
noncomputable abbrev jh:Nat×Blk:=
  (0,.frz (wae) d.ps.n λi=>QA.enc (d.ps.get i))
noncomputable abbrev vo:Nat×Blk:=
  (216,.frz [.int .i64,.int .i64,.int .i64] K.n λi=>QA.enc (K.get i))
noncomputable abbrev wbj(C:Cap)(K:Rw Pt)(ac:Code)(body:Code):List (Nat×Blk):=[(297,.lp LoopState.ready none (haT C K) (Array.mk [8]) ac body),(232,.cells 0 4 [.bool true false])]
noncomputable abbrev Z9(E:ECt)(K:Rw Pt)(ac:Code)(body:Code)(d:Puz)(l:List Lay)(u:Nat->Nat->Int):List (Nat×Blk):=
  ((200,.cells 0 152 (List.append (waf d) ([.map 201,.slz 424 0 l.length cO])))::(201,.mp E.1 E.2)::(368,.cells 0 114 [.slz
  432 0 d.ps.n cO])::List.append (wbj C K ac body) ([vA,(304,.cellsR 0 105 [.yld 297]),(vQ C
  K),QCe,(jh d),(424,.rowz true 49 kB l.length λi=>QA.enc (l.getD i (Lay.mk (0:Int) (0:Int)))),(432,.rowz true 4 [CK.bool] d.ps.n u),(vo
  K)]))
abbrev QPZ(d:Puz)(l:List Lay)(p:Nat)(t:Nat):List Prop:=
  ([0=0,0=0,(p:Int)=(p:Int),(t:Int)=(t:Int)]++waa d++(([cO=cO,0=0,l.length=l.length,cO
  = cO]++wag l++[E.1=E.1,E.2=E.2])++wad d))
abbrev wav(l:List Lay)(l2:List Lay)(p:Nat)(t:Nat):List Prop:=[l2.length<=l.length+1,QB 2 l2.length (KT l.length (λi=>QA.enc (l.getD i (Lay.mk (0:Int) (0:Int)))) (Ke [[.int
  false .i64 (p:Int),vi (t:Int)]] 0)) λi=>QA.enc (l2.getD i (Lay.mk (0:Int) (0:Int)))]
abbrev wa3(K:Rw Pt):List Prop:=[K.n<=K.n,QB 3 K.n (λi=>QA.enc (K.get i)) λi=>QA.enc (K.get i)]
abbrev QRk(E:ECt)(K:Rw Pt)(ac:Code)(body:Code)(d:Puz)(l:List Lay)(l2:List Lay)(p:Nat)(t:Nat)(u:Nat->Nat->Int)(u2:Nat->Nat->Int):List Prop:=
  ((wbK)++waa d++((([cO=cO,0=0,l.length+1=l2.length,cO=cO,E.1=E.1,E.2=E.2]++wav l l2 p t++(wbo d++[QB 1 d.ps.n (λi=>bif decide (i=p)then Ki [.bool true true] 0 (u ((p:Int).toNat+0))else u i) u2]))++wai++((([Array.mk [8]=Array.mk [8],ac=ac,body=body,0=0,0=0,0=0,K.n=K.n,C=C,0=0,0=0,0=0,0=0,0=0,K.n=K.n,C=C]++wbV++[false=false,Fn.func 103=Fn.func 103])++wbK++[0=0,K.n=K.n,C=C,0=0,0=0])++wa3 K))++wad d))
noncomputable abbrev GO:Nat×Blk:=
  (200,.cells 0 152 (List.append (waf d) ([.map 201,.slz 752 0 (i64.wrap ((l2.length:Int)-1)).toNat cO])))
noncomputable abbrev GF:Nat×Blk:=
  (368,.cells 0 114 [.slz 753 0 d.ps.n cO])
noncomputable abbrev Hd:Nat×Blk:=
  (752,.rowz true 49 kB l2.length λi=>QA.enc (l2.getD i (Lay.mk (0:Int) (0:Int))))
noncomputable abbrev zB:Nat×Blk:=
  (753,.rowz true 4 [CK.bool] d.ps.n λi=>bif decide (i=p)then Ki [.bool true false] 0 (u2 ((p:Int).toNat+0))else u2 i)
noncomputable abbrev QQf:List AV:=
  (.ptr 2 0 0::.ptr 101 0 0::List.append (waK) ([vi (d.ps.n:Int),vi (p:Int)]))
theorem Qc3(pb1 pb2:List Prop->Bool)(d:Puz)(E:ECt)(C:Cap)(K:Rw Pt)(ac body:Code)(u u2:Nat->Nat->Int)(l l2:List Lay)(v:Bool)(p:Nat)(tn:Int)(t:Nat)(g0:Nat->Value):exec (mkE prog (QBA pb1 pb2 d E C K l ⟨p,t⟩ v (haU d E C K ac body u2 l2))) (hnd (mkE prog (QBA pb1 pb2 d E C K l ⟨p,t⟩ v (haU d E C K ac body u2 l2))) 0) (QU (QH f103 0)) (JSt.inst (jo d E C K ac body u l p tn t) g0) (Q9 Zg QJh) = .br (decide ((t:Int)<tn)) (.need (decide (K.n<=K.n)&&(true&&(true&&true))&&decide (K.n<=1000)) (.br (!Qx K (l.length:Int) (Lay.mk (p:Int) (t:Int))) (.leaf (.tup (Gd d p t tn)) ((Z9 C E K ac body d l u))) (.need (pb1 ((QPZ E d l p t))) (.br (!v) (.leaf (.tup (Gd d p t tn)) ((Z9 C E K ac body d l u))) (.need (decide ((0:Int)<=(p:Int)/\(p:Int)<(d.ps.n:Int))&&decide (d.ps.n<=d.ps.n)) (.need (decide (p<d.ps.n)) (.need (decide (l.length<=l.length)&&(true&&decide ((l.length+1+(l.length+1) / 4+192)*16<=281474976710656/\l.length+1<=9223372036854775807))) (.need (pb2 ((QRk C E K ac body d l l2 p t u u2))) (.need (decide ((0:Int)<=i64.wrap ((l2.length:Int)-1)/\(i64.wrap ((l2.length:Int)-1)).toNat<=l2.length-0)) (.need (decide ((0:Int)<=(p:Int)/\(p:Int)<(d.ps.n:Int))&&decide (d.ps.n<=d.ps.n)) (.need (decide (p<d.ps.n)) (.br (false) (.leaf (.tup (wbI)) (((GO d l2)::(201,.mp E.1 E.2)::(GF d)::List.append (wbj C K ac body) ([(jh d),(Hd l2),(zB d p u2),(vo K),vA,(vQ C K)])))) (.leaf (.tup (Gd d p t tn)) (((GO d l2)::(201,.mp E.1 E.2)::(GF d)::List.append (wbj C K ac body) ([vA,(304,.cellsR 0 105 [.yld 297]),(vQ C K),QCe,(jh d),(Hd l2),(zB d p u2),(vo K)])))))))))))))))) (.leaf (.tup (QQf d p)) ((Z9 C E K ac body d l u))):=by kernel_rfl
noncomputable abbrev QIw(tn:Int):List AV:=
  (List.append (waK) ((List.append (wbp d p) ([vi tn,.int
  false .i64 (i64.wrap ((t:Int)+1))]))))
abbrev wbe(C:Cap)(K:Rw Pt):List Prop:=[K.n=K.n,C=C,Fn.func (102:FuncId)=Fn.func (102:FuncId)]
abbrev QOu(E:ECt)(K:Rw Pt)(ac:Code)(body:Code)(d:Puz)(l:List Lay)(p:Nat)(t:Nat)(t':Nat)(tn:Int)(u:Nat->Nat->Int):List Prop:=
  (((wbK)++waF d p++[tn=tn,i64.wrap ((t :
  Int)+1)=(t':Int)])++waa d++((([cO=cO,0=0]++wbL E l)++wag l++((wbo d++[QB 1 d.ps.n u u])++wai++(([Array.mk [8]=Array.mk [(8:Tmp)],ac=ac,body=body,0=0,0 =
  0,0=0,K.n=K.n,C=C,0=0,0=0,0=0,0=0,0=0]++wbe C K++([0=0,0=0,0=0,0=0,false=false,Fn.func
  103=Fn.func (103:FuncId)]++wbK++[0=0,K.n=K.n,C=C,0=0,0=0]))++wa3 K)))++wad d))
theorem QUG(l:List Lay)(p:Nat)(tn:Int)(t t':Nat):QF 416 (QIw d p t tn) ((Z9 C E K ac body d l u)) (jo d E C K ac body u l p tn t')=(some (QOu C E K ac body d l p t t' tn u)):=by kernel_rfl
theorem QSD(l:List Lay)(p:Nat)(tn:Int)(t t':Nat):QF 416 (QIw d p t tn) ((Z9 C E K ac body d l u)) (jo d E C K ac body u l p tn t')=(some (QOu C E K ac body d l p t t' tn u)):=by kernel_rfl
abbrev V5:List Prop:=
  [0=0,0=0,0=0,0=0]
abbrev QRS(d:Puz)(l:List Lay)(l2:List Lay)(p:Nat)(u2:Nat->Nat->Int)(u3:Nat->Nat->Int):List Prop:=
  ([d.pK.dK.lo=d.pK.dK.lo,d.pK.dK.hi=d.pK.dK.hi,d.wide=d.wide,d.high=d.high,d.turn=d.turn,0=0,d.ps.n=d.ps.n,cO=cO,0=0,(i64.wrap ((l2.length:Int)-1)).toNat=l.length,cO=cO]++waO E l l2++(wbo d++[QB 1 d.ps.n (λi=>bif decide
  (i=p)then Ki [.bool true false] 0 (u2 ((p:Int).toNat+0))else u2 i) u3]))
abbrev QIO:List Prop:=
  [Array.mk [8]=Array.mk [(8:Tmp)],ac=ac,body=body,0=0,0=0,0=0,K.n=K.n,C=C]
abbrev QLH(d:Puz):List Prop:=
  (([0=0,0=0,K.n=K.n,C=C,0=0,0=0]++wa3 K)++wad d)
abbrev wbJ(d:Puz):List Prop:=[d.pK.length=d.pK.length,d.pK.aK=d.pK.aK]
theorem QVi(u u2 u3:Nat->Nat->Int)(l l2:List Lay)(p:Nat)(tn:Int)(t t':Nat):QF 416 (QIw d p t tn) (((GO d l2)::(201,.mp E.1 E.2)::(GF d)::List.append (wbj C K ac body) ([vA,(304,.cellsR 0 105 [.yld 297]),(vQ C K),QCe,(jh d),(Hd l2),(zB d p u2),(vo K)]))) (jo d E C K ac body u3 l p tn t')=(some (V5++V5++([0=0,0=0]++waF d p++([tn=tn,i64.wrap ((t:Int)+1)=(t':Int)]++wbJ d++[d.pK.oK=d.pK.oK]))++(QRS E d l l2 p u2 u3)++(wai)++(QIO C K ac body)++V5++([0=0]++wbe C K)++V5++[false=false,Fn.func 103=Fn.func (103:FuncId)]++V5++V5++[0=0]++(QLH C K d))):=by kernel_rfl
theorem QKg(l:List Lay)(p:Nat):QF 416 (List.append (waK) ([vi (d.ps.n:Int),vi (p:Int)])) ((Z9 C E K ac body d l u)) (QAd d E C K ac body u l p)=(some (V5++V5++(([0=0,0=0]++wbM d p)++waa d++(([cO=cO,0=0]++wbL E l)++wag l++((wbo d++[QB 1 d.ps.n u u])++wai)))++(QIO C K ac body)++V5++([0=0]++wbe C K)++V5++[false=false,Fn.func 103=Fn.func (103:FuncId)]++V5++V5++[0=0]++(QLH C K d))):=by kernel_rfl
noncomputable abbrev waX(C:Cap)(K:Rw Pt)(ac:Code)(body:Code):List (Nat×Blk):=[(297,.lp LoopState.done (some Code.ret) (haT C K) (Array.mk [8]) ac body),(232,.cells 0 4 [.bool true true])]
theorem QhA(pb1 pb2:List Prop->Bool)(d:Puz)(E:ECt)(C:Cap)(K:Rw Pt)(ac body:Code)(u u2:Nat->Nat->Int)(l l2:List Lay)(v:Bool)(p:Nat)(tn:Int)(t:Nat)(g0:Nat->Value):exec (mkE prog (QBA pb1 pb2 d E C K l ⟨p,t⟩ v (haV d E C K ac body u2 l2))) (hnd (mkE prog (QBA pb1 pb2 d E C K l ⟨p,t⟩ v (haV d E C K ac body u2 l2))) 0) (QU (QH f103 0)) (JSt.inst (jo d E C K ac body u l p tn t) g0) (Q9 Zg QJh) = .br (decide ((t:Int)<tn)) (.need (decide (K.n<=K.n)&&(true&&(true&&true))&&decide (K.n<=1000)) (.br (!Qx K (l.length:Int) (Lay.mk (p:Int) (t:Int))) (.leaf (.tup (Gd d p t tn)) ((Z9 C E K ac body d l u))) (.need (pb1 ((QPZ E d l p t))) (.br (!v) (.leaf (.tup (Gd d p t tn)) ((Z9 C E K ac body d l u))) (.need (decide ((0:Int)<=(p:Int)/\(p:Int)<(d.ps.n:Int))&&decide (d.ps.n<=d.ps.n)) (.need (decide (p<d.ps.n)) (.need (decide (l.length<=l.length)&&(true&&decide ((l.length+1+(l.length+1) / 4+192)*16<=281474976710656/\l.length+1<=9223372036854775807))) (.need (pb2 ((QRk C E K ac body d l l2 p t u u2))) (.need (decide ((0:Int)<=i64.wrap ((l2.length:Int)-1)/\(i64.wrap ((l2.length:Int)-1)).toNat<=l2.length-0)) (.need (decide ((0:Int)<=(p:Int)/\(p:Int)<(d.ps.n:Int))&&decide (d.ps.n<=d.ps.n)) (.need (decide (p<d.ps.n)) (.br (true) (.leaf (.tup (wbI)) (((GO d l2)::(201,.mp E.1 E.2)::(GF d)::List.append (waX C K ac body) ([(jh d),(Hd l2),(zB d p u2),(vo K),vA,(vQ C K)])))) (.leaf (.tup (Gd d p t tn)) (((GO d l2)::(201,.mp E.1 E.2)::(GF d)::List.append (waX C K ac body) ([vA,(304,.cellsR 0 105 [.yld 297]),(vQ C K),QCe,(jh d),(Hd l2),(zB d p u2),(vo K)])))))))))))))))) (.leaf (.tup (QQf d p)) ((Z9 C E K ac body d l u))):=by kernel_rfl
theorem QXo(u2 u3:Nat->Nat->Int)(l l2:List Lay)(p:Nat):QF 416 [.bool true false] (((GO d l2)::(201,.mp E.1 E.2)::(GF d)::List.append (waX C K ac body) ([(jh d),(Hd l2),(zB d p u2),(vo K),vA,(vQ C K)]))) (haF d E C K ac body u3 l)=(some (([false=false]++wbJ d++[d.pK.oK=d.pK.oK])++(QRS E d l l2 p u2 u3)++[LoopState.done=LoopState.done,some Code.ret=some Code.ret]++(QIO C K ac body)++V5++([0=0]++wbe C K)++V5++[true=true])):=by kernel_rfl
