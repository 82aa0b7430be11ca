/- - -/
import Derived.Test.YtekbmehgcofnkaaGreatKzc
import Derived.Test.YtekbmehgcofnkaaGreatKzd
set_option linter.all false
noncomputable section
open Go.Proofs.Tryz
open Go.IntKind (i64)
set_option maxRecDepth 100000
namespace Go.Proofs.YtekbmehgcofnkaaGreat
open Go.SX Go.SX.Told
theorem QKz{σ α:Type}(f:σ->α->QZ σ):∀(a b:List α) (s:σ),Qw f (a++b) s=match Qw f a s with
  | .go s'=>Qw f b s'
  | .stop s' => .stop s'
 | [],_,_=>rfl
 | x::a,b,s=>by
  simp only[List.cons_append,Qw];cases f s x with
  | go s'=>exact QKz f a b s'
  | stop s'=>rfl
variable {σ α:Type}(d:Puz)(E:ECt)(f g:List Lay)(C:Cap)(K:Rw Pt)(ac body:Code)(many':Int)(f' g' l l2:List Lay)(p:Nat)(u u2:Nat->Nat->Int)(t:Nat)
theorem QCf{f g:σ->α->QZ σ}{l:List α}(h:∀ s,∀ a∈l,f s a=g s a)(s:σ):Qw f l s=Qw g l s:=by
 induction l generalizing s with
 | nil=>rfl
 | cons a l ih=>
  simp only[Qw,h s a qmc];cases g s a with
  | go s'=>exact ih (λs b hb=>h s b (List.mem_cons_of_mem _ hb)) s'
  | stop s'=>rfl
theorem QfQ{f:σ->α->QZ σ}{l:List α}(h:∀ s,∀ a∈l,f s a = .go s)(s:σ):Qw f l s = .go s:=by
 induction l generalizing s with
 | nil=>rfl
 | cons a l ih=>
  simp only[Qw,h s a qmc];exact ih (λs b hb=>h s b (List.mem_cons_of_mem _ hb)) s
theorem QFV{σ α β:Type}(f:σ->β->QZ σ)(g:α->List β):∀(l:List α) (s:σ),Qw f (l.flatMap g) s=Qw (λs a=>Qw f (g a) s) l s
 | [],_=>rfl
 | a::l,s=>by
  rw[List.flatMap_cons,QKz];simp only[Qw];cases Qw f (g a) s with
  | go s'=>exact QFV f g l s'
  | stop s'=>rfl
theorem QOW{σ α β:Type}(f:σ->β->QZ σ)(g:α->β):∀(l:List α) (s:σ),Qw f (l.map g) s=Qw (λs a=>f s (g a)) l s
 | [],_=>rfl
 | a::l,s=>by
  simp only[List.map_cons,Qw];cases f s (g a)with
  | go s'=>exact QOW f g l s'
  | stop s'=>rfl
def G7:List Lay:=(List.range d.ps.n).flatMap λp=>(List.range (QX d p)).map λt:Nat=>(⟨(p:Int),(t:Int)⟩:Lay)
def Wq(x:Lay):Bool:=l.any λy=>y.piece==x.piece
def GZ(A:Int->Lay->Bool)(d:Puz)(E:ECt)(l:List Lay)(x:Lay):Bool := !Wq l x&&(A l.length x&&Q0 d E l x)
def QAk(A:Int->Lay->Bool)(d:Puz)(E:ECt)(k:Nat)(l:List Lay):List (List Lay):=jZ (λ_=>G7 d) (GZ A d E) (λ_=>true) k l
def QBw(_:Int)(_:Lay):Bool:=true
theorem QPX{σ:Type}(A:Int->Lay->Bool)(d:Puz)(E:ECt)(Y:List Lay->σ->QZ σ):∀(k:Nat) (l:List Lay) (s:σ),onA A d E Y k l s=Qw (λs l=>Y l s) (QAk A d E k l) s
 | 0,l,s=>by
  simp only[onA,QAk,jZ,cond_true,Qw];cases Y l s<;>rfl
 | k+1,l,s=>by
  simp only[QAk,jZ];rw[QFV];unfold G7;rw[QFV,onA];refine QCf (λs p _=>?_) s;unfold XM;rw[QOW];cases hu:KI l p with
  | true=>
   rw[cond_true];refine(QfQ (λs t _=>?_) s).symm
   have:GZ A d E l ⟨(p:Int),(t:Int)⟩=false:=by
    unfold GZ;rw[show Wq l ⟨(p:Int),(t:Int)⟩=true from hu];rfl
   rw[this];rfl
  | false=>
   rw[cond_false];unfold inA;refine QCf (λs t _=>?_) s;unfold Jm KB GZ;rw[show Wq l ⟨(p:Int),(t:Int)⟩=false from hu];cases A l.length ⟨(p:Int),(t:Int)⟩with
   | false=>rfl
   | true=>
    cases Q0 d E l ⟨(p:Int),(t:Int)⟩with
    | false=>rfl
    | true=>
     have:=QPX A d E Y k (l++[⟨(p:Int),(t:Int)⟩]) s;simp only[cond_true,Bool.not_false,Bool.true_and]at this ⊢;rw[this];rfl
theorem QKk{σ:Type}(d:Puz)(E:ECt)(Y:List Lay->σ->QZ σ):∀(k:Nat) (l:List Lay) (s:σ),onY d E Y k l s=onA QBw d E Y k l s
 | 0,_,_=>rfl
 | k+1,l,s=>by
  rw[onY,onA];refine QCf (λs p _=>?_) s;unfold Km XM inZ inA;cases KI l p with
  | true=>rfl
  | false=>
   simp only[cond_false];refine QCf (λs t _=>?_) s;unfold Jm KB;rw[QKk d E Y k];rfl
def JT:List (List Lay):=QAk QBw d E d.ps.n []
theorem QKY(Y:List Lay->σ->QZ σ)(s:σ):onY d E Y d.ps.n [] s=Qw (λs l=>Y l s) (JT d E) s:=by
 rw[QKk,QPX];rfl
def XY(P:List (List Lay)):SoS:=((P.length:Int),P.getD 0 [],P.getD 1 [])
theorem Qd6(P:List (List Lay))(l:List Lay)(h:P.length<100):Y3 l (XY P)=cond (decide (P.length+1=100)) (.stop (XY (P++[l]))) (.go (XY (P++[l]))):=by
 have hw:i64.wrap ((P.length:Int)+1)=((P.length+1:Nat):Int):=(w64 (by omega) (by omega)).trans (by omega)
 have hs:(i64.wrap ((P.length:Int)+1),cond (i64.wrap ((P.length:Int)+1)==1) l (P.getD 0 []),cond (i64.wrap ((P.length:Int)+1)==1) (P.getD 1 []) (cond (i64.wrap ((P.length:Int)+1)==2) l (P.getD 1 [])))=XY (P++[l]):=by
  rw[hw];unfold XY
  match P with
  | []=>rfl
  | [a]=>rfl
  | a::b::P=>
   have h1:((((a::b::P).length+1:Nat):Int)==1)=false:=by
    rw[beq_eq_false_iff_ne];simp only[List.length_cons];omega
   have h2:((((a::b::P).length+1:Nat):Int)==2)=false:=by
    rw[beq_eq_false_iff_ne];simp only[List.length_cons];omega
   rw[h1,h2];simp
 unfold Y3
 have hc:(i64.wrap ((XY P).1+1)==100)=decide (P.length+1=100):=by
  show(i64.wrap ((P.length:Int)+1)==100)=_;rw[hw,Bool.eq_iff_iff];simp only[beq_iff_eq,qdE];omega
 rw[hc];show cond _ (QZ.stop (i64.wrap ((P.length:Int)+1),cond (i64.wrap ((P.length:Int)+1)==1) l (P.getD 0 []),cond (i64.wrap ((P.length:Int)+1)==1) (P.getD 1 []) (cond (i64.wrap ((P.length:Int)+1)==2) l (P.getD 1 [])))) (QZ.go (i64.wrap ((P.length:Int)+1),cond (i64.wrap ((P.length:Int)+1)==1) l (P.getD 0 []),cond (i64.wrap ((P.length:Int)+1)==1) (P.getD 1 []) (cond (i64.wrap ((P.length:Int)+1)==2) l (P.getD 1 []))))=_;rw[hs]
theorem QKV:∀(L P:List (List Lay)),P.length<100->Qw (λs l=>Y3 l s) L (XY P) = .go (XY (P++L))/\(P++L).length<100∨Qw (λs l=>Y3 l s) L (XY P) = .stop (XY ((P++L).take 100))/\100<=(P++L).length
 | [],P,h => .inl ⟨by rw[List.append_nil];rfl,by rw[List.append_nil];exact h⟩
 | l::L,P,h=>by
  simp only[Qw,Qd6 P l h]
  by_cases h1:P.length+1=100
  .refine .inr ⟨?_,by simp only[List.length_append,List.length_cons];omega⟩
   rw[qde h1,cond_true]
   have:(P++l::L).take 100=P++[l]:=by
    rw[show P++l::L=(P++[l])++L by simp,List.take_append_of_le_length (by simp;omega),List.take_of_length_le (by simp;omega)]
   rw[this]
  .rw[decide_eq_false h1,cond_false];have:=QKV L (P++[l]) (by simp;omega)
   simpa using this
theorem QJK(L:List α)(k i:Nat)(a:α)(h:i<k):(L.take k).getD i a=L.getD i a:=by
 simp only[List.getD_eq_getElem?_getD,List.getElem?_take,if_pos h]
theorem QXI:(match onZ d E d.ps.n [] (0,[],[])with | .go s | .stop s=>s)=(((min (JT d E).length 100:Nat):Int),(JT d E).getD 0 [],(JT d E).getD 1 []):=by
 have h:=QKV (JT d E) [] (by decide)
 rw[List.nil_append]at h;have e:onZ d E d.ps.n [] (0,[],[])=Qw (λs l=>Y3 l s) (JT d E) (XY []):=QKY d E Y3 (0,[],[]);rw[e];rcases h with ⟨h1,h2⟩|⟨h1,h2⟩
 .rw[h1];simp only[XY];rw[Nat.min_eq_left (by omega)]
 .rw[h1];simp only[XY];rw[QJK _ _ _ _ (by decide),QJK _ _ _ _ (by decide),List.length_take,Nat.min_comm]
theorem Zg:(QX d p:Int)=tnV d p/\QX d p<=4:=by
 unfold QX;rcases QNF d p with h|h<;>rw[h]<;>decide
set_option maxHeartbeats 1000000 in
theorem QVX(rec:List Lay->SoS->QZ SoS)(l:List Lay)(p:Nat)(hp:p<d.ps.n)(hn:d.ps.n<=1000)(hl:l.length<=1000)(hu:KI l p=false):Jf (λk:Nat×SoS=>zZ d E ac body (QD l) l k.2.1 k.2.2.1 k.2.2.2 p (tnV d p) k.1) (λk=>k.1<=QX d p) (λk=>QX d p-k.1) (ZB d E ac body rec l p) 464 QGv ZY (jQ prog d E ac body rec l p) (λk=>hnd (jQ prog d E ac body rec l p k) 0) (QY (QH f103 0)):=by
 refine⟨λk g0 hk=>?_⟩;obtain⟨t,many,f,g⟩:=k;have hk:t<=QX d p:=hk;obtain⟨ht1,ht4⟩:=Zg d p;have hlen:(l++[(⟨p,t⟩:Lay)]).length=l.length+1:=by rw[List.length_append,List.length_singleton]
 have hw1:i64.wrap (((l++[(⟨p,t⟩:Lay)]).length:Int)-1)=l.length:=(w64 (by omega) (by omega)).trans (by omega)
 have hpop:(i64.wrap (((l++[(⟨p,t⟩:Lay)]).length:Int)-1)).toNat=l.length:=by rw[hw1];exact Int.toNat_natCast _
 have hle:l.length<=(l++[(⟨p,t⟩:Lay)]).length:=by omega
 have hpb:t<QX d p->ZV d p t=QP:=λh=>by unfold ZV;rw[if_pos h]
 have wt:t<QX d p->i64.wrap ((t:Int)+1)=((t+1:Nat):Int):=λh=>(w64 (by omega) (by omega)).trans (by omega)
 have step:=λh:t<QX d p=>Wc (f:=KB d E rec l p) h (many,f,g);unfold jQ;simp only
 have next:t<QX d p->∀{s2:SoS},KB d E rec l p (many,f,g) t = .go s2->∀ e J,ZB d E ac body rec l p (t+1,s2) e J->ZB d E ac body rec l p (t,many,f,g) e J:=by
  intro h s2 he e J hr;unfold ZB at hr ⊢;simp only at hr ⊢;rw[step h,he];exact hr
 have last:QX d p<=t->ZB d E ac body rec l p (t,many,f,g) (.exit 2) (QBJ d E ac body (QD l) l many f g p):=by
  intro h;unfold ZB;simp only[WH h,and_self]
 cases hr:rec (l++[⟨p,t⟩]) (many,f,g)with
 | go s'=>
  obtain⟨many',f',g'⟩:=s';simp only[YJ];have et:=QYU (ZV d p t) (ZV d p t) d E ac body (QD l) (QD (l++[⟨p,t⟩])) l (l++[⟨p,t⟩]) (Q0 d E l ⟨p,t⟩) many f g p (tnV d p) t many' f' g' g0;refine Qe et ?_;clear et;refine QF (λb0=>?_) (λb0=>?_);have h:t<QX d p:=by have:=qdt b0;omega
  rw[hpb h];have hw:=wt h;refine QG ?_ ?_;rotate_left;refine QF ?_ ?_<;>intro b1
  .exact Bool.noConfusion (show false=true from b1)
  refine QG ?_ ?_;rotate_left;refine QF (λb2=>?_) (λb2=>?_);have hv:Q0 d E l ⟨p,t⟩=false:=by simpa using b2
  have ho:KB d E rec l p (many,f,g) t = .go (many,f,g):=by unfold KB;rw[hv];rfl
  refine⟨(t+1,many,f,g),h,by show QX d p-(t+1)<QX d p-t;omega,next h ho,rfl,rfl,_,QPE d E ac body (QD l) l many f g p (tnV d p) t (t+1),?_⟩
  rotate_left
  iterate 7 (refine QG ?_ ?_;rotate_left)
  refine QF ?_ ?_<;>intro b3
  .cases b3
  have hv:Q0 d E l ⟨p,t⟩=true:=by simpa using b2
  have ho:KB d E rec l p (many,f,g) t = .go (many',f',g'):=by unfold KB;rw[hv];exact hr
  have hb:=qE l d.ps.n p t hu;have hq:=qN l ⟨p,t⟩;have hnx:=next h ho
  clear next last step hr ho
  generalize QD (l++[⟨p,t⟩])=u2 at hb ⊢;generalize l++[⟨p,t⟩]=l2 at hpop hle hq ⊢;generalize hu1:QD l=u1 at hb ⊢;refine⟨(t+1,many',f',g'),h,by show QX d p-(t+1)<QX d p-t;omega,hnx,rfl,rfl,_,QXO d E ac body u1 u2 u1 l l2 p (tnV d p) t (t+1) many' f' g',?_⟩
  rotate_left
  have h:QX d p<=t:=by have:=qdf b0;omega
  refine⟨_,last h,rfl,rfl,_,QMV d E ac body (QD l) l many f g p,?_⟩
  rotate_left
  all_goals first|((with_reducible show _=true);(first|rfl|(refine Q7.2 ?_;repeat' first|with_reducible refine QO ?_ ?_|exact tv|with_reducible exact qRr|with_reducible exact hlen|with_reducible exact hlen.symm|with_reducible exact Nat.le_of_eq hlen|with_reducible exact qO l ⟨p,t⟩|with_reducible exact Wa l _ p t|exact rfl|refine aI ?_ ?_)|(rw[hw1];simp)|(simp;omega)))|(repeat' first|with_reducible refine QO ?_ ?_|exact tv|with_reducible exact qRr|with_reducible exact hw|with_reducible exact hpop|with_reducible exact hle|with_reducible exact hq|with_reducible exact hb|exact rfl|refine aI ?_ ?_)
 | stop s'=>
  obtain⟨many',f',g'⟩:=s';simp only[YJ];have et:=QZq (ZV d p t) (ZV d p t) d E ac body (QD l) (QD (l++[⟨p,t⟩])) l (l++[⟨p,t⟩]) (Q0 d E l ⟨p,t⟩) many f g p (tnV d p) t many' f' g' g0;refine Qe et ?_;clear et;refine QF (λb0=>?_) (λb0=>?_);have h:t<QX d p:=by have:=qdt b0;omega
  rw[hpb h];have hw:=wt h;refine QG ?_ ?_;rotate_left;refine QF ?_ ?_<;>intro b1
  .exact Bool.noConfusion (show false=true from b1)
  refine QG ?_ ?_;rotate_left;refine QF (λb2=>?_) (λb2=>?_);have hv:Q0 d E l ⟨p,t⟩=false:=by simpa using b2
  have ho:KB d E rec l p (many,f,g) t = .go (many,f,g):=by unfold KB;rw[hv];rfl
  refine⟨(t+1,many,f,g),h,by show QX d p-(t+1)<QX d p-t;omega,next h ho,rfl,rfl,_,QPE d E ac body (QD l) l many f g p (tnV d p) t (t+1),?_⟩
  rotate_left
  iterate 7 (refine QG ?_ ?_;rotate_left)
  refine QF (λb3=>?_) (λb3=>?_);have hv:Q0 d E l ⟨p,t⟩=true:=by simpa using b2
  have ho:KB d E rec l p (many,f,g) t = .stop (many',f',g'):=by unfold KB;rw[hv];exact hr
  have hrel:ZB d E ac body rec l p (t,many,f,g) .ret (soF d E ac body (QD l) l many' f' g'):=by
   unfold ZB;simp only[step h,ho,and_self]
  have hb:=qE l d.ps.n p t hu;have hq:=qN l ⟨p,t⟩;clear next last step hr ho
  generalize QD (l++[⟨p,t⟩])=u2 at hb ⊢;generalize l++[⟨p,t⟩]=l2 at hpop hle hq ⊢;generalize hu1:QD l=u1 at hb hrel ⊢;refine⟨_,hrel,rfl,rfl,_,QbS d E ac body u2 u1 l l2 p many' f' g',?_⟩
  rotate_left
  .cases b3
  have h:QX d p<=t:=by have:=qdf b0;omega
  refine⟨_,last h,rfl,rfl,_,QMV d E ac body (QD l) l many f g p,?_⟩
  rotate_left
  all_goals first|((with_reducible show _=true);(first|rfl|(refine Q7.2 ?_;repeat' first|with_reducible refine QO ?_ ?_|exact tv|with_reducible exact qRr|with_reducible exact hlen|with_reducible exact hlen.symm|with_reducible exact Nat.le_of_eq hlen|with_reducible exact qO l ⟨p,t⟩|with_reducible exact Wa l _ p t|exact rfl|refine aI ?_ ?_)|(rw[hw1];simp)|(simp;omega)))|(repeat' first|with_reducible refine QO ?_ ?_|exact tv|with_reducible exact qRr|with_reducible exact hw|with_reducible exact hpop|with_reducible exact hle|with_reducible exact hq|with_reducible exact hb|exact rfl|refine aI ?_ ?_)
def QZ.s{σ:Type}:QZ σ->σ
 | .go s=>s
 | .stop s=>s
def QZ.isGo:QZ σ->Bool
 | .go _=>true
 | .stop _=>false
def QBf(rec:List Lay->SoS->QZ SoS)(l:List Lay)(p:Nat):Prop:=∀ t,t<QX d p->∀ s,QR prog 103 (uFC (YJ d E ac body (l++[⟨p,t⟩]) s (rec (l++[⟨p,t⟩]) s)))
theorem QVF{d:Puz}{E:ECt}{ac body:Code}{rec:List Lay->SoS->QZ SoS}{l:List Lay}{p:Nat}(hd:KK d)(hE:WfE E)(hl:l.length<=1000)(hL:∀ y∈l,Q9 d y)(hp:p<d.ps.n)(IH:QBf d E ac body rec l p)(k:Nat×SoS):(jQ prog d E ac body rec l p k).Sound:=by
 unfold jQ ZV
 by_cases h:k.1<QX d p
 .rw[if_pos h];have h4:=(Zg d p).2;exact QN ((Qb.add (QBd d E l ⟨p,k.1⟩ hd hE hl hL ⟨⟨by show(0:Int)<=p;omega,by show(p:Int)<_;omega⟩,by show(0:Int)<=k.1;omega,by show(k.1:Int)<=3;omega⟩)).add (IH k.1 h k.2))
 .rw[if_neg h];exact QN ((Qb.add (Ja (by kernel_rfl) _)).add (Ja (by kernel_rfl) _))
def QAJ(rec:List Lay->SoS->QZ SoS)(l:List Lay)(p:Nat)(s:SoS):List (Prop×Ex×JSt):=
 [((inZ d E rec l p s).isGo=true,.exit 2,QBJ d E ac body (QD l) l (inZ d E rec l p s).s.1 (inZ d E rec l p s).s.2.1 (inZ d E rec l p s).s.2.2 p),((inZ d E rec l p s).isGo=false,.ret,soF d E ac body (QD l) l (inZ d E rec l p s).s.1 (inZ d E rec l p s).s.2.1 (inZ d E rec l p s).s.2.2)]
theorem QD7{l:List Lay}{p:Nat}(h:QD l p 0=0):KI l p=false:=by
 unfold QD at h;cases hb:KI l p with
 | false=>rfl
 | true=>rw[hb]at h;cases h
theorem QUg{d:Puz}{E:ECt}{ac body:Code}{rec:List Lay->SoS->QZ SoS}{l:List Lay}(hd:KK d)(hE:WfE E)(hl:l.length<=1000)(hL:∀ y∈l,Q9 d y)(p:Nat)(s:SoS)(IH:p<d.ps.n->QBf d E ac body rec l p)(G:Ctx)(hrd:G.rd=none)(hG:G.n<=464):
  Qx (mkE prog (W9 QP d l.length p)) G (QDs prog QP d E ac body (QD l) l s.1 s.2.1 s.2.2 p (QAJ d E ac body rec l p s)) (QH f103 0):=by
 have hT:Qc (W9 QP d l.length p):=Qb.add (YP d l.length p);refine KR (body:=QY (QH f103 0)) (QN hT) hrd (by kernel_rfl) ?_
 refine JK λhp=>?_;have hu:=QD7 hp.2;have hEnv:=QVF (ac:=ac) (body:=body) hd hE hl hL hp.1 (IH hp.1);refine Jp (E0:=mkE prog (W9 QP d l.length p)) (E:=jQ prog d E ac body rec l p) (H:=λk=>hnd (jQ prog d E ac body rec l p k) 0) (n0:=464) (s0:=(0,s)) (λ_=>rfl) hEnv hG (λk _=>Qu (hEnv k) 0 G _ hrd) (λk _=>(by decide:464<=504)) ?_ (QVX d E ac body rec l p hp.1 hd.n hl hu) (Nat.zero_le _) ?_
 .intro k e J hr;unfold ZB at hr;split at hr<;>(rw[hr.2];exact(by decide:464<=504))
 .intro e J hr;unfold ZB at hr;simp only[List.drop_zero]at hr;have hi:inZ d E rec l p s=Qw (KB d E rec l p) (List.range (QX d p)) s:=rfl;unfold QAJ;rw[hi];cases hc:Qw (KB d E rec l p) (List.range (QX d p)) s with
  | go s'=>
   rw[hc]at hr;exact⟨_,qmc,rfl,hr.1.symm,hr.2.symm⟩
  | stop s'=>
   rw[hc]at hr;exact⟨_,List.mem_cons_of_mem _ qmc,rfl,hr.1.symm,hr.2.symm⟩
def X0(rec:List Lay->SoS->QZ SoS)(l:List Lay)(k:Nat×SoS)(e:Ex)(J:JSt):Prop:=match Qw (Km d E rec l) ((List.range d.ps.n).drop k.1) k.2 with
 | .go s'=>e = .exit 0/\J=zH d E ac body (QD l) l s'.1 s'.2.1 s'.2.2
 | .stop s'=>e = .ret/\J=soF d E ac body (QD l) l s'.1 s'.2.1 s'.2.2
theorem VR{l:List Lay}{p:Nat}:decide (QD l ((p:Int).toNat+0) 0=1)=KI l p:=by
 show decide (cond (KI l p) (1:Int) 0=1)=KI l p;cases KI l p<;>rfl
set_option maxHeartbeats 1000000 in
theorem QWp(rec:List Lay->SoS->QZ SoS)(l:List Lay)(hn:d.ps.n<=1000):Jf (λk:Nat×SoS=>Gb d E ac body (QD l) l k.2.1 k.2.2.1 k.2.2.2 k.1) (λk=>k.1<=d.ps.n) (λk=>d.ps.n-k.1) (X0 d E ac body rec l) 464 QSK ZY (λk=>mkE prog (W9 QP d l.length k.1)) (λk=>QDs prog QP d E ac body (QD l) l k.2.1 k.2.2.1 k.2.2.2 k.1 (QAJ d E ac body rec l k.1 k.2)) (QH f103 0):=by
 refine⟨λk g0 hk=>?_⟩;obtain⟨p,many,f,g⟩:=k;have hk:p<=d.ps.n:=hk;have wp:p<d.ps.n->i64.wrap ((p:Int)+1)=((p+1:Nat):Int):=λh=>Vj h hn;have step:=λh:p<d.ps.n=>Wc (f:=Km d E rec l) h (many,f,g)
 have next:p<d.ps.n->∀{s2:SoS},Km d E rec l (many,f,g) p = .go s2->∀ e J,X0 d E ac body rec l (p+1,s2) e J->X0 d E ac body rec l (p,many,f,g) e J:=by
  intro h s2 he e J hr;unfold X0 at hr ⊢;simp only at hr ⊢;rw[step h,he];exact hr
 have stop:p<d.ps.n->∀{s2:SoS},Km d E rec l (many,f,g) p = .stop s2->X0 d E ac body rec l (p,many,f,g) .ret (soF d E ac body (QD l) l s2.1 s2.2.1 s2.2.2):=by
  intro h s2 he;unfold X0;simp only[step h,he,and_self]
 have last:d.ps.n<=p->X0 d E ac body rec l (p,many,f,g) (.exit 0) (zH d E ac body (QD l) l many f g):=by
  intro h;unfold X0;simp only[WH h,and_self]
 have hpz:KI l p=false->Km d E rec l (many,f,g) p=inZ d E rec l p (many,f,g):=λh=>by unfold Km;rw[h];rfl
 have hpu:KI l p=true->Km d E rec l (many,f,g) p = .go (many,f,g):=λh=>by unfold Km;rw[h];rfl
 unfold QAJ;simp only;cases hr:inZ d E rec l p (many,f,g)with
 | go s'=>
  obtain⟨many',f',g'⟩:=s';simp only[QZ.isGo,QZ.s,Bool.true_eq_false,Bool.false_eq_true];have et:=QNA QP d E ac body (QD l) (QD l) l many f g p True False many' f' g' g0;refine Qe et ?_;clear et;refine QF (λb0=>?_) (λb0=>?_);have h:p<d.ps.n:=by have:=qdt b0;omega
  have hw:=wp h
  iterate 2 (refine QG ?_ ?_;rotate_left)
  refine QF (λb1=>?_) (λb1=>?_);have hub:KI l p=true:=VR.symm.trans b1;refine⟨(p+1,many,f,g),h,by show d.ps.n-(p+1)<d.ps.n-p;omega,next h (hpu hub),rfl,rfl,_,QMw d E ac body (QD l) l many f g p (p+1),?_⟩
  rotate_left
  have hub:KI l p=false:=VR.symm.trans b1;have hu0:QD l p 0=0:=by unfold QD;rw[hub];rfl
  refine QG ?_ ?_;rotate_left
  iterate 132 refine Qp (by first|exact tv|exact⟨h,hu0⟩|with_reducible exact qRr|exact rfl) ?_
  refine Kb ?_ ?_;refine Qf λa0=>?_;refine Qh λg0=>?_;refine⟨(p+1,many',f',g'),h,by show d.ps.n-(p+1)<d.ps.n-p;omega,next h ((hpz hub).trans hr),rfl,rfl,_,QTZ d E ac body (QD l) l p (p+1) many' f' g',?_⟩
  rotate_left
  refine Qf λa1=>?_;refine Qh λg1=>?_
  .exact a1.elim
  have h:d.ps.n<=p:=by have:=qdf b0;omega
  refine⟨_,last h,rfl,rfl,_,QRg d E ac body (QD l) l many f g,?_⟩
  rotate_left
  all_goals first|((with_reducible show _=true);(first|(refine Q7.2 ?_;repeat' first|exact tv|with_reducible exact qRr|exact rfl|refine aI ?_ ?_)|(simp;omega)))|(repeat' first|with_reducible refine QO ?_ ?_|exact tv|with_reducible exact qRr|with_reducible exact hw|exact rfl|refine aI ?_ ?_)
 | stop s'=>
  obtain⟨many',f',g'⟩:=s';simp only[QZ.isGo,QZ.s,Bool.true_eq_false,Bool.false_eq_true];have et:=QNA QP d E ac body (QD l) (QD l) l many f g p False True many' f' g' g0;refine Qe et ?_;clear et;refine QF (λb0=>?_) (λb0=>?_);have h:p<d.ps.n:=by have:=qdt b0;omega
  have hw:=wp h
  iterate 2 (refine QG ?_ ?_;rotate_left)
  refine QF (λb1=>?_) (λb1=>?_);have hub:KI l p=true:=VR.symm.trans b1;refine⟨(p+1,many,f,g),h,by show d.ps.n-(p+1)<d.ps.n-p;omega,next h (hpu hub),rfl,rfl,_,QMw d E ac body (QD l) l many f g p (p+1),?_⟩
  rotate_left
  have hub:KI l p=false:=VR.symm.trans b1;have hu0:QD l p 0=0:=by unfold QD;rw[hub];rfl
  refine QG ?_ ?_;rotate_left
  iterate 132 refine Qp (by first|exact tv|exact⟨h,hu0⟩|with_reducible exact qRr|exact rfl) ?_
  refine Kb ?_ ?_;refine Qf λa0=>?_;refine Qh λg0=>?_
  .exact a0.elim
  refine Qf λa1=>?_;refine Qh λg1=>?_;refine⟨_,stop h ((hpz hub).trans hr),rfl,rfl,_,QX6 d E ac body (QD l) l many' f' g',?_⟩
  rotate_left
  have h:d.ps.n<=p:=by have:=qdf b0;omega
  refine⟨_,last h,rfl,rfl,_,QRg d E ac body (QD l) l many f g,?_⟩
  rotate_left
  all_goals first|((with_reducible show _=true);(first|(refine Q7.2 ?_;repeat' first|exact tv|with_reducible exact qRr|exact rfl|refine aI ?_ ?_)|(simp;omega)))|(repeat' first|with_reducible refine QO ?_ ?_|exact tv|with_reducible exact qRr|with_reducible exact hw|exact rfl|refine aI ?_ ?_)
abbrev J1:Code:=(QL f24 0).1
abbrev J2:Code:=(QL f24 0).2
theorem QRM(l:List Lay)(many:Int)(f g:List Lay)(many':Int)(f' g':List Lay):(J5 d E ac body u l many f g many' f' g').Ok:=by
 refine⟨(by decide:424<=464),rfl,rfl,?_,rfl,λ_ _=>rfl,λnid h=>?_⟩
 .intro q hq;simp only[UC.po,J5,YG,rwY,rwU,List.mem_cons,List.not_mem_nil,or_false]at hq;rcases hq with rfl|rfl|rfl|rfl|rfl|rfl|rfl|rfl|rfl|rfl|rfl<;>refine⟨rfl,rfl,rfl,?_⟩<;>first|exact λ_=>rfl|exact λh=>absurd (show 464<424 from h) (by decide)|exact λh=>absurd (show 465<424 from h) (by decide)|exact λh=>absurd (show 466<424 from h) (by decide)|exact λh=>absurd (show 467<424 from h) (by decide)
 .have e0:=KW 424 464 0 nid (by decide)
  have e1:=KW 424 464 1 nid (by decide)
  have e2:=KW 424 464 2 nid (by decide)
  have e3:=KW 424 464 3 nid (by decide)
  simp only[UC.po,J5,YG,rwY,rwU,Gv,YD,KT,Qi.val,List.cons_append,List.nil_append,List.map_cons,List.map_nil,Blk.mapId,AV.mapId,AV.mapIdL,Nat.add_zero]at e0 e1 e2 e3 ⊢;rw[e0,e1,e2,e3];rfl
theorem QMj(l:List Lay)(many:Int)(f g:List Lay)(many':Int)(f' g':List Lay):(XH d E ac body u l many f g many' f' g').Ok:=by
 refine⟨(by decide:424<=464),rfl,rfl,?_,rfl,λ_ _=>rfl,λnid h=>?_⟩
 .intro q hq;simp only[UC.po,XH,YG,rwY,rwU,List.mem_cons,List.not_mem_nil,or_false]at hq;rcases hq with rfl|rfl|rfl|rfl|rfl|rfl|rfl|rfl|rfl|rfl|rfl<;>refine⟨rfl,rfl,rfl,?_⟩<;>first|exact λ_=>rfl|exact λh=>absurd (show 464<424 from h) (by decide)|exact λh=>absurd (show 465<424 from h) (by decide)|exact λh=>absurd (show 466<424 from h) (by decide)|exact λh=>absurd (show 467<424 from h) (by decide)
 .have e0:=KW 424 464 0 nid (by decide)
  have e1:=KW 424 464 1 nid (by decide)
  have e2:=KW 424 464 2 nid (by decide)
  have e3:=KW 424 464 3 nid (by decide)
  simp only[UC.po,XH,YG,rwY,rwU,Gv,YD,KT,Qi.val,List.cons_append,List.nil_append,List.map_cons,List.map_nil,Blk.mapId,AV.mapId,AV.mapIdL,Nat.add_zero]at e0 e1 e2 e3 ⊢;rw[e0,e1,e2,e3];rfl
theorem QJ9(T:Tab)(hT:Qc T)(G:Ctx)(hrd:G.rd=none):Qx (mkE prog T) G (soN prog T) (Qk f103):=
 KR (body:=QH f103 0) (QN hT) hrd (by kernel_rfl) (λ_ _ _ _ _ _ _ h _ _=>h.elim)
set_option maxHeartbeats 1000000 in
theorem Qbi(s:SoS)(hn:l.length=d.ps.n)(hpos:0<l.length)(hl:l.length<=1000):QR prog 103 (uFC (YJ d E J1 J2 l s (Y3 l s))):=by
 obtain⟨many,f,g⟩:=s;have hT:Qc (QAN QP l):=Qb.add (QRT l hpos hl);have et:=Qco QP d E (QD l) l many f g;have hlen:((l.length:Int)==(d.ps.n:Int))=true:=by rw[hn];simp
 unfold Y3;simp only;cases h100:i64.wrap (many+1)==100 with
 | true=>
  have h1:(i64.wrap (many+1)==1)=false:=by rw[beq_iff_eq.1 h100];rfl
  have h2:(i64.wrap (many+1)==2)=false:=by rw[beq_iff_eq.1 h100];rfl
  rw[h1,h2];simp only[cond_true,cond_false,YJ];refine Kw (E:=mkE prog (QAN QP l)) (QN hT) func103 (by kernel_rfl) (by kernel_rfl) (QMj ..) (λG hG _=>QJ9 _ hT G hG) ⟨?_⟩
  refine Qe et ?_;clear et;refine QF (λb0=>?_) (λb0=>?_);refine QF ?_ ?_<;>intro b1
  .exact Bool.noConfusion (h1.symm.trans b1)
  refine QF ?_ ?_<;>intro b3
  .exact Bool.noConfusion (h2.symm.trans b3)
  refine QF (λb5=>?_) (λb5=>?_);refine⟨rfl,rfl,_,Qb9 d E (QD l) l many f g _ f g,?_⟩
  rotate_left
  .exact Bool.noConfusion (h100.symm.trans b5)
  .exact Bool.noConfusion (hlen.symm.trans b0)
  all_goals (repeat' first|with_reducible refine QO ?_ ?_|exact tv|with_reducible exact qRr|exact rfl|refine aI ?_ ?_)
 | false=>
  simp only[cond_false,YJ];refine Kw (E:=mkE prog (QAN QP l)) (QN hT) func103 (by kernel_rfl) (by kernel_rfl) (QRM ..) (λG hG _=>QJ9 _ hT G hG) ⟨?_⟩
  refine Qe et ?_;clear et;refine QF (λb0=>?_) (λb0=>?_);refine QF (λb1=>?_) (λb1=>?_);refine QG ?_ ?_;rotate_left;refine QF ?_ ?_<;>intro b2
  .exact Bool.noConfusion (h100.symm.trans b2)
  rw[b1];simp only[cond_true];refine⟨rfl,rfl,_,Qcc d E (QD l) l many f g _ l g,?_⟩
  rotate_left
  refine QF (λb3=>?_) (λb3=>?_);refine QG ?_ ?_;rotate_left;refine QF ?_ ?_<;>intro b4
  .exact Bool.noConfusion (h100.symm.trans b4)
  rw[b1,b3];simp only[cond_true,cond_false];refine⟨rfl,rfl,_,Qaz d E (QD l) l many f g _ f l,?_⟩
  rotate_left
  refine QF ?_ ?_<;>intro b5
  .exact Bool.noConfusion (h100.symm.trans b5)
  rw[b1,b3];simp only[cond_false];refine⟨rfl,rfl,_,Qa2 d E (QD l) l many f g _ f g,?_⟩
  rotate_left
  .exact Bool.noConfusion (hlen.symm.trans b0)
  all_goals first|((with_reducible show _=true);((refine Q7.2 ?_;repeat' first|exact tv|with_reducible exact qRr|exact rfl|refine aI ?_ ?_)))|(repeat' first|with_reducible refine QO ?_ ?_|exact tv|with_reducible exact qRr|exact rfl|refine aI ?_ ?_)
theorem QOR{d:Puz}{E:ECt}{ac body:Code}{rec:List Lay->SoS->QZ SoS}{l:List Lay}(hd:KK d)(hE:WfE E)(hl:l.length<=1000)(hL:∀ y∈l,Q9 d y)(s:SoS)(IH:∀ p,p<d.ps.n->QBf d E ac body rec l p){X:List (Prop×Ex×JSt)}(hX:∀ e J,X0 d E ac body rec l (0,s) e J->∃ y∈X,y.1/\y.2.1=e/\y.2.2=J)(G:Ctx)(hrd:G.rd=none)(hG:G.n=464):
  Qx (mkE prog QS) G (soX prog (Gb d E ac body (QD l) l s.1 s.2.1 s.2.2 0) X) (Qk f103):=by
 refine KR (body:=QH f103 0) (QN Qb) hrd (by kernel_rfl) ?_
 have hEnv:∀ k:Nat×SoS,(mkE prog (W9 QP d l.length k.1)).Sound:=λk=>QN (Qb.add (YP d l.length k.1));refine Jp (E0:=mkE prog QS) (E:=λk:Nat×SoS=>mkE prog (W9 QP d l.length k.1)) (H:=λk=>QDs prog QP d E ac body (QD l) l k.2.1 k.2.2.1 k.2.2.2 k.1 (QAJ d E ac body rec l k.1 k.2)) (n0:=464) (s0:=(0,s)) (λ_=>rfl) hEnv (by omega) (λk _=>QUg hd hE hl hL k.1 k.2 (IH k.1) G hrd (by omega)) (λk _=>(by decide:464<=504)) ?_ (QWp d E ac body rec l hd.n) (Nat.zero_le _) hX
 intro k e J hr;unfold X0 at hr;split at hr<;>(rw[hr.2];exact(by decide:464<=504))
set_option maxHeartbeats 1000000 in
theorem QSm{d:Puz}{E:ECt}(hd:KK d)(hE:WfE E){k:Nat}{l:List Lay}(hk:l.length+(k+1)=d.ps.n)(hL:∀ y∈l,Q9 d y)(IH:∀ p,p<d.ps.n->QBf d E J1 J2 (onZ d E k) l p)(s:SoS):QR prog 103 (uFC (YJ d E J1 J2 l s (onZ d E (k+1) l s))):=by
 have hdn:=hd.n;have hr0:onZ d E (k+1) l s=Qw (Km d E (onZ d E k) l) (List.range d.ps.n) s:=rfl;rw[hr0];have hne:((l.length:Int)==(d.ps.n:Int))=false:=by rw[beq_eq_false_iff_ne];omega
 obtain⟨many,f,g⟩:=s;cases hc:Qw (Km d E (onZ d E k) l) (List.range d.ps.n) (many,f,g)with
 | go s'=>
  obtain⟨many',f',g'⟩:=s';simp only[YJ];have et:=QMe d E (QD l) (QD l) l many f g True False many' f' g';refine Kw (E:=mkE prog QS) (QN Qb) func103 (by kernel_rfl) (by kernel_rfl) (QRM ..) (QOR hd hE (by omega) hL (many,f,g) IH (X:=[(True,.exit 0,zH d E J1 J2 (QD l) l many' f' g'),(False,.ret,soF d E J1 J2 (QD l) l many' f' g')]) ?_) ⟨?_⟩
  .intro e J hr;unfold X0 at hr;simp only[List.drop_zero,hc]at hr;exact⟨_,qmc,trivial,hr.1.symm,hr.2.symm⟩
  refine Qe et ?_;clear et;refine QF ?_ ?_<;>intro b0
  .exact Bool.noConfusion (hne.symm.trans b0)
  iterate 128 refine Qp (by first|exact tv|with_reducible exact qRr|exact rfl) ?_
  refine Kb ?_ ?_;refine Qf λa0=>?_;refine Qh λg0=>?_;refine⟨rfl,rfl,_,Qe9 d E (QD l) (QD l) l many f g many' f' g',?_⟩
  rotate_left
  refine Qf λa1=>?_;refine Qh λg1=>?_
  .exact a1.elim
  all_goals (repeat' first|with_reducible refine QO ?_ ?_|exact tv|with_reducible exact qRr|exact rfl|refine aI ?_ ?_)
 | stop s'=>
  obtain⟨many',f',g'⟩:=s';simp only[YJ];have et:=QMe d E (QD l) (QD l) l many f g False True many' f' g';refine Kw (E:=mkE prog QS) (QN Qb) func103 (by kernel_rfl) (by kernel_rfl) (QMj ..) (QOR hd hE (by omega) hL (many,f,g) IH (X:=[(False,.exit 0,zH d E J1 J2 (QD l) l many' f' g'),(True,.ret,soF d E J1 J2 (QD l) l many' f' g')]) ?_) ⟨?_⟩
  .intro e J hr;unfold X0 at hr;simp only[List.drop_zero,hc]at hr;exact⟨_,List.mem_cons_of_mem _ qmc,trivial,hr.1.symm,hr.2.symm⟩
  refine Qe et ?_;clear et;refine QF ?_ ?_<;>intro b0
  .exact Bool.noConfusion (hne.symm.trans b0)
  iterate 128 refine Qp (by first|exact tv|with_reducible exact qRr|exact rfl) ?_
  refine Kb ?_ ?_;refine Qf λa0=>?_;refine Qh λg0=>?_
  .exact a0.elim
  refine Qf λa1=>?_;refine Qh λg1=>?_;refine⟨rfl,rfl,_,QUo d E (QD l) (QD l) l many f g many' f' g',?_⟩
  rotate_left
  all_goals (repeat' first|with_reducible refine QO ?_ ?_|exact tv|with_reducible exact qRr|exact rfl|refine aI ?_ ?_)
theorem QDq{d:Puz}{l:List Lay}{p t:Nat}(hp:p<d.ps.n)(ht:t<QX d p)(hL:∀ y∈l,Q9 d y):∀ y∈l++[(⟨p,t⟩:Lay)],Q9 d y:=by
 intro y hy;rcases List.mem_append.1 hy with q|q
 .exact hL y q
 .have h4:=(Zg d p).2;rw[List.mem_singleton.1 q];exact⟨⟨by show(0:Int)<=p;omega,by show(p:Int)<_;omega⟩,by show(0:Int)<=t;omega,by show(t:Int)<=3;omega⟩
theorem QaY{d:Puz}{E:ECt}(hn:d.ps.n<=1000)(hpos:0<d.ps.n)(l:List Lay)(s:SoS)(hk:l.length=d.ps.n):QR prog 103 (uFC (YJ d E J1 J2 l s (onZ d E 0 l s))):=by
 have h0:onZ d E 0 l s=Y3 l s:=rfl;have h1:0<l.length:=by rw[hk];exact hpos
 have h2:l.length<=1000:=by rw[hk];exact hn
 rw[h0];exact Qbi d E l s hk h1 h2
theorem QBt(x:Lay){k n:Nat}(h:l.length+(k+1)=n):(l++[x]).length+k=n:=by
 rw[List.length_append,List.length_singleton];omega
theorem QWc{d:Puz}{E:ECt}(hd:KK d)(hE:WfE E)(hpos:0<d.ps.n)(k:Nat):∀(l:List Lay) (s:SoS),l.length+k=d.ps.n->(∀ y∈l,Q9 d y)->QR prog 103 (uFC (YJ d E J1 J2 l s (onZ d E k l s))):=by
 induction k with
 | zero=>exact λl s hk _=>QaY hd.n hpos l s hk
 | succ k ih=>
  intro l s hk hL;refine QSm hd hE hk hL ?_ s;intro p hp t ht s;exact ih _ s (QBt l _ hk) (QDq hp ht hL)
def XW(pb:List Prop->Bool)(d:Puz)(E:ECt)(U:UC):Tab:=Qa (Qa QS 60 (KE pb (nbU d E))) 103 (KE pb U)
def GH(m e:Int):AV := .tup [.slz 0 0 f.length (.of 0),.slz 1 0 g.length (.of 0),.int false .i64 m,.int false .i64 e]
def jM:List (Nat×Blk):=[rwY 0 f,rwY 1 g]
abbrev QRr:List Prop:=
  (waa d++([cO=cO]++wad d))
abbrev QQO(d:Puz)(u:Nat->Nat->Int):List Prop:=
  ((wb1)++waa d++(([cO=cO,0=0,E.1=E.1,E.2=E.2,0=0]++wbO d++[QB 1 d.ps.n (λx x_1=>(0:Int)) u])++wak++([Array.mk
  [18]=Array.mk [18]]++wbD))++waa d++([cO =
  cO]++wcf)++waa d++((wcc)++wa7++(([0=0,0=0]++wcd++[(0:Int)=0,0=0,0=0,0=0,0=0,Fn.func 103=Fn.func 103])++wb1++[0=0,0=0]))++waa d++([cO=cO]++wad d))
abbrev QSQ:List (Nat×Blk):=
  [(449,.rowz true 49 kB f'.length λi=>QA.enc (f'.getD i (Lay.mk (0:Int) (0:Int)))),(450,.rowz true 49 kB g'.length λi=>
  QA.enc (g'.getD i (Lay.mk (0:Int) (0:Int))))]
theorem QNY(pb:List Prop->Bool)(d:Puz)(E:ECt)(u:Nat->Nat->Int)(many':Int)(f' g':List Lay):Kl (mkE prog (XW pb d E (J5 d E (QL f24 0).1 (QL f24 0).2 u [] 0 [] [] many' f' g'))) (hnd (mkE prog (XW pb d E (J5 d E (QL f24 0).1 (QL f24 0).2 u [] 0 [] [] many' f' g'))) 8) f24 (Qd.vals 0 ((d,()):Puz×Unit)) (Qd.blks 0 ((d,()):Puz×Unit)) 96 = .need (decide (d.ps.n<=d.ps.n)&&true&&decide (d.ps.n<=1000)) (.br (!d.ok) (.leaf (.tup [.nils,.nils,vj 0,vj 1]) ([])) (.need (pb ((QRr d))) (.need (decide ((d.ps.n:Int)=(d.ps.n:Int))&&decide ((0:Int)<=(d.ps.n:Int)/\(d.ps.n:Int)<=17179869184)) (.need (pb ((QQO E d u))) (.br (many'==0) (.leaf (.tup [.nils,.nils,vj 0, vj 4]) ([])) (.leaf (.tup [.slz 449 0 f'.length cO,.slz 450 0 g'.length cO,vi many',vj 0]) ((QSQ f' g')))))))):=by kernel_rfl
theorem Qcy(pb:List Prop->Bool)(d:Puz)(E:ECt)(u:Nat->Nat->Int)(many':Int)(f' g':List Lay):Kl (mkE prog (XW pb d E (XH d E (QL f24 0).1 (QL f24 0).2 u [] 0 [] [] many' f' g'))) (hnd (mkE prog (XW pb d E (XH d E (QL f24 0).1 (QL f24 0).2 u [] 0 [] [] many' f' g'))) 8) f24 (Qd.vals 0 ((d,()):Puz×Unit)) (Qd.blks 0 ((d,()):Puz×Unit)) 96 = .need (decide (d.ps.n<=d.ps.n)&&true&&decide (d.ps.n<=1000)) (.br (!d.ok) (.leaf (.tup [.nils,.nils,vj 0,vj 1]) ([])) (.need (pb ((QRr d))) (.need (decide ((d.ps.n:Int)=(d.ps.n:Int))&&decide ((0:Int)<=(d.ps.n:Int)/\(d.ps.n:Int)<=17179869184)) (.need (pb ((QQO E d u))) (.br (many'==0) (.leaf (.tup [.nils,.nils,vj 0, vj 4]) ([])) (.leaf (.tup [.slz 449 0 f'.length cO,.slz 450 0 g'.length cO,vi many',vj 0]) ((QSQ f' g')))))))):=by kernel_rfl
theorem QX0(m e':Int):QE 96 [(AV.tup [AV.nils,AV.nils,vj (0:Int),vj (1:Int)])] ([]) (KP 96 (GH f g m e') (jM f g))=( some [f.length=(0:Nat),g.length=(0:Nat),(0:Int)=m,(1:Int)=e',f.length=(0:Nat),g.length=(0:Nat)]):=by kernel_rfl
theorem QTT(m e':Int):QE 96 [(AV.tup [AV.nils,AV.nils,vj (0:Int),vj (4:Int)])] ([]) (KP 96 (GH f g m e') (jM f g))=( some [f.length=(0:Nat),g.length=(0:Nat),(0:Int)=m,(4:Int)=e',f.length=(0:Nat),g.length=(0:Nat)]):=by kernel_rfl
abbrev wbi(f:List Lay)(f':List Lay)(g:List Lay)(g':List Lay):List Prop:=[f.length<=f'.length,QB (2:Nat) f.length (λi=>QA.enc (f'.getD i (Lay.mk (0:Int) (0:Int)))) λi=>QA.enc (f.getD i (Lay.mk (0:Int) (0:Int))),g.length<=g'.length,QB (2:Nat) g.length (λi=>QA.enc (g'.getD i (Lay.mk (0:Int) (0:Int)))) λi=>QA.enc (g.getD i (Lay.mk (0:Int) (0:Int)))]
theorem QTe(f' g' f g:List Lay)(m e':Int):QE 96 [(AV.tup [AV.slz (449:Nat) (0:Nat) f'.length cO,AV.slz (450:Nat) (0:Nat) g'.length cO,vi many',vj (0:Int)])] ([((449:Nat),Blk.rowz true (49:Nat) [CK.int i64,CK.int i64] f'.length λi=>QA.enc (f'.getD i (Lay.mk (0:Int) (0:Int)))),((450:Nat),Blk.rowz true (49:Nat) [CK.int i64,CK.int i64] g'.length λi=>QA.enc (g'.getD i (Lay.mk (0:Int) (0:Int))))]) (KP 96 (GH f g m e') (jM f g))=( some ([0=0,f'.length=f.length,cO=cO,0=0,g'.length=g.length,cO=cO,many'=m,(0:Int)=e']++wbi f f' g g')):=by kernel_rfl
theorem Qel(m e':Int):QE 96 [(AV.tup [AV.nils,AV.nils,vj (0:Int),vj (4:Int)])] ([]) (KP 96 (GH f g m e') (jM f g))=( some [f.length=(0:Nat),g.length=(0:Nat),(0:Int)=m,(4:Int)=e',f.length=(0:Nat),g.length=(0:Nat)]):=by kernel_rfl
theorem Qen(f' g' f g:List Lay)(m e':Int):QE 96 [(AV.tup [AV.slz (449:Nat) (0:Nat) f'.length cO,AV.slz (450:Nat) (0:Nat) g'.length cO,vi many',vj (0:Int)])] ([((449:Nat),Blk.rowz true (49:Nat) [CK.int i64,CK.int i64] f'.length λi=>QA.enc (f'.getD i (Lay.mk (0:Int) (0:Int)))),((450:Nat),Blk.rowz true (49:Nat) [CK.int i64,CK.int i64] g'.length λi=>QA.enc (g'.getD i (Lay.mk (0:Int) (0:Int))))]) (KP 96 (GH f g m e') (jM f g))=( some ([0=0,f'.length=f.length,cO=cO,0=0,g'.length=g.length,cO=cO,many'=m,(0:Int)=e']++wbi f f' g g')):=by kernel_rfl
theorem qi{d:Puz}(h:d.okN=true):KK d/\0<d.ps.n/\d.ps.n<=9:=by
 simp only[Puz.okN,Qy,qbA,qdE,beq_iff_eq]at h;obtain⟨⟨h1,h2⟩,⟨h3,h4⟩,⟨h5,h6⟩,h7⟩:=h;have hm:d.wide*d.high<=9*9:=Int.mul_le_mul (by omega) (by omega) (by omega) (by omega)
 have hm0:0<=d.wide*d.high:=Int.mul_nonneg (by omega) (by omega)
 rw[w64 (by omega) (by omega)]at h7
 exact⟨⟨by omega,h3,h4,h5,h6,h7⟩,by omega,by omega⟩
theorem jb{d:Puz}(h:d.ok=true):d.okN=true:=by
 rw[Puz.ok,qbA]at h;exact h.1
def Qt:List Lay×List Lay×Int×Int:=cond d.ok
 (match onZ d (QK d) d.ps.n [] (0,[],[])with
  | .go s | .stop s=>cond (s.1==0) ([],[],0,4) (s.2.1,s.2.2,s.1,0))
 ([],[],0,1)
def XQ:WF (Puz×Unit):=λ|(d,_)=>(decide (d.ps.n<=1000),GH (Qt d).1 (Qt d).2.1 (Qt d).2.2.1 (Qt d).2.2.2,jM (Qt d).1 (Qt d).2.1)
def QFg:FC:=wFC XQ
theorem QHY:WOk (XQ (d,())).2.1 (XQ (d,())).2.2:=⟨rfl,by simp[XQ,jM,rwY,Blk.own,Blk.all],rfl⟩
theorem QaJ(hn:d.ps.n<=1000)(hx:d.ok=false):QR prog 24 (wFC (VF XQ (d,()))):=by
 have hT:Qc (XW (λ_=>false) d (QK d) (J5 d (QK d) J1 J2 (QD []) [] 0 [] [] 0 [] [])):=(Qb.add (Ja (by kernel_rfl) _)).add (Ja (by kernel_rfl) _)
 have hv:Qt d=([],[],0,1):=by simp only[Qt,hx,cond_false]
 refine YY (c:=Qk f24) (E:=mkE prog (XW (λ_=>false) d (QK d) (J5 d (QK d) J1 J2 (QD []) [] 0 [] [] 0 [] []))) (H:=hnd (mkE prog (XW (λ_=>false) d (QK d) (J5 d (QK d) J1 J2 (QD []) [] 0 [] [] 0 [] []))) 8) (QN hT) func24 (by kernel_rfl) (by kernel_rfl) (N:=96) (by decide) (d,()) (λG h1 _=>Qu (QN hT) 8 G _ h1) (QHY d) ?_
 refine Qe (QNY (λ_=>false) d (QK d) (QD []) 0 [] []) ?_;refine QG (by simp;omega) (QF (λ_=>?_) (λh=>by rw[hx]at h;cases h))
 simp only[XQ,hv];refine⟨rfl,rfl,_,QX0 [] [] 0 1,?_⟩
 repeat' first|with_reducible refine QO ?_ ?_|exact tv|with_reducible exact qRr|exact rfl|refine aI ?_ ?_
theorem QXW(hx:d.ok=true):QR prog 24 (wFC (VF XQ (d,()))):=by
 obtain⟨hd,hpos,h9⟩:=qi (jb hx);have hon:=QWc hd (Ze d hd.n).w hpos d.ps.n [] (0,[],[]) (by simp) (λc hc=>by cases hc)
 have hdn:=hd.n;have hz:∀ k,QB 1 k (λ_ _=>0) (QD []):=λk i _=>⟨rfl,trivial⟩;cases he:onZ d (QK d) d.ps.n [] (0,[],[])with
 | go s=>
  rw[he]at hon;have hT:Qc (XW QP d (QK d) (J5 d (QK d) J1 J2 (QD []) [] 0 [] [] s.1 s.2.1 s.2.2)):=(Qb.add (Zw d (by omega))).add hon
  have hv:Qt d=cond (s.1==0) ([],[],0,4) (s.2.1,s.2.2,s.1,0):=by
   simp only[Qt,hx,he,cond_true]
  refine YY (c:=Qk f24) (E:=mkE prog (XW QP d (QK d) (J5 d (QK d) J1 J2 (QD []) [] 0 [] [] s.1 s.2.1 s.2.2))) (H:=hnd (mkE prog (XW QP d (QK d) (J5 d (QK d) J1 J2 (QD []) [] 0 [] [] s.1 s.2.1 s.2.2))) 8) (QN hT) func24 (by kernel_rfl) (by kernel_rfl) (N:=96) (by decide) (d,()) (λG h1 _=>Qu (QN hT) 8 G _ h1) (QHY d) ?_
  have et:=QNY QP d (QK d) (QD []) s.1 s.2.1 s.2.2;refine Qe et ?_;clear et;refine QG ?_ ?_;rotate_left;refine QF ?_ ?_<;>intro b0
  .rw[hx]at b0;cases b0
  iterate 3 (refine QG ?_ ?_;rotate_left)
  refine QF (λb1=>?_) (λb1=>?_);simp only[XQ,hv,show(s.1==0)=true from b1,cond_true];refine⟨rfl,rfl,_,QTT [] [] 0 4,?_⟩
  rotate_left
  simp only[XQ,hv,show(s.1==0)=false from b1,cond_false];refine⟨rfl,rfl,_,QTe s.1 s.2.1 s.2.2 s.2.1 s.2.2 s.1 0,?_⟩
  rotate_left
  all_goals first|((with_reducible show _=true);(first|(refine Q7.2 ?_;repeat' first|with_reducible refine QO ?_ ?_|exact tv|with_reducible exact qRr|with_reducible exact hz _|exact rfl|refine aI ?_ ?_)|(simp;omega)))|(repeat' first|with_reducible refine QO ?_ ?_|exact tv|with_reducible exact qRr|exact rfl|refine aI ?_ ?_)
 | stop s=>
  rw[he]at hon;have hT:Qc (XW QP d (QK d) (XH d (QK d) J1 J2 (QD []) [] 0 [] [] s.1 s.2.1 s.2.2)):=(Qb.add (Zw d (by omega))).add hon
  have hv:Qt d=cond (s.1==0) ([],[],0,4) (s.2.1,s.2.2,s.1,0):=by
   simp only[Qt,hx,he,cond_true]
  refine YY (c:=Qk f24) (E:=mkE prog (XW QP d (QK d) (XH d (QK d) J1 J2 (QD []) [] 0 [] [] s.1 s.2.1 s.2.2))) (H:=hnd (mkE prog (XW QP d (QK d) (XH d (QK d) J1 J2 (QD []) [] 0 [] [] s.1 s.2.1 s.2.2))) 8) (QN hT) func24 (by kernel_rfl) (by kernel_rfl) (N:=96) (by decide) (d,()) (λG h1 _=>Qu (QN hT) 8 G _ h1) (QHY d) ?_
  have et:=Qcy QP d (QK d) (QD []) s.1 s.2.1 s.2.2;refine Qe et ?_;clear et;refine QG ?_ ?_;rotate_left;refine QF ?_ ?_<;>intro b0
  .rw[hx]at b0;cases b0
  iterate 3 (refine QG ?_ ?_;rotate_left)
  refine QF (λb1=>?_) (λb1=>?_);simp only[XQ,hv,show(s.1==0)=true from b1,cond_true];refine⟨rfl,rfl,_,Qel [] [] 0 4,?_⟩
  rotate_left
  simp only[XQ,hv,show(s.1==0)=false from b1,cond_false];refine⟨rfl,rfl,_,Qen s.1 s.2.1 s.2.2 s.2.1 s.2.2 s.1 0,?_⟩
  rotate_left
  all_goals first|((with_reducible show _=true);(first|(refine Q7.2 ?_;repeat' first|with_reducible refine QO ?_ ?_|exact tv|with_reducible exact qRr|with_reducible exact hz _|exact rfl|refine aI ?_ ?_)|(simp;omega)))|(repeat' first|with_reducible refine QO ?_ ?_|exact tv|with_reducible exact qRr|exact rfl|refine aI ?_ ?_)
theorem Qdf(hx:(XQ (d,())).1=true):QR prog 24 (wFC (VF XQ (d,()))):=by
 have hn:d.ps.n<=1000:=qdt hx;cases ho:d.ok with
 | false=>exact QaJ d hn ho
 | true=>exact QXW d ho
theorem QN6:QR prog 24 QFg:=GP (by kernel_rfl) λ|(d,()),hx=>Qdf d hx
def haT:List AV:=[.ptr 200 0 0,(.slz 216 0 K.n C),.tup [],.tup [],.ptr 232 0 0,.ptr 200 0 0,(.slz 216 0 K.n C),.fn (.func 102) [.ptr 256 0 0,.ptr 264 0 0],.tup []]
def QF3:List AV:=[.ptr 256 0 0,.ptr 304 0 0,.ptr 368 0 0,.ptr 264 0 0,.ptr 384 0 0]
def haR:List (Nat×Blk):=
 [(384,.cellsR 0 31 [.fn (.func 103) QF3]),(304,.cellsR 0 105 [.yld 297]),(264,.cellsR 0 96 [(.slz 216 0 K.n C)]),(256,.cellsR 0 90 [.ptr 200 0 0])]++Qi.blk 216 K++Qi.blk 0 d.ps
def haW(ls:LoopState)(pe:Option Code)(v:Bool)(d:Puz)(E:ECt)(C:Cap)(K:Rw Pt)(ac body:Code)(u:Nat->Nat->Int)(l:List Lay)(a w:Nat):List (Nat×Blk):=
 [(200,.cells 0 152 (KT d++[.map 201,.slz a 0 l.length (.of 0)])),(201,.mp E.1 E.2),rwY a l,(368,.cells 0 114 [.slz w 0 d.ps.n (.of 0)]),rwU w d u,(297,.lp ls pe (haT C K) #[8] ac body),(232,.cells 0 4 [.bool true v])]
def haS:List (Nat×AV):=[(0,.ptr 256 0 0),(1,.ptr 304 0 0),(2,.ptr 368 0 0),(3,.ptr 264 0 0),(4,.ptr 384 0 0)]
def zy(l:List Lay):JSt:=⟨5,haS,haW .ready none false d E C K ac body u l 400 408++haR d C K,416⟩
def Z5(_:List Lay)(_:Unit):QZ Unit := .stop ()
def haU(l:List Lay)  :UC:=
 ⟨392,zy d E C K ac body u l,λ_=>.bool false true,λm=>haW .ready none false d E C K ac body u l m (m+1)⟩
def haV(l:List Lay)  :UC:=
 ⟨392,zy d E C K ac body u l,λ_=>.bool false false,λm=>haW .done (some .ret) true d E C K ac body u l m (m+1)⟩
def Zx:List Nat:=[200,201,368,297,232]
def QIm(n:Nat)(p:Nat):List (Nat×AV):=haS++[(33,.int false .i64 n),(34,.int false .i64 p)]
def Qdq(n:Nat)(p:Nat)(tn:Int)(t:Nat):List (Nat×AV):=QIm n p++[(6,.int false .i64 p),(43,.int false .i64 tn),(44,.int false .i64 t)]
def Ge(l:List Lay)(p:Nat):JSt:=⟨101,QIm d.ps.n p,haW .ready none false d E C K ac body u l 424 432++haR d C K,440⟩
def vF(l:List Lay)(p:Nat)(tn:Int)(t:Nat):JSt:=⟨101,Qdq d.ps.n p tn t,haW .ready none false d E C K ac body u l 424 432++haR d C K,440⟩
def HA(l:List Lay):JSt:=⟨101,[],haW .ready none false d E C K ac body u l 424 432,440⟩
def QBL(l:List Lay)(p:Nat):JSt:=⟨101,QIm d.ps.n p,haW .ready none false d E C K ac body u l 424 432++haR d C K,440⟩
def haF(l:List Lay):JSt:=⟨101,[(5,.bool false false)],haW .done (some .ret) true d E C K ac body u l 424 432,440⟩
def QKw:Ex->List Nat
 | .normal=>[0,1,2,3,4,33,34]
 | .exit _=>[]
 | .ret=>[5]
def QFI:Ex->List Nat
 | .normal=>[0,1,2,3,4,33,34,6,43,44]
 | .exit _=>[0,1,2,3,4,33,34]
 | .ret=>[5]
def QBQ(pb1 pb2:List Prop->Bool)(d:Puz)(E:ECt)(C:Cap)(K:Rw Pt)(l:List Lay)(x:Lay)(v:Bool)(U:UC):Tab:=Qa (Qa QS 105 (KE pb1 (myU d E l x v))) 103 (KE pb2 U)
abbrev waN:List AV:=[.ptr 256 0 0,.ptr 304 0 0,.ptr 368 0 0,.ptr 264 0 0,.ptr 384 0 0]
abbrev zs(tn:Int):List AV:=
  (.nilp::.ptr 101 0 0::List.append (waN) ((vi (d.ps.n:Int)::wbH p t tn)))
abbrev j7:Nat×Blk:=
  (256,.cellsR 0 90 [.ptr 200 0 0])
abbrev jS:Nat×Blk:=
  (264,.cellsR 0 96 [.slz 216 0 K.n C])
abbrev QEX:Nat×Blk:=
  (384,.cellsR 0 31 [.fn (Fn.func 103) (waN)])
abbrev j4:Nat×Blk:=
  (0,.frz (wae) d.ps.n λi=>QA.enc (d.ps.get i))
abbrev j8:Nat×Blk:=
  (216,.frz (wbA) K.n λi=>QA.enc (K.get i))
abbrev wbm(C:Cap)(K:Rw Pt)(ac:Code)(body:Code):List (Nat×Blk):=[(297,.lp LoopState.ready none (haT C K) (Array.mk [8]) ac body),(232,.cells 0 4 [.bool true false])]
abbrev Zv(E:ECt)(K:Rw Pt)(ac:Code)(body:Code)(d:Puz)(l:List Lay)(u:Nat->Nat->Int):List (Nat×Blk):=
  ((200,.cells 0 152 (List.append (waf d) ([.map 201,.slz 424 0 l.length cO])))::(201,.mp E.1 E.2)::(368,.cells 0 114 [.slz
  432 0 d.ps.n cO])::List.append (wbm C K ac body) ([j7,(304,.cellsR 0 105 [.yld 297]),(jS C
  K),QEX,(j4 d),(424,.rowz true 49 kB l.length λi=>QA.enc (l.getD i (Lay.mk (0:Int) (0:Int)))),(432,.rowz true 4 [CK.bool] d.ps.n u),(j8
  K)]))
abbrev QQ1(d:Puz)(l:List Lay)(p:Nat)(t:Nat):List Prop:=
  ([0=0,0=0,(p:Int)=(p:Int),(t:Int)=(t:Int)]++waa d++(((wca l)++wag l++[E.1=E.1,E.2=E.2])++wad d))
abbrev way(l:List Lay)(l2:List Lay)(p:Nat)(t:Nat):List Prop:=[l2.length<=l.length+1,QB 2 l2.length (KF l.length (λi=>QA.enc (l.getD i (Lay.mk (0:Int) (0:Int)))) (Kg [[.int
  false .i64 (p:Int),vi (t:Int)]] 0)) λi=>QA.enc (l2.getD i (Lay.mk (0:Int) (0:Int)))]
abbrev wa6(K:Rw Pt):List Prop:=[K.n<=K.n,QB 3 K.n (λi=>QA.enc (K.get i)) λi=>QA.enc (K.get i)]
abbrev QLP(E:ECt)(K:Rw Pt)(ac:Code)(body:Code)(d:Puz)(l:List Lay)(l2:List Lay)(p:Nat)(t:Nat)(u:Nat->Nat->Int)(u2:Nat->Nat->Int):List Prop:=
  ((wb1)++waa d++((([cO=cO,0=0,l.length+1=l2.length,cO=cO,E.1=E.1,E.2=E.2]++way l l2 p t++(wbO d++[QB 1 d.ps.n (λi=>bif decide (i=p)then KH [.bool true true] 0 (u ((p:Int).toNat+0))else u i) u2]))++wak++((([Array.mk [8]=Array.mk [8],ac=ac,body=body,0=0,0=0,0=0,K.n=K.n,C=C,0=0,0=0,0=0,0=0,0=0,K.n=K.n,C=C]++wcd++[false=false,Fn.func 103=Fn.func 103])++wb1++[0=0,K.n=K.n,C=C,0=0,0=0])++wa6 K))++wad d))
abbrev G4:Nat×Blk:=
  (200,.cells 0 152 (List.append (waf d) ([.map 201,.slz 752 0 (i64.wrap ((l2.length:Int)-1)).toNat cO])))
abbrev G5:Nat×Blk:=
  (368,.cells 0 114 [.slz 753 0 d.ps.n cO])
abbrev zS:Nat×Blk:=
  (752,.rowz true 49 kB l2.length λi=>QA.enc (l2.getD i (Lay.mk (0:Int) (0:Int))))
abbrev zG:Nat×Blk:=
  (753,.rowz true 4 [CK.bool] d.ps.n λi=>bif decide (i=p)then KH [.bool true false] 0 (u2 ((p:Int).toNat+0))else u2 i)
abbrev QRJ:List AV:=
  (.ptr 2 0 0::.ptr 101 0 0::List.append (waN) ([vi (d.ps.n:Int),vi (p:Int)]))
theorem QUN(pb1 pb2:List Prop->Bool)(d:Puz)(E:ECt)(C:Cap)(K:Rw Pt)(ac body:Code)(u u2:Nat->Nat->Int)(l l2:List Lay)(v:Bool)(p:Nat)(tn:Int)(t:Nat)(g0:Nat->Value):exec (mkE prog (QBQ pb1 pb2 d E C K l ⟨p,t⟩ v (haU d E C K ac body u2 l2))) (hnd (mkE prog (QBQ pb1 pb2 d E C K l ⟨p,t⟩ v (haU d E C K ac body u2 l2))) 0) (QY (QH f103 0)) (JSt.inst (vF d E C K ac body u l p tn t) g0) (Q8 Zx QFI) = .br (decide ((t:Int)<tn)) (.need (decide (K.n<=K.n)&&(true&&(true&&true))&&decide (K.n<=1000)) (.br (!Qq K (l.length:Int) (Lay.mk (p:Int) (t:Int))) (.leaf (.tup (zs d p t tn)) ((Zv C E K ac body d l u))) (.need (pb1 ((QQ1 E d l p t))) (.br (!v) (.leaf (.tup (zs d p t tn)) ((Zv C E K ac body d l u))) (.need (decide ((0:Int)<=(p:Int)/\(p:Int)<(d.ps.n:Int))&&decide (d.ps.n<=d.ps.n)) (.need (decide (p<d.ps.n)) (.need (decide (l.length<=l.length)&&(true&&decide ((l.length+1+(l.length+1) / 4+192)*16<=281474976710656/\l.length+1<=9223372036854775807))) (.need (pb2 ((QLP C E K ac body d l l2 p t u u2))) (.need (decide ((0:Int)<=i64.wrap ((l2.length:Int)-1)/\(i64.wrap ((l2.length:Int)-1)).toNat<=l2.length-0)) (.need (decide ((0:Int)<=(p:Int)/\(p:Int)<(d.ps.n:Int))&&decide (d.ps.n<=d.ps.n)) (.need (decide (p<d.ps.n)) (.br (false) (.leaf (.tup (wbR)) (((G4 d l2)::(201,.mp E.1 E.2)::(G5 d)::List.append (wbm C K ac body) ([(j4 d),(zS l2),(zG d p u2),(j8 K),j7,(jS C K)])))) (.leaf (.tup (zs d p t tn)) (((G4 d l2)::(201,.mp E.1 E.2)::(G5 d)::List.append (wbm C K ac body) ([j7,(304,.cellsR 0 105 [.yld 297]),(jS C K),QEX,(j4 d),(zS l2),(zG d p u2),(j8 K)])))))))))))))))) (.leaf (.tup (QRJ d p)) ((Zv C E K ac body d l u))):=by kernel_rfl
abbrev QHv(tn:Int):List AV:=
  (List.append (waN) ((wbT d p t tn)))
abbrev wbh(C:Cap)(K:Rw Pt):List Prop:=[K.n=K.n,C=C,Fn.func (102:FuncId)=Fn.func (102:FuncId)]
abbrev QKp(E:ECt)(K:Rw Pt)(ac:Code)(body:Code)(d:Puz)(l:List Lay)(p:Nat)(t:Nat)(t':Nat)(tn:Int)(u:Nat->Nat->Int):List Prop:=
  (((wb1)++waK d p t t' tn)++waa d++((([cO=cO,0=0]++wb2 E l)++wag l++((wbO d++[QB 1 d.ps.n u u])++wak++(([Array.mk [8]=Array.mk [(8:Tmp)],ac=ac,body=body,0=0,0 =
  0,0=0,K.n=K.n,C=C,0=0,0=0,0=0,0=0,0=0]++wbh C K++([0=0,0=0,0=0,0=0,false=false,Fn.func
  103=Fn.func (103:FuncId)]++wb1++[0=0,K.n=K.n,C=C,0=0,0=0]))++wa6 K)))++wad d))
theorem QJc(l:List Lay)(p:Nat)(tn:Int)(t t':Nat):QE 416 (QHv d p t tn) ((Zv C E K ac body d l u)) (vF d E C K ac body u l p tn t')=(some (QKp C E K ac body d l p t t' tn u)):=by kernel_rfl
theorem QNB(l:List Lay)(p:Nat)(tn:Int)(t t':Nat):QE 416 (QHv d p t tn) ((Zv C E K ac body d l u)) (vF d E C K ac body u l p tn t')=(some (QKp C E K ac body d l p t t' tn u)):=by kernel_rfl
abbrev XE:List Prop:=
  [0=0,0=0,0=0,0=0]
abbrev QQz(d:Puz)(l:List Lay)(l2:List Lay)(p:Nat)(u2:Nat->Nat->Int)(u3:Nat->Nat->Int):List Prop:=
  ([d.pK.dK.lo=d.pK.dK.lo,d.pK.dK.hi=d.pK.dK.hi,d.wide=d.wide,d.high=d.high,d.turn=d.turn,0=0,d.ps.n=d.ps.n,cO=cO,0=0,(i64.wrap ((l2.length:Int)-1)).toNat=l.length,cO=cO]++waR E l l2++(wbO d++[QB 1 d.ps.n (λi=>bif decide
  (i=p)then KH [.bool true false] 0 (u2 ((p:Int).toNat+0))else u2 i) u3]))
abbrev QHR:List Prop:=
  [Array.mk [8]=Array.mk [(8:Tmp)],ac=ac,body=body,0=0,0=0,0=0,K.n=K.n,C=C]
abbrev QOI(d:Puz):List Prop:=
  (([0=0,0=0,K.n=K.n,C=C,0=0,0=0]++wa6 K)++wad d)
abbrev wby(d:Puz):List Prop:=[d.pK.length=d.pK.length,d.pK.aK=d.pK.aK]
theorem Qcf(u u2 u3:Nat->Nat->Int)(l l2:List Lay)(p:Nat)(tn:Int)(t t':Nat):QE 416 (QHv d p t tn) (((G4 d l2)::(201,.mp E.1 E.2)::(G5 d)::List.append (wbm C K ac body) ([j7,(304,.cellsR 0 105 [.yld 297]),(jS C K),QEX,(j4 d),(zS l2),(zG d p u2),(j8 K)]))) (vF d E C K ac body u3 l p tn t')=(some (XE++XE++([0=0,0=0]++waK d p t t' tn++(wby d++[d.pK.oK=d.pK.oK]))++(QQz E d l l2 p u2 u3)++(wak)++(QHR C K ac body)++XE++([0=0]++wbh C K)++XE++[false=false,Fn.func 103=Fn.func (103:FuncId)]++XE++XE++[0=0]++(QOI C K d))):=by kernel_rfl
theorem QNp(l:List Lay)(p:Nat):QE 416 (List.append (waN) ([vi (d.ps.n:Int),vi (p:Int)])) ((Zv C E K ac body d l u)) (QBL d E C K ac body u l p)=(some (XE++XE++(([0=0,0=0]++wbq d p)++waa d++(([cO=cO,0=0]++wb2 E l)++wag l++((wbO d++[QB 1 d.ps.n u u])++wak)))++(QHR C K ac body)++XE++([0=0]++wbh C K)++XE++[false=false,Fn.func 103=Fn.func (103:FuncId)]++XE++XE++[0=0]++(QOI C K d))):=by kernel_rfl
abbrev wa4(C:Cap)(K:Rw Pt)(ac:Code)(body:Code):List (Nat×Blk):=[(297,.lp LoopState.done (some Code.ret) (haT C K) (Array.mk [8]) ac body),(232,.cells 0 4 [.bool true true])]
theorem QVU(pb1 pb2:List Prop->Bool)(d:Puz)(E:ECt)(C:Cap)(K:Rw Pt)(ac body:Code)(u u2:Nat->Nat->Int)(l l2:List Lay)(v:Bool)(p:Nat)(tn:Int)(t:Nat)(g0:Nat->Value):exec (mkE prog (QBQ pb1 pb2 d E C K l ⟨p,t⟩ v (haV d E C K ac body u2 l2))) (hnd (mkE prog (QBQ pb1 pb2 d E C K l ⟨p,t⟩ v (haV d E C K ac body u2 l2))) 0) (QY (QH f103 0)) (JSt.inst (vF d E C K ac body u l p tn t) g0) (Q8 Zx QFI) = .br (decide ((t:Int)<tn)) (.need (decide (K.n<=K.n)&&(true&&(true&&true))&&decide (K.n<=1000)) (.br (!Qq K (l.length:Int) (Lay.mk (p:Int) (t:Int))) (.leaf (.tup (zs d p t tn)) ((Zv C E K ac body d l u))) (.need (pb1 ((QQ1 E d l p t))) (.br (!v) (.leaf (.tup (zs d p t tn)) ((Zv C E K ac body d l u))) (.need (decide ((0:Int)<=(p:Int)/\(p:Int)<(d.ps.n:Int))&&decide (d.ps.n<=d.ps.n)) (.need (decide (p<d.ps.n)) (.need (decide (l.length<=l.length)&&(true&&decide ((l.length+1+(l.length+1) / 4+192)*16<=281474976710656/\l.length+1<=9223372036854775807))) (.need (pb2 ((QLP C E K ac body d l l2 p t u u2))) (.need (decide ((0:Int)<=i64.wrap ((l2.length:Int)-1)/\(i64.wrap ((l2.length:Int)-1)).toNat<=l2.length-0)) (.need (decide ((0:Int)<=(p:Int)/\(p:Int)<(d.ps.n:Int))&&decide (d.ps.n<=d.ps.n)) (.need (decide (p<d.ps.n)) (.br (true) (.leaf (.tup (wbR)) (((G4 d l2)::(201,.mp E.1 E.2)::(G5 d)::List.append (wa4 C K ac body) ([(j4 d),(zS l2),(zG d p u2),(j8 K),j7,(jS C K)])))) (.leaf (.tup (zs d p t tn)) (((G4 d l2)::(201,.mp E.1 E.2)::(G5 d)::List.append (wa4 C K ac body) ([j7,(304,.cellsR 0 105 [.yld 297]),(jS C K),QEX,(j4 d),(zS l2),(zG d p u2),(j8 K)])))))))))))))))) (.leaf (.tup (QRJ d p)) ((Zv C E K ac body d l u))):=by kernel_rfl
theorem QcH(u2 u3:Nat->Nat->Int)(l l2:List Lay)(p:Nat):QE 416 [.bool true false] (((G4 d l2)::(201,.mp E.1 E.2)::(G5 d)::List.append (wa4 C K ac body) ([(j4 d),(zS l2),(zG d p u2),(j8 K),j7,(jS C K)]))) (haF d E C K ac body u3 l)=(some (([false=false]++wby d++[d.pK.oK=d.pK.oK])++(QQz E d l l2 p u2 u3)++[LoopState.done=LoopState.done,some Code.ret=some Code.ret]++(QHR C K ac body)++XE++([0=0]++wbh C K)++XE++[true=true])):=by kernel_rfl
