/- - -/
import Derived.Test.YtekbmehgcofnkaaGreatVzc
import Derived.Test.YtekbmehgcofnkaaGreatVzd
set_option linter.all false
noncomputable section
open Go.Proofs.Tryz
open Go.IntKind (i64)
set_option maxRecDepth 100000
namespace Go.Proofs.YtekbmehgcofnkaaGreat
open Go.SX Go.SX.Told
theorem QPD{σ α:Type}(f:σ->α->Qi σ):∀(a b:List α) (s:σ),KC f (a++b) s=match KC f a s with
  | .go s'=>KC f b s'
  | .stop s' => .stop s'
 | [],_,_=>rfl
 | x::a,b,s=>by
  simp only[List.cons_append,KC];cases f s x with
  | go s'=>exact QPD f a b s'
  | stop s'=>rfl
variable {σ α:Type}(d:Puz)(E:ECt)(f g:List Lay)(C:Cap)(K:Rw Pt)(ac body:Code)(many':Int)(f' g' l l2:List Lay)(p:Nat)(u u2:Nat->Nat->Int)(t:Nat)
theorem QET{f g:σ->α->Qi σ}{l:List α}(h:∀ s,∀ a∈l,f s a=g s a)(s:σ):KC f l s=KC g l s:=by
 induction l generalizing s with
 | nil=>rfl
 | cons a l ih=>
  simp only[KC,h s a qmc];cases g s a with
  | go s'=>exact ih (λs b hb=>h s b (List.mem_cons_of_mem _ hb)) s'
  | stop s'=>rfl
theorem Qeh{f:σ->α->Qi σ}{l:List α}(h:∀ s,∀ a∈l,f s a = .go s)(s:σ):KC f l s = .go s:=by
 induction l generalizing s with
 | nil=>rfl
 | cons a l ih=>
  simp only[KC,h s a qmc];exact ih (λs b hb=>h s b (List.mem_cons_of_mem _ hb)) s
theorem QLF{σ α β:Type}(f:σ->β->Qi σ)(g:α->List β):∀(l:List α) (s:σ),KC f (l.flatMap g) s=KC (λs a=>KC f (g a) s) l s
 | [],_=>rfl
 | a::l,s=>by
  rw[List.flatMap_cons,QPD];simp only[KC];cases KC f (g a) s with
  | go s'=>exact QLF f g l s'
  | stop s'=>rfl
theorem QP5{σ α β:Type}(f:σ->β->Qi σ)(g:α->β):∀(l:List α) (s:σ),KC f (l.map g) s=KC (λs a=>f s (g a)) l s
 | [],_=>rfl
 | a::l,s=>by
  simp only[List.map_cons,KC];cases f s (g a)with
  | go s'=>exact QP5 f g l s'
  | stop s'=>rfl
def zl:List Lay:=(List.range d.ps.n).flatMap λp=>(List.range (Qe d p)).map λt:Nat=>(⟨(p:Int),(t:Int)⟩:Lay)
def YK(x:Lay):Bool:=l.any λy=>y.piece==x.piece
def qQ(A:Int->Lay->Bool)(d:Puz)(E:ECt)(l:List Lay)(x:Lay):Bool := !YK l x&&(A l.length x&&KA d E l x)
def jG(A:Int->Lay->Bool)(d:Puz)(E:ECt)(k:Nat)(l:List Lay):List (List Lay):=vq (λ_=>zl d) (qQ A d E) (λ_=>true) k l
def QDl(_:Int)(_:Lay):Bool:=true
theorem QHX{σ:Type}(A:Int->Lay->Bool)(d:Puz)(E:ECt)(Y:List Lay->σ->Qi σ):∀(k:Nat) (l:List Lay) (s:σ),onA A d E Y k l s=KC (λs l=>Y l s) (jG A d E k l) s
 | 0,l,s=>by
  simp only[onA,jG,vq,cond_true,KC];cases Y l s<;>rfl
 | k+1,l,s=>by
  simp only[jG,vq];rw[QLF];unfold zl;rw[QLF,onA];refine QET (λs p _=>?_) s;unfold X6;rw[QP5];cases hu:Q6 l p with
  | true=>
   rw[cond_true];refine(Qeh (λs t _=>?_) s).symm
   have:qQ A d E l ⟨(p:Int),(t:Int)⟩=false:=by
    unfold qQ;rw[show YK l ⟨(p:Int),(t:Int)⟩=true from hu];rfl
   rw[this];rfl
  | false=>
   rw[cond_false];unfold inA;refine QET (λs t _=>?_) s;unfold J9 KP qQ;rw[show YK l ⟨(p:Int),(t:Int)⟩=false from hu];cases A l.length ⟨(p:Int),(t:Int)⟩with
   | false=>rfl
   | true=>
    cases KA d E l ⟨(p:Int),(t:Int)⟩with
    | false=>rfl
    | true=>
     have:=QHX A d E Y k (l++[⟨(p:Int),(t:Int)⟩]) s;simp only[cond_true,Bool.not_false,Bool.true_and]at this ⊢;rw[this];rfl
theorem QSq{σ:Type}(d:Puz)(E:ECt)(Y:List Lay->σ->Qi σ):∀(k:Nat) (l:List Lay) (s:σ),onY d E Y k l s=onA QDl d E Y k l s
 | 0,_,_=>rfl
 | k+1,l,s=>by
  rw[onY,onA];refine QET (λs p _=>?_) s;unfold K3 X6 inZ inA;cases Q6 l p with
  | true=>rfl
  | false=>
   simp only[cond_false];refine QET (λs t _=>?_) s;unfold J9 KP;rw[QSq d E Y k];rfl
def Q7:List (List Lay):=jG QDl d E d.ps.n []
theorem QM2(Y:List Lay->σ->Qi σ)(s:σ):onY d E Y d.ps.n [] s=KC (λs l=>Y l s) (Q7 d E) s:=by
 rw[QSq,QHX];rfl
def X7(P:List (List Lay)):SoS:=((P.length:Int),P.getD 0 [],P.getD 1 [])
theorem QZY(P:List (List Lay))(l:List Lay)(h:P.length<100):Zt l (X7 P)=cond (decide (P.length+1=100)) (.stop (X7 (P++[l]))) (.go (X7 (P++[l]))):=by
 have hw:i64.wrap ((P.length:Int)+1)=((P.length+1:Nat):Int):=(w64 (by omega) (by omega)).trans (by omega)
 have hs:(i64.wrap ((P.length:Int)+1),cond (i64.wrap ((P.length:Int)+1)==1) l (P.getD 0 []),cond (i64.wrap ((P.length:Int)+1)==1) (P.getD 1 []) (cond (i64.wrap ((P.length:Int)+1)==2) l (P.getD 1 [])))=X7 (P++[l]):=by
  rw[hw];unfold X7
  match P with
  | []=>rfl
  | [a]=>rfl
  | a::b::P=>
   have h1:((((a::b::P).length+1:Nat):Int)==1)=false:=by
    rw[beq_eq_false_iff_ne];simp only[List.length_cons];omega
   have h2:((((a::b::P).length+1:Nat):Int)==2)=false:=by
    rw[beq_eq_false_iff_ne];simp only[List.length_cons];omega
   rw[h1,h2];simp
 unfold Zt
 have hc:(i64.wrap ((X7 P).1+1)==100)=decide (P.length+1=100):=by
  show(i64.wrap ((P.length:Int)+1)==100)=_;rw[hw,Bool.eq_iff_iff];simp only[beq_iff_eq,qdE];omega
 rw[hc];show cond _ (Qi.stop (i64.wrap ((P.length:Int)+1),cond (i64.wrap ((P.length:Int)+1)==1) l (P.getD 0 []),cond (i64.wrap ((P.length:Int)+1)==1) (P.getD 1 []) (cond (i64.wrap ((P.length:Int)+1)==2) l (P.getD 1 [])))) (Qi.go (i64.wrap ((P.length:Int)+1),cond (i64.wrap ((P.length:Int)+1)==1) l (P.getD 0 []),cond (i64.wrap ((P.length:Int)+1)==1) (P.getD 1 []) (cond (i64.wrap ((P.length:Int)+1)==2) l (P.getD 1 []))))=_;rw[hs]
theorem QOX:∀(L P:List (List Lay)),P.length<100->KC (λs l=>Zt l s) L (X7 P) = .go (X7 (P++L))/\(P++L).length<100∨KC (λs l=>Zt l s) L (X7 P) = .stop (X7 ((P++L).take 100))/\100<=(P++L).length
 | [],P,h => .inl ⟨by rw[List.append_nil];rfl,by rw[List.append_nil];exact h⟩
 | l::L,P,h=>by
  simp only[KC,QZY P l h]
  by_cases h1:P.length+1=100
  .refine .inr ⟨?_,by simp only[List.length_append,List.length_cons];omega⟩
   rw[qde h1,cond_true]
   have:(P++l::L).take 100=P++[l]:=by
    rw[show P++l::L=(P++[l])++L by simp,List.take_append_of_le_length (by simp;omega),List.take_of_length_le (by simp;omega)]
   rw[this]
  .rw[decide_eq_false h1,cond_false];have:=QOX L (P++[l]) (by simp;omega)
   simpa using this
theorem QUw(L:List α)(k i:Nat)(a:α)(h:i<k):(L.take k).getD i a=L.getD i a:=by
 simp only[List.getD_eq_getElem?_getD,List.getElem?_take,if_pos h]
theorem Qla:(match onZ d E d.ps.n [] (0,[],[])with | .go s | .stop s=>s)=(((min (Q7 d E).length 100:Nat):Int),(Q7 d E).getD 0 [],(Q7 d E).getD 1 []):=by
 have h:=QOX (Q7 d E) [] (by decide)
 rw[List.nil_append]at h;have e:onZ d E d.ps.n [] (0,[],[])=KC (λs l=>Zt l s) (Q7 d E) (X7 []):=QM2 d E Zt (0,[],[]);rw[e];rcases h with ⟨h1,h2⟩|⟨h1,h2⟩
 .rw[h1];simp only[X7];rw[Nat.min_eq_left (by omega)]
 .rw[h1];simp only[X7];rw[QUw _ _ _ _ (by decide),QUw _ _ _ _ (by decide),List.length_take,Nat.min_comm]
theorem Yr:(Qe d p:Int)=tnV d p/\Qe d p<=4:=by
 unfold Qe;rcases QNb d p with h|h<;>rw[h]<;>decide
set_option maxHeartbeats 1000000 in
theorem QgC(rec:List Lay->SoS->Qi SoS)(l:List Lay)(p:Nat)(hp:p<d.ps.n)(hn:d.ps.n<=1000)(hl:l.length<=1000)(hu:Q6 l p=false):K6 (λk:Nat×SoS=>GO d E ac body (QD l) l k.2.1 k.2.2.1 k.2.2.2 p (tnV d p) k.1) (λk=>k.1<=Qe d p) (λk=>Qe d p-k.1) (ZV d E ac body rec l p) 464 QKW WB (vW prog d E ac body rec l p) (λk=>hnd (vW prog d E ac body rec l p k) 0) (QW (QI f103 0)):=by
 refine⟨λk g0 hk=>?_⟩;obtain⟨t,many,f,g⟩:=k;have hk:t<=Qe d p:=hk;obtain⟨ht1,ht4⟩:=Yr d p;have hlen:(l++[(⟨p,t⟩:Lay)]).length=l.length+1:=by rw[List.length_append,List.length_singleton]
 have hw1:i64.wrap (((l++[(⟨p,t⟩:Lay)]).length:Int)-1)=l.length:=(w64 (by omega) (by omega)).trans (by omega)
 have hpop:(i64.wrap (((l++[(⟨p,t⟩:Lay)]).length:Int)-1)).toNat=l.length:=by rw[hw1];exact Int.toNat_natCast _
 have hle:l.length<=(l++[(⟨p,t⟩:Lay)]).length:=by omega
 have hpb:t<Qe d p->Wl d p t=QK:=λh=>by unfold Wl;rw[if_pos h]
 have wt:t<Qe d p->i64.wrap ((t:Int)+1)=((t+1:Nat):Int):=λh=>(w64 (by omega) (by omega)).trans (by omega)
 have step:=λh:t<Qe d p=>jF (f:=KP d E rec l p) h (many,f,g);unfold vW;simp only
 have next:t<Qe d p->∀{s2:SoS},KP d E rec l p (many,f,g) t = .go s2->∀ e J,ZV d E ac body rec l p (t+1,s2) e J->ZV d E ac body rec l p (t,many,f,g) e J:=by
  intro h s2 he e J hr;unfold ZV at hr ⊢;simp only at hr ⊢;rw[step h,he];exact hr
 have last:Qe d p<=t->ZV d E ac body rec l p (t,many,f,g) (.exit 2) (QBT d E ac body (QD l) l many f g p):=by
  intro h;unfold ZV;simp only[W9 h,and_self]
 cases hr:rec (l++[⟨p,t⟩]) (many,f,g)with
 | go s'=>
  obtain⟨many',f',g'⟩:=s';simp only[Ye];have et:=Qhj (Wl d p t) (Wl d p t) d E ac body (QD l) (QD (l++[⟨p,t⟩])) l (l++[⟨p,t⟩]) (KA d E l ⟨p,t⟩) many f g p (tnV d p) t many' f' g' g0;refine Qh et ?_;clear et;refine QE (λb0=>?_) (λb0=>?_);have h:t<Qe d p:=by have:=qdt b0;omega
  rw[hpb h];have hw:=wt h;refine QG ?_ ?_;rotate_left;refine QE ?_ ?_<;>intro b1
  .exact Bool.noConfusion (show false=true from b1)
  refine QG ?_ ?_;rotate_left;refine QE (λb2=>?_) (λb2=>?_);have hv:KA d E l ⟨p,t⟩=false:=by simpa using b2
  have ho:KP d E rec l p (many,f,g) t = .go (many,f,g):=by unfold KP;rw[hv];rfl
  refine⟨(t+1,many,f,g),h,by show Qe d p-(t+1)<Qe d p-t;omega,next h ho,rfl,rfl,_,QPd d E ac body (QD l) l many f g p (tnV d p) t (t+1),?_⟩
  rotate_left
  iterate 7 (refine QG ?_ ?_;rotate_left)
  refine QE ?_ ?_<;>intro b3
  .cases b3
  have hv:KA d E l ⟨p,t⟩=true:=by simpa using b2
  have ho:KP d E rec l p (many,f,g) t = .go (many',f',g'):=by unfold KP;rw[hv];exact hr
  have hb:=jB l d.ps.n p t hu;have hq:=jV l ⟨p,t⟩;have hnx:=next h ho
  clear next last step hr ho
  generalize QD (l++[⟨p,t⟩])=u2 at hb ⊢;generalize l++[⟨p,t⟩]=l2 at hpop hle hq ⊢;generalize hu1:QD l=u1 at hb ⊢;refine⟨(t+1,many',f',g'),h,by show Qe d p-(t+1)<Qe d p-t;omega,hnx,rfl,rfl,_,QYH d E ac body u1 u2 u1 l l2 p (tnV d p) t (t+1) many' f' g',?_⟩
  rotate_left
  have h:Qe d p<=t:=by have:=qdf b0;omega
  refine⟨_,last h,rfl,rfl,_,QQy d E ac body (QD l) l many f g p,?_⟩
  rotate_left
  all_goals first|((with_reducible show _=true);(first|rfl|(refine KG.2 ?_;repeat' first|with_reducible refine QM ?_ ?_|exact tv|with_reducible exact qRr|with_reducible exact hlen|with_reducible exact hlen.symm|with_reducible exact Nat.le_of_eq hlen|with_reducible exact Z8 l ⟨p,t⟩|with_reducible exact WP l _ p t|exact rfl|refine aI ?_ ?_)|(rw[hw1];simp)|(simp;omega)))|(repeat' first|with_reducible refine QM ?_ ?_|exact tv|with_reducible exact qRr|with_reducible exact hw|with_reducible exact hpop|with_reducible exact hle|with_reducible exact hq|with_reducible exact hb|exact rfl|refine aI ?_ ?_)
 | stop s'=>
  obtain⟨many',f',g'⟩:=s';simp only[Ye];have et:=QjO (Wl d p t) (Wl d p t) d E ac body (QD l) (QD (l++[⟨p,t⟩])) l (l++[⟨p,t⟩]) (KA d E l ⟨p,t⟩) many f g p (tnV d p) t many' f' g' g0;refine Qh et ?_;clear et;refine QE (λb0=>?_) (λb0=>?_);have h:t<Qe d p:=by have:=qdt b0;omega
  rw[hpb h];have hw:=wt h;refine QG ?_ ?_;rotate_left;refine QE ?_ ?_<;>intro b1
  .exact Bool.noConfusion (show false=true from b1)
  refine QG ?_ ?_;rotate_left;refine QE (λb2=>?_) (λb2=>?_);have hv:KA d E l ⟨p,t⟩=false:=by simpa using b2
  have ho:KP d E rec l p (many,f,g) t = .go (many,f,g):=by unfold KP;rw[hv];rfl
  refine⟨(t+1,many,f,g),h,by show Qe d p-(t+1)<Qe d p-t;omega,next h ho,rfl,rfl,_,QPd d E ac body (QD l) l many f g p (tnV d p) t (t+1),?_⟩
  rotate_left
  iterate 7 (refine QG ?_ ?_;rotate_left)
  refine QE (λb3=>?_) (λb3=>?_);have hv:KA d E l ⟨p,t⟩=true:=by simpa using b2
  have ho:KP d E rec l p (many,f,g) t = .stop (many',f',g'):=by unfold KP;rw[hv];exact hr
  have hrel:ZV d E ac body rec l p (t,many,f,g) .ret (soF d E ac body (QD l) l many' f' g'):=by
   unfold ZV;simp only[step h,ho,and_self]
  have hb:=jB l d.ps.n p t hu;have hq:=jV l ⟨p,t⟩;clear next last step hr ho
  generalize QD (l++[⟨p,t⟩])=u2 at hb ⊢;generalize l++[⟨p,t⟩]=l2 at hpop hle hq ⊢;generalize hu1:QD l=u1 at hb hrel ⊢;refine⟨_,hrel,rfl,rfl,_,Qib d E ac body u2 u1 l l2 p many' f' g',?_⟩
  rotate_left
  .cases b3
  have h:Qe d p<=t:=by have:=qdf b0;omega
  refine⟨_,last h,rfl,rfl,_,QQy d E ac body (QD l) l many f g p,?_⟩
  rotate_left
  all_goals first|((with_reducible show _=true);(first|rfl|(refine KG.2 ?_;repeat' first|with_reducible refine QM ?_ ?_|exact tv|with_reducible exact qRr|with_reducible exact hlen|with_reducible exact hlen.symm|with_reducible exact Nat.le_of_eq hlen|with_reducible exact Z8 l ⟨p,t⟩|with_reducible exact WP l _ p t|exact rfl|refine aI ?_ ?_)|(rw[hw1];simp)|(simp;omega)))|(repeat' first|with_reducible refine QM ?_ ?_|exact tv|with_reducible exact qRr|with_reducible exact hw|with_reducible exact hpop|with_reducible exact hle|with_reducible exact hq|with_reducible exact hb|exact rfl|refine aI ?_ ?_)
def Qi.s{σ:Type}:Qi σ->σ
 | .go s=>s
 | .stop s=>s
def Qi.isGo:Qi σ->Bool
 | .go _=>true
 | .stop _=>false
def QFM(rec:List Lay->SoS->Qi SoS)(l:List Lay)(p:Nat):Prop:=∀ t,t<Qe d p->∀ s,QS prog 103 (uFC (Ye d E ac body (l++[⟨p,t⟩]) s (rec (l++[⟨p,t⟩]) s)))
theorem Qfz{d:Puz}{E:ECt}{ac body:Code}{rec:List Lay->SoS->Qi SoS}{l:List Lay}{p:Nat}(hd:Kb d)(hE:WfE E)(hl:l.length<=1000)(hL:∀ y∈l,KJ d y)(hp:p<d.ps.n)(IH:QFM d E ac body rec l p)(k:Nat×SoS):(vW prog d E ac body rec l p k).Sound:=by
 unfold vW Wl
 by_cases h:k.1<Qe d p
 .rw[if_pos h];have h4:=(Yr d p).2;exact QP ((Qm.add (QFf d E l ⟨p,k.1⟩ hd hE hl hL ⟨⟨by show(0:Int)<=p;omega,by show(p:Int)<_;omega⟩,by show(0:Int)<=k.1;omega,by show(k.1:Int)<=3;omega⟩)).add (IH k.1 h k.2))
 .rw[if_neg h];exact QP ((Qm.add (Jx (by kernel_rfl) _)).add (Jx (by kernel_rfl) _))
def QCk(rec:List Lay->SoS->Qi SoS)(l:List Lay)(p:Nat)(s:SoS):List (Prop×Ex×JSt):=
 [((inZ d E rec l p s).isGo=true,.exit 2,QBT d E ac body (QD l) l (inZ d E rec l p s).s.1 (inZ d E rec l p s).s.2.1 (inZ d E rec l p s).s.2.2 p),((inZ d E rec l p s).isGo=false,.ret,soF d E ac body (QD l) l (inZ d E rec l p s).s.1 (inZ d E rec l p s).s.2.1 (inZ d E rec l p s).s.2.2)]
theorem QE7{l:List Lay}{p:Nat}(h:QD l p 0=0):Q6 l p=false:=by
 unfold QD at h;cases hb:Q6 l p with
 | false=>rfl
 | true=>rw[hb]at h;cases h
theorem QfM{d:Puz}{E:ECt}{ac body:Code}{rec:List Lay->SoS->Qi SoS}{l:List Lay}(hd:Kb d)(hE:WfE E)(hl:l.length<=1000)(hL:∀ y∈l,KJ d y)(p:Nat)(s:SoS)(IH:p<d.ps.n->QFM d E ac body rec l p)(G:Ctx)(hrd:G.rd=none)(hG:G.n<=464):
  Q0 (mkE prog (jk QK d l.length p)) G (QED prog QK d E ac body (QD l) l s.1 s.2.1 s.2.2 p (QCk d E ac body rec l p s)) (QI f103 0):=by
 have hT:Qf (jk QK d l.length p):=Qm.add (Yf d l.length p);refine KO (body:=QW (QI f103 0)) (QP hT) hrd (by kernel_rfl) ?_
 refine JJ λhp=>?_;have hu:=QE7 hp.2;have hEnv:=Qfz (ac:=ac) (body:=body) hd hE hl hL hp.1 (IH hp.1);refine JG (E0:=mkE prog (jk QK d l.length p)) (E:=vW prog d E ac body rec l p) (H:=λk=>hnd (vW prog d E ac body rec l p k) 0) (n0:=464) (s0:=(0,s)) (λ_=>rfl) hEnv hG (λk _=>Qz (hEnv k) 0 G _ hrd) (λk _=>(by decide:464<=504)) ?_ (QgC d E ac body rec l p hp.1 hd.n hl hu) (Nat.zero_le _) ?_
 .intro k e J hr;unfold ZV at hr;split at hr<;>(rw[hr.2];exact(by decide:464<=504))
 .intro e J hr;unfold ZV at hr;simp only[List.drop_zero]at hr;have hi:inZ d E rec l p s=KC (KP d E rec l p) (List.range (Qe d p)) s:=rfl;unfold QCk;rw[hi];cases hc:KC (KP d E rec l p) (List.range (Qe d p)) s with
  | go s'=>
   rw[hc]at hr;exact⟨_,qmc,rfl,hr.1.symm,hr.2.symm⟩
  | stop s'=>
   rw[hc]at hr;exact⟨_,List.mem_cons_of_mem _ qmc,rfl,hr.1.symm,hr.2.symm⟩
def YY(rec:List Lay->SoS->Qi SoS)(l:List Lay)(k:Nat×SoS)(e:Ex)(J:JSt):Prop:=match KC (K3 d E rec l) ((List.range d.ps.n).drop k.1) k.2 with
 | .go s'=>e = .exit 0/\J=Hz d E ac body (QD l) l s'.1 s'.2.1 s'.2.2
 | .stop s'=>e = .ret/\J=soF d E ac body (QD l) l s'.1 s'.2.1 s'.2.2
theorem XD{l:List Lay}{p:Nat}:decide (QD l ((p:Int).toNat+0) 0=1)=Q6 l p:=by
 show decide (cond (Q6 l p) (1:Int) 0=1)=Q6 l p;cases Q6 l p<;>rfl
set_option maxHeartbeats 1000000 in
theorem QZj(rec:List Lay->SoS->Qi SoS)(l:List Lay)(hn:d.ps.n<=1000):K6 (λk:Nat×SoS=>G5 d E ac body (QD l) l k.2.1 k.2.2.1 k.2.2.2 k.1) (λk=>k.1<=d.ps.n) (λk=>d.ps.n-k.1) (YY d E ac body rec l) 464 QS0 WB (λk=>mkE prog (jk QK d l.length k.1)) (λk=>QED prog QK d E ac body (QD l) l k.2.1 k.2.2.1 k.2.2.2 k.1 (QCk d E ac body rec l k.1 k.2)) (QI f103 0):=by
 refine⟨λk g0 hk=>?_⟩;obtain⟨p,many,f,g⟩:=k;have hk:p<=d.ps.n:=hk;have wp:p<d.ps.n->i64.wrap ((p:Int)+1)=((p+1:Nat):Int):=λh=>Vo h hn;have step:=λh:p<d.ps.n=>jF (f:=K3 d E rec l) h (many,f,g)
 have next:p<d.ps.n->∀{s2:SoS},K3 d E rec l (many,f,g) p = .go s2->∀ e J,YY d E ac body rec l (p+1,s2) e J->YY d E ac body rec l (p,many,f,g) e J:=by
  intro h s2 he e J hr;unfold YY at hr ⊢;simp only at hr ⊢;rw[step h,he];exact hr
 have stop:p<d.ps.n->∀{s2:SoS},K3 d E rec l (many,f,g) p = .stop s2->YY d E ac body rec l (p,many,f,g) .ret (soF d E ac body (QD l) l s2.1 s2.2.1 s2.2.2):=by
  intro h s2 he;unfold YY;simp only[step h,he,and_self]
 have last:d.ps.n<=p->YY d E ac body rec l (p,many,f,g) (.exit 0) (Hz d E ac body (QD l) l many f g):=by
  intro h;unfold YY;simp only[W9 h,and_self]
 have hpz:Q6 l p=false->K3 d E rec l (many,f,g) p=inZ d E rec l p (many,f,g):=λh=>by unfold K3;rw[h];rfl
 have hpu:Q6 l p=true->K3 d E rec l (many,f,g) p = .go (many,f,g):=λh=>by unfold K3;rw[h];rfl
 unfold QCk;simp only;cases hr:inZ d E rec l p (many,f,g)with
 | go s'=>
  obtain⟨many',f',g'⟩:=s';simp only[Qi.isGo,Qi.s,Bool.true_eq_false,Bool.false_eq_true];have et:=QRE QK d E ac body (QD l) (QD l) l many f g p True False many' f' g' g0;refine Qh et ?_;clear et;refine QE (λb0=>?_) (λb0=>?_);have h:p<d.ps.n:=by have:=qdt b0;omega
  have hw:=wp h
  iterate 2 (refine QG ?_ ?_;rotate_left)
  refine QE (λb1=>?_) (λb1=>?_);have hub:Q6 l p=true:=XD.symm.trans b1;refine⟨(p+1,many,f,g),h,by show d.ps.n-(p+1)<d.ps.n-p;omega,next h (hpu hub),rfl,rfl,_,QT0 d E ac body (QD l) l many f g p (p+1),?_⟩
  rotate_left
  have hub:Q6 l p=false:=XD.symm.trans b1;have hu0:QD l p 0=0:=by unfold QD;rw[hub];rfl
  refine QG ?_ ?_;rotate_left
  iterate 132 refine Qt (by first|exact tv|exact⟨h,hu0⟩|with_reducible exact qRr|exact rfl) ?_
  refine Kq ?_ ?_;refine Qk λa0=>?_;refine Ql λg0=>?_;refine⟨(p+1,many',f',g'),h,by show d.ps.n-(p+1)<d.ps.n-p;omega,next h ((hpz hub).trans hr),rfl,rfl,_,QcR d E ac body (QD l) l p (p+1) many' f' g',?_⟩
  rotate_left
  refine Qk λa1=>?_;refine Ql λg1=>?_
  .exact a1.elim
  have h:d.ps.n<=p:=by have:=qdf b0;omega
  refine⟨_,last h,rfl,rfl,_,QVI d E ac body (QD l) l many f g,?_⟩
  rotate_left
  all_goals first|((with_reducible show _=true);(first|(refine KG.2 ?_;repeat' first|exact tv|with_reducible exact qRr|exact rfl|refine aI ?_ ?_)|(simp;omega)))|(repeat' first|with_reducible refine QM ?_ ?_|exact tv|with_reducible exact qRr|with_reducible exact hw|exact rfl|refine aI ?_ ?_)
 | stop s'=>
  obtain⟨many',f',g'⟩:=s';simp only[Qi.isGo,Qi.s,Bool.true_eq_false,Bool.false_eq_true];have et:=QRE QK d E ac body (QD l) (QD l) l many f g p False True many' f' g' g0;refine Qh et ?_;clear et;refine QE (λb0=>?_) (λb0=>?_);have h:p<d.ps.n:=by have:=qdt b0;omega
  have hw:=wp h
  iterate 2 (refine QG ?_ ?_;rotate_left)
  refine QE (λb1=>?_) (λb1=>?_);have hub:Q6 l p=true:=XD.symm.trans b1;refine⟨(p+1,many,f,g),h,by show d.ps.n-(p+1)<d.ps.n-p;omega,next h (hpu hub),rfl,rfl,_,QT0 d E ac body (QD l) l many f g p (p+1),?_⟩
  rotate_left
  have hub:Q6 l p=false:=XD.symm.trans b1;have hu0:QD l p 0=0:=by unfold QD;rw[hub];rfl
  refine QG ?_ ?_;rotate_left
  iterate 132 refine Qt (by first|exact tv|exact⟨h,hu0⟩|with_reducible exact qRr|exact rfl) ?_
  refine Kq ?_ ?_;refine Qk λa0=>?_;refine Ql λg0=>?_
  .exact a0.elim
  refine Qk λa1=>?_;refine Ql λg1=>?_;refine⟨_,stop h ((hpz hub).trans hr),rfl,rfl,_,Qg8 d E ac body (QD l) l many' f' g',?_⟩
  rotate_left
  have h:d.ps.n<=p:=by have:=qdf b0;omega
  refine⟨_,last h,rfl,rfl,_,QVI d E ac body (QD l) l many f g,?_⟩
  rotate_left
  all_goals first|((with_reducible show _=true);(first|(refine KG.2 ?_;repeat' first|exact tv|with_reducible exact qRr|exact rfl|refine aI ?_ ?_)|(simp;omega)))|(repeat' first|with_reducible refine QM ?_ ?_|exact tv|with_reducible exact qRr|with_reducible exact hw|exact rfl|refine aI ?_ ?_)
abbrev Va:Code:=(QQ f24 0).1
abbrev VW:Code:=(QQ f24 0).2
theorem QMJ(l:List Lay)(many:Int)(f g:List Lay)(many':Int)(f' g':List Lay):(VX d E ac body u l many f g many' f' g').Ok:=by
 refine⟨(by decide:424<=464),rfl,rfl,?_,rfl,λ_ _=>rfl,λnid h=>?_⟩
 .intro q hq;simp only[UC.po,VX,YV,rwY,rwU,List.mem_cons,List.not_mem_nil,or_false]at hq;rcases hq with rfl|rfl|rfl|rfl|rfl|rfl|rfl|rfl|rfl|rfl|rfl<;>refine⟨rfl,rfl,rfl,?_⟩<;>first|exact λ_=>rfl|exact λh=>absurd (show 464<424 from h) (by decide)|exact λh=>absurd (show 465<424 from h) (by decide)|exact λh=>absurd (show 466<424 from h) (by decide)|exact λh=>absurd (show 467<424 from h) (by decide)
 .have e0:=Km 424 464 0 nid (by decide)
  have e1:=Km 424 464 1 nid (by decide)
  have e2:=Km 424 464 2 nid (by decide)
  have e3:=Km 424 464 3 nid (by decide)
  simp only[UC.po,VX,YV,rwY,rwU,Gi,YO,KZ,Qg.val,List.cons_append,List.nil_append,List.map_cons,List.map_nil,Blk.mapId,AV.mapId,AV.mapIdL,Nat.add_zero]at e0 e1 e2 e3 ⊢;rw[e0,e1,e2,e3];rfl
theorem QU0(l:List Lay)(many:Int)(f g:List Lay)(many':Int)(f' g':List Lay):(Xq d E ac body u l many f g many' f' g').Ok:=by
 refine⟨(by decide:424<=464),rfl,rfl,?_,rfl,λ_ _=>rfl,λnid h=>?_⟩
 .intro q hq;simp only[UC.po,Xq,YV,rwY,rwU,List.mem_cons,List.not_mem_nil,or_false]at hq;rcases hq with rfl|rfl|rfl|rfl|rfl|rfl|rfl|rfl|rfl|rfl|rfl<;>refine⟨rfl,rfl,rfl,?_⟩<;>first|exact λ_=>rfl|exact λh=>absurd (show 464<424 from h) (by decide)|exact λh=>absurd (show 465<424 from h) (by decide)|exact λh=>absurd (show 466<424 from h) (by decide)|exact λh=>absurd (show 467<424 from h) (by decide)
 .have e0:=Km 424 464 0 nid (by decide)
  have e1:=Km 424 464 1 nid (by decide)
  have e2:=Km 424 464 2 nid (by decide)
  have e3:=Km 424 464 3 nid (by decide)
  simp only[UC.po,Xq,YV,rwY,rwU,Gi,YO,KZ,Qg.val,List.cons_append,List.nil_append,List.map_cons,List.map_nil,Blk.mapId,AV.mapId,AV.mapIdL,Nat.add_zero]at e0 e1 e2 e3 ⊢;rw[e0,e1,e2,e3];rfl
theorem QQb(T:Tab)(hT:Qf T)(G:Ctx)(hrd:G.rd=none):Q0 (mkE prog T) G (soN prog T) (Qn f103):=
 KO (body:=QI f103 0) (QP hT) hrd (by kernel_rfl) (λ_ _ _ _ _ _ _ h _ _=>h.elim)
set_option maxHeartbeats 1000000 in
theorem QcE(s:SoS)(hn:l.length=d.ps.n)(hpos:0<l.length)(hl:l.length<=1000):QS prog 103 (uFC (Ye d E Va VW l s (Zt l s))):=by
 obtain⟨many,f,g⟩:=s;have hT:Qf (QCC QK l):=Qm.add (QWK l hpos hl);have et:=Qhu QK d E (QD l) l many f g;have hlen:((l.length:Int)==(d.ps.n:Int))=true:=by rw[hn];simp
 unfold Zt;simp only;cases h100:i64.wrap (many+1)==100 with
 | true=>
  have h1:(i64.wrap (many+1)==1)=false:=by rw[beq_iff_eq.1 h100];rfl
  have h2:(i64.wrap (many+1)==2)=false:=by rw[beq_iff_eq.1 h100];rfl
  rw[h1,h2];simp only[cond_true,cond_false,Ye];refine K0 (E:=mkE prog (QCC QK l)) (QP hT) func103 (by kernel_rfl) (by kernel_rfl) (QU0 ..) (λG hG _=>QQb _ hT G hG) ⟨?_⟩
  refine Qh et ?_;clear et;refine QE (λb0=>?_) (λb0=>?_);refine QE ?_ ?_<;>intro b1
  .exact Bool.noConfusion (h1.symm.trans b1)
  refine QE ?_ ?_<;>intro b3
  .exact Bool.noConfusion (h2.symm.trans b3)
  refine QE (λb5=>?_) (λb5=>?_);refine⟨rfl,rfl,_,Qdz d E (QD l) l many f g _ f g,?_⟩
  rotate_left
  .exact Bool.noConfusion (h100.symm.trans b5)
  .exact Bool.noConfusion (hlen.symm.trans b0)
  all_goals (repeat' first|with_reducible refine QM ?_ ?_|exact tv|with_reducible exact qRr|exact rfl|refine aI ?_ ?_)
 | false=>
  simp only[cond_false,Ye];refine K0 (E:=mkE prog (QCC QK l)) (QP hT) func103 (by kernel_rfl) (by kernel_rfl) (QMJ ..) (λG hG _=>QQb _ hT G hG) ⟨?_⟩
  refine Qh et ?_;clear et;refine QE (λb0=>?_) (λb0=>?_);refine QE (λb1=>?_) (λb1=>?_);refine QG ?_ ?_;rotate_left;refine QE ?_ ?_<;>intro b2
  .exact Bool.noConfusion (h100.symm.trans b2)
  rw[b1];simp only[cond_true];refine⟨rfl,rfl,_,QeX d E (QD l) l many f g _ l g,?_⟩
  rotate_left
  refine QE (λb3=>?_) (λb3=>?_);refine QG ?_ ?_;rotate_left;refine QE ?_ ?_<;>intro b4
  .exact Bool.noConfusion (h100.symm.trans b4)
  rw[b1,b3];simp only[cond_true,cond_false];refine⟨rfl,rfl,_,Qfa d E (QD l) l many f g _ f l,?_⟩
  rotate_left
  refine QE ?_ ?_<;>intro b5
  .exact Bool.noConfusion (h100.symm.trans b5)
  rw[b1,b3];simp only[cond_false];refine⟨rfl,rfl,_,Qg3 d E (QD l) l many f g _ f g,?_⟩
  rotate_left
  .exact Bool.noConfusion (hlen.symm.trans b0)
  all_goals first|((with_reducible show _=true);((refine KG.2 ?_;repeat' first|exact tv|with_reducible exact qRr|exact rfl|refine aI ?_ ?_)))|(repeat' first|with_reducible refine QM ?_ ?_|exact tv|with_reducible exact qRr|exact rfl|refine aI ?_ ?_)
theorem QPV{d:Puz}{E:ECt}{ac body:Code}{rec:List Lay->SoS->Qi SoS}{l:List Lay}(hd:Kb d)(hE:WfE E)(hl:l.length<=1000)(hL:∀ y∈l,KJ d y)(s:SoS)(IH:∀ p,p<d.ps.n->QFM d E ac body rec l p){X:List (Prop×Ex×JSt)}(hX:∀ e J,YY d E ac body rec l (0,s) e J->∃ y∈X,y.1/\y.2.1=e/\y.2.2=J)(G:Ctx)(hrd:G.rd=none)(hG:G.n=464):
  Q0 (mkE prog QV) G (soX prog (G5 d E ac body (QD l) l s.1 s.2.1 s.2.2 0) X) (Qn f103):=by
 refine KO (body:=QI f103 0) (QP Qm) hrd (by kernel_rfl) ?_
 have hEnv:∀ k:Nat×SoS,(mkE prog (jk QK d l.length k.1)).Sound:=λk=>QP (Qm.add (Yf d l.length k.1));refine JG (E0:=mkE prog QV) (E:=λk:Nat×SoS=>mkE prog (jk QK d l.length k.1)) (H:=λk=>QED prog QK d E ac body (QD l) l k.2.1 k.2.2.1 k.2.2.2 k.1 (QCk d E ac body rec l k.1 k.2)) (n0:=464) (s0:=(0,s)) (λ_=>rfl) hEnv (by omega) (λk _=>QfM hd hE hl hL k.1 k.2 (IH k.1) G hrd (by omega)) (λk _=>(by decide:464<=504)) ?_ (QZj d E ac body rec l hd.n) (Nat.zero_le _) hX
 intro k e J hr;unfold YY at hr;split at hr<;>(rw[hr.2];exact(by decide:464<=504))
set_option maxHeartbeats 1000000 in
theorem Qcs{d:Puz}{E:ECt}(hd:Kb d)(hE:WfE E){k:Nat}{l:List Lay}(hk:l.length+(k+1)=d.ps.n)(hL:∀ y∈l,KJ d y)(IH:∀ p,p<d.ps.n->QFM d E Va VW (onZ d E k) l p)(s:SoS):QS prog 103 (uFC (Ye d E Va VW l s (onZ d E (k+1) l s))):=by
 have hdn:=hd.n;have hr0:onZ d E (k+1) l s=KC (K3 d E (onZ d E k) l) (List.range d.ps.n) s:=rfl;rw[hr0];have hne:((l.length:Int)==(d.ps.n:Int))=false:=by rw[beq_eq_false_iff_ne];omega
 obtain⟨many,f,g⟩:=s;cases hc:KC (K3 d E (onZ d E k) l) (List.range d.ps.n) (many,f,g)with
 | go s'=>
  obtain⟨many',f',g'⟩:=s';simp only[Ye];have et:=QPH d E (QD l) (QD l) l many f g True False many' f' g';refine K0 (E:=mkE prog QV) (QP Qm) func103 (by kernel_rfl) (by kernel_rfl) (QMJ ..) (QPV hd hE (by omega) hL (many,f,g) IH (X:=[(True,.exit 0,Hz d E Va VW (QD l) l many' f' g'),(False,.ret,soF d E Va VW (QD l) l many' f' g')]) ?_) ⟨?_⟩
  .intro e J hr;unfold YY at hr;simp only[List.drop_zero,hc]at hr;exact⟨_,qmc,trivial,hr.1.symm,hr.2.symm⟩
  refine Qh et ?_;clear et;refine QE ?_ ?_<;>intro b0
  .exact Bool.noConfusion (hne.symm.trans b0)
  iterate 128 refine Qt (by first|exact tv|with_reducible exact qRr|exact rfl) ?_
  refine Kq ?_ ?_;refine Qk λa0=>?_;refine Ql λg0=>?_;refine⟨rfl,rfl,_,Qd0 d E (QD l) (QD l) l many f g many' f' g',?_⟩
  rotate_left
  refine Qk λa1=>?_;refine Ql λg1=>?_
  .exact a1.elim
  all_goals (repeat' first|with_reducible refine QM ?_ ?_|exact tv|with_reducible exact qRr|exact rfl|refine aI ?_ ?_)
 | stop s'=>
  obtain⟨many',f',g'⟩:=s';simp only[Ye];have et:=QPH d E (QD l) (QD l) l many f g False True many' f' g';refine K0 (E:=mkE prog QV) (QP Qm) func103 (by kernel_rfl) (by kernel_rfl) (QU0 ..) (QPV hd hE (by omega) hL (many,f,g) IH (X:=[(False,.exit 0,Hz d E Va VW (QD l) l many' f' g'),(True,.ret,soF d E Va VW (QD l) l many' f' g')]) ?_) ⟨?_⟩
  .intro e J hr;unfold YY at hr;simp only[List.drop_zero,hc]at hr;exact⟨_,List.mem_cons_of_mem _ qmc,trivial,hr.1.symm,hr.2.symm⟩
  refine Qh et ?_;clear et;refine QE ?_ ?_<;>intro b0
  .exact Bool.noConfusion (hne.symm.trans b0)
  iterate 128 refine Qt (by first|exact tv|with_reducible exact qRr|exact rfl) ?_
  refine Kq ?_ ?_;refine Qk λa0=>?_;refine Ql λg0=>?_
  .exact a0.elim
  refine Qk λa1=>?_;refine Ql λg1=>?_;refine⟨rfl,rfl,_,Qf7 d E (QD l) (QD l) l many f g many' f' g',?_⟩
  rotate_left
  all_goals (repeat' first|with_reducible refine QM ?_ ?_|exact tv|with_reducible exact qRr|exact rfl|refine aI ?_ ?_)
theorem QEa{d:Puz}{l:List Lay}{p t:Nat}(hp:p<d.ps.n)(ht:t<Qe d p)(hL:∀ y∈l,KJ d y):∀ y∈l++[(⟨p,t⟩:Lay)],KJ d y:=by
 intro y hy;rcases List.mem_append.1 hy with q|q
 .exact hL y q
 .have h4:=(Yr d p).2;rw[List.mem_singleton.1 q];exact⟨⟨by show(0:Int)<=p;omega,by show(p:Int)<_;omega⟩,by show(0:Int)<=t;omega,by show(t:Int)<=3;omega⟩
theorem Qaa{d:Puz}{E:ECt}(hn:d.ps.n<=1000)(hpos:0<d.ps.n)(l:List Lay)(s:SoS)(hk:l.length=d.ps.n):QS prog 103 (uFC (Ye d E Va VW l s (onZ d E 0 l s))):=by
 have h0:onZ d E 0 l s=Zt l s:=rfl;have h1:0<l.length:=by rw[hk];exact hpos
 have h2:l.length<=1000:=by rw[hk];exact hn
 rw[h0];exact QcE d E l s hk h1 h2
theorem QC6(x:Lay){k n:Nat}(h:l.length+(k+1)=n):(l++[x]).length+k=n:=by
 rw[List.length_append,List.length_singleton];omega
theorem QgU{d:Puz}{E:ECt}(hd:Kb d)(hE:WfE E)(hpos:0<d.ps.n)(k:Nat):∀(l:List Lay) (s:SoS),l.length+k=d.ps.n->(∀ y∈l,KJ d y)->QS prog 103 (uFC (Ye d E Va VW l s (onZ d E k l s))):=by
 induction k with
 | zero=>exact λl s hk _=>Qaa hd.n hpos l s hk
 | succ k ih=>
  intro l s hk hL;refine Qcs hd hE hk hL ?_ s;intro p hp t ht s;exact ih _ s (QC6 l _ hk) (QEa hp ht hL)
def Xw(pb:List Prop->Bool)(d:Puz)(E:ECt)(U:UC):Tab:=Qc (Qc QV 60 (KT pb (nbU d E))) 103 (KT pb U)
def QAk(m e:Int):AV := .tup [.slz 0 0 f.length (.of 0),.slz 1 0 g.length (.of 0),.int false .i64 m,.int false .i64 e]
def zO:List (Nat×Blk):=[rwY 0 f,rwY 1 g]
abbrev QM7:List Prop:=(waa d++([cO=cO]++wad d))
abbrev QOm(d:Puz)(u:Nat->Nat->Int):List Prop:=((wbN)++waa d++(([cO=cO,0=0,E.1=E.1,E.2=E.2,0=0]++wbo d++[QB 1 d.ps.n (λx x_1=>(0:Int)) u])++wai++([Array.mk [18]=Array.mk [18]]++wbF))++waa d++([cO=cO]++wci)++waa d++((wcf)++wa6++(([0=0,0=0]++wcg++[(0:Int)=0,0=0,0=0,0=0,0=0,Fn.func 103=Fn.func 103])++wbN++[0=0,0=0]))++waa d++([cO=cO]++wad d))
abbrev QTY:List (Nat×Blk):=[(449,.rowz true 49 kB f'.length λi=>QA.enc (f'.getD i (Lay.mk (0:Int) (0:Int)))),(450,.rowz true 49 kB g'.length λi=> QA.enc (g'.getD i (Lay.mk (0:Int) (0:Int))))]
theorem QPN(pb:List Prop->Bool)(d:Puz)(E:ECt)(u:Nat->Nat->Int)(many':Int)(f' g':List Lay):Kg (mkE prog (Xw pb d E (VX d E (QQ f24 0).1 (QQ f24 0).2 u [] 0 [] [] many' f' g'))) (hnd (mkE prog (Xw pb d E (VX d E (QQ f24 0).1 (QQ f24 0).2 u [] 0 [] [] many' f' g'))) 8) f24 (QZ.vals 0 ((d,()):Puz×Unit)) (QZ.blks 0 ((d,()):Puz×Unit)) 96 = .need (decide (d.ps.n<=d.ps.n)&&true&&decide (d.ps.n<=1000)) (.br (!d.ok) (.leaf (.tup [.nils,.nils,vj 0,vj 1]) ([])) (.need (pb ((QM7 d))) (.need (decide ((d.ps.n:Int)=(d.ps.n:Int))&&decide ((0:Int)<=(d.ps.n:Int)/\(d.ps.n:Int)<=17179869184)) (.need (pb ((QOm E d u))) (.br (many'==0) (.leaf (.tup [.nils,.nils,vj 0, vj 4]) ([])) (.leaf (.tup [.slz 449 0 f'.length cO,.slz 450 0 g'.length cO,vi many',vj 0]) ((QTY f' g')))))))):=by kernel_rfl
theorem QjS(pb:List Prop->Bool)(d:Puz)(E:ECt)(u:Nat->Nat->Int)(many':Int)(f' g':List Lay):Kg (mkE prog (Xw pb d E (Xq d E (QQ f24 0).1 (QQ f24 0).2 u [] 0 [] [] many' f' g'))) (hnd (mkE prog (Xw pb d E (Xq d E (QQ f24 0).1 (QQ f24 0).2 u [] 0 [] [] many' f' g'))) 8) f24 (QZ.vals 0 ((d,()):Puz×Unit)) (QZ.blks 0 ((d,()):Puz×Unit)) 96 = .need (decide (d.ps.n<=d.ps.n)&&true&&decide (d.ps.n<=1000)) (.br (!d.ok) (.leaf (.tup [.nils,.nils,vj 0,vj 1]) ([])) (.need (pb ((QM7 d))) (.need (decide ((d.ps.n:Int)=(d.ps.n:Int))&&decide ((0:Int)<=(d.ps.n:Int)/\(d.ps.n:Int)<=17179869184)) (.need (pb ((QOm E d u))) (.br (many'==0) (.leaf (.tup [.nils,.nils,vj 0, vj 4]) ([])) (.leaf (.tup [.slz 449 0 f'.length cO,.slz 450 0 g'.length cO,vi many',vj 0]) ((QTY f' g')))))))):=by kernel_rfl
theorem QlU(m e':Int):QF 96 [(AV.tup [AV.nils,AV.nils,vj (0:Int),vj (1:Int)])] ([]) (Kk 96 (QAk f g m e') (zO f g))=( some [f.length=(0:Nat),g.length=(0:Nat),(0:Int)=m,(1:Int)=e',f.length=(0:Nat),g.length=(0:Nat)]):=by kernel_rfl
theorem Qag(m e':Int):QF 96 [(AV.tup [AV.nils,AV.nils,vj (0:Int),vj (4:Int)])] ([]) (Kk 96 (QAk f g m e') (zO f g))=( some [f.length=(0:Nat),g.length=(0:Nat),(0:Int)=m,(4:Int)=e',f.length=(0:Nat),g.length=(0:Nat)]):=by kernel_rfl
abbrev wbi(f:List Lay)(f':List Lay)(g:List Lay)(g':List Lay):List Prop:=[f.length<=f'.length,QB (2:Nat) f.length (λi=>QA.enc (f'.getD i (Lay.mk (0:Int) (0:Int)))) λi=>QA.enc (f.getD i (Lay.mk (0:Int) (0:Int))),g.length<=g'.length,QB (2:Nat) g.length (λi=>QA.enc (g'.getD i (Lay.mk (0:Int) (0:Int)))) λi=>QA.enc (g.getD i (Lay.mk (0:Int) (0:Int)))]
theorem Qca(f' g' f g:List Lay)(m e':Int):QF 96 [(AV.tup [AV.slz (449:Nat) (0:Nat) f'.length cO,AV.slz (450:Nat) (0:Nat) g'.length cO,vi many',vj (0:Int)])] ([((449:Nat),Blk.rowz true (49:Nat) [CK.int i64,CK.int i64] f'.length λi=>QA.enc (f'.getD i (Lay.mk (0:Int) (0:Int)))),((450:Nat),Blk.rowz true (49:Nat) [CK.int i64,CK.int i64] g'.length λi=>QA.enc (g'.getD i (Lay.mk (0:Int) (0:Int))))]) (Kk 96 (QAk f g m e') (zO f g))=( some ([0=0,f'.length=f.length,cO=cO,0=0,g'.length=g.length,cO=cO,many'=m,(0:Int)=e']++wbi f f' g g')):=by kernel_rfl
theorem Qe6(m e':Int):QF 96 [(AV.tup [AV.nils,AV.nils,vj (0:Int),vj (4:Int)])] ([]) (Kk 96 (QAk f g m e') (zO f g))=( some [f.length=(0:Nat),g.length=(0:Nat),(0:Int)=m,(4:Int)=e',f.length=(0:Nat),g.length=(0:Nat)]):=by kernel_rfl
theorem Qa7(f' g' f g:List Lay)(m e':Int):QF 96 [(AV.tup [AV.slz (449:Nat) (0:Nat) f'.length cO,AV.slz (450:Nat) (0:Nat) g'.length cO,vi many',vj (0:Int)])] ([((449:Nat),Blk.rowz true (49:Nat) [CK.int i64,CK.int i64] f'.length λi=>QA.enc (f'.getD i (Lay.mk (0:Int) (0:Int)))),((450:Nat),Blk.rowz true (49:Nat) [CK.int i64,CK.int i64] g'.length λi=>QA.enc (g'.getD i (Lay.mk (0:Int) (0:Int))))]) (Kk 96 (QAk f g m e') (zO f g))=( some ([0=0,f'.length=f.length,cO=cO,0=0,g'.length=g.length,cO=cO,many'=m,(0:Int)=e']++wbi f f' g g')):=by kernel_rfl
theorem JW{d:Puz}(h:d.okN=true):Kb d/\0<d.ps.n/\d.ps.n<=9:=by
 simp only[Puz.okN,Q1,qbA,qdE,beq_iff_eq]at h;obtain⟨⟨h1,h2⟩,⟨h3,h4⟩,⟨h5,h6⟩,h7⟩:=h;have hm:d.wide*d.high<=9*9:=Int.mul_le_mul (by omega) (by omega) (by omega) (by omega)
 have hm0:0<=d.wide*d.high:=Int.mul_nonneg (by omega) (by omega)
 rw[w64 (by omega) (by omega)]at h7
 exact⟨⟨by omega,h3,h4,h5,h6,h7⟩,by omega,by omega⟩
theorem JU{d:Puz}(h:d.ok=true):d.okN=true:=by
 rw[Puz.ok,qbA]at h;exact h.1
def QO:List Lay×List Lay×Int×Int:=cond d.ok
 (match onZ d (QH d) d.ps.n [] (0,[],[])with
  | .go s | .stop s=>cond (s.1==0) ([],[],0,4) (s.2.1,s.2.2,s.1,0))
 ([],[],0,1)
def Xx:WF (Puz×Unit):=λ|(d,_)=>(decide (d.ps.n<=1000),QAk (QO d).1 (QO d).2.1 (QO d).2.2.1 (QO d).2.2.2,zO (QO d).1 (QO d).2.1)
def QBb:FC:=wFC Xx
theorem QKo:WOk (Xx (d,())).2.1 (Xx (d,())).2.2:=⟨rfl,by simp[Xx,zO,rwY,Blk.own,Blk.all],rfl⟩
theorem Qjk(hn:d.ps.n<=1000)(hx:d.ok=false):QS prog 24 (wFC (Vl Xx (d,()))):=by
 have hT:Qf (Xw (λ_=>false) d (QH d) (VX d (QH d) Va VW (QD []) [] 0 [] [] 0 [] [])):=(Qm.add (Jx (by kernel_rfl) _)).add (Jx (by kernel_rfl) _)
 have hv:QO d=([],[],0,1):=by simp only[QO,hx,cond_false]
 refine ZX (c:=Qn f24) (E:=mkE prog (Xw (λ_=>false) d (QH d) (VX d (QH d) Va VW (QD []) [] 0 [] [] 0 [] []))) (H:=hnd (mkE prog (Xw (λ_=>false) d (QH d) (VX d (QH d) Va VW (QD []) [] 0 [] [] 0 [] []))) 8) (QP hT) func24 (by kernel_rfl) (by kernel_rfl) (N:=96) (by decide) (d,()) (λG h1 _=>Qz (QP hT) 8 G _ h1) (QKo d) ?_
 refine Qh (QPN (λ_=>false) d (QH d) (QD []) 0 [] []) ?_;refine QG (by simp;omega) (QE (λ_=>?_) (λh=>by rw[hx]at h;cases h))
 simp only[Xx,hv];refine⟨rfl,rfl,_,QlU [] [] 0 1,?_⟩
 repeat' first|with_reducible refine QM ?_ ?_|exact tv|with_reducible exact qRr|exact rfl|refine aI ?_ ?_
theorem Qah(hx:d.ok=true):QS prog 24 (wFC (Vl Xx (d,()))):=by
 obtain⟨hd,hpos,h9⟩:=JW (JU hx);have hon:=QgU hd (qH d hd.n).w hpos d.ps.n [] (0,[],[]) (by simp) (λc hc=>by cases hc)
 have hdn:=hd.n;have hz:∀ k,QB 1 k (λ_ _=>0) (QD []):=λk i _=>⟨rfl,trivial⟩;cases he:onZ d (QH d) d.ps.n [] (0,[],[])with
 | go s=>
  rw[he]at hon;have hT:Qf (Xw QK d (QH d) (VX d (QH d) Va VW (QD []) [] 0 [] [] s.1 s.2.1 s.2.2)):=(Qm.add (qC d (by omega))).add hon
  have hv:QO d=cond (s.1==0) ([],[],0,4) (s.2.1,s.2.2,s.1,0):=by
   simp only[QO,hx,he,cond_true]
  refine ZX (c:=Qn f24) (E:=mkE prog (Xw QK d (QH d) (VX d (QH d) Va VW (QD []) [] 0 [] [] s.1 s.2.1 s.2.2))) (H:=hnd (mkE prog (Xw QK d (QH d) (VX d (QH d) Va VW (QD []) [] 0 [] [] s.1 s.2.1 s.2.2))) 8) (QP hT) func24 (by kernel_rfl) (by kernel_rfl) (N:=96) (by decide) (d,()) (λG h1 _=>Qz (QP hT) 8 G _ h1) (QKo d) ?_
  have et:=QPN QK d (QH d) (QD []) s.1 s.2.1 s.2.2;refine Qh et ?_;clear et;refine QG ?_ ?_;rotate_left;refine QE ?_ ?_<;>intro b0
  .rw[hx]at b0;cases b0
  iterate 3 (refine QG ?_ ?_;rotate_left)
  refine QE (λb1=>?_) (λb1=>?_);simp only[Xx,hv,show(s.1==0)=true from b1,cond_true];refine⟨rfl,rfl,_,Qag [] [] 0 4,?_⟩
  rotate_left
  simp only[Xx,hv,show(s.1==0)=false from b1,cond_false];refine⟨rfl,rfl,_,Qca s.1 s.2.1 s.2.2 s.2.1 s.2.2 s.1 0,?_⟩
  rotate_left
  all_goals first|((with_reducible show _=true);(first|(refine KG.2 ?_;repeat' first|with_reducible refine QM ?_ ?_|exact tv|with_reducible exact qRr|with_reducible exact hz _|exact rfl|refine aI ?_ ?_)|(simp;omega)))|(repeat' first|with_reducible refine QM ?_ ?_|exact tv|with_reducible exact qRr|exact rfl|refine aI ?_ ?_)
 | stop s=>
  rw[he]at hon;have hT:Qf (Xw QK d (QH d) (Xq d (QH d) Va VW (QD []) [] 0 [] [] s.1 s.2.1 s.2.2)):=(Qm.add (qC d (by omega))).add hon
  have hv:QO d=cond (s.1==0) ([],[],0,4) (s.2.1,s.2.2,s.1,0):=by
   simp only[QO,hx,he,cond_true]
  refine ZX (c:=Qn f24) (E:=mkE prog (Xw QK d (QH d) (Xq d (QH d) Va VW (QD []) [] 0 [] [] s.1 s.2.1 s.2.2))) (H:=hnd (mkE prog (Xw QK d (QH d) (Xq d (QH d) Va VW (QD []) [] 0 [] [] s.1 s.2.1 s.2.2))) 8) (QP hT) func24 (by kernel_rfl) (by kernel_rfl) (N:=96) (by decide) (d,()) (λG h1 _=>Qz (QP hT) 8 G _ h1) (QKo d) ?_
  have et:=QjS QK d (QH d) (QD []) s.1 s.2.1 s.2.2;refine Qh et ?_;clear et;refine QG ?_ ?_;rotate_left;refine QE ?_ ?_<;>intro b0
  .rw[hx]at b0;cases b0
  iterate 3 (refine QG ?_ ?_;rotate_left)
  refine QE (λb1=>?_) (λb1=>?_);simp only[Xx,hv,show(s.1==0)=true from b1,cond_true];refine⟨rfl,rfl,_,Qe6 [] [] 0 4,?_⟩
  rotate_left
  simp only[Xx,hv,show(s.1==0)=false from b1,cond_false];refine⟨rfl,rfl,_,Qa7 s.1 s.2.1 s.2.2 s.2.1 s.2.2 s.1 0,?_⟩
  rotate_left
  all_goals first|((with_reducible show _=true);(first|(refine KG.2 ?_;repeat' first|with_reducible refine QM ?_ ?_|exact tv|with_reducible exact qRr|with_reducible exact hz _|exact rfl|refine aI ?_ ?_)|(simp;omega)))|(repeat' first|with_reducible refine QM ?_ ?_|exact tv|with_reducible exact qRr|exact rfl|refine aI ?_ ?_)
theorem QY4(hx:(Xx (d,())).1=true):QS prog 24 (wFC (Vl Xx (d,()))):=by
 have hn:d.ps.n<=1000:=qdt hx;cases ho:d.ok with
 | false=>exact Qjk d hn ho
 | true=>exact Qah d ho
theorem QDE:QS prog 24 QBb:=QCx (by kernel_rfl) λ|(d,()),hx=>QY4 d hx
def haT:List AV:=[.ptr 200 0 0,(.slz 216 0 K.n C),.tup [],.tup [],.ptr 232 0 0,.ptr 200 0 0,(.slz 216 0 K.n C),.fn (.func 102) [.ptr 256 0 0,.ptr 264 0 0],.tup []]
def QKc:List AV:=[.ptr 256 0 0,.ptr 304 0 0,.ptr 368 0 0,.ptr 264 0 0,.ptr 384 0 0]
def haR:List (Nat×Blk):=
 [(384,.cellsR 0 31 [.fn (.func 103) QKc]),(304,.cellsR 0 105 [.yld 297]),(264,.cellsR 0 96 [(.slz 216 0 K.n C)]),(256,.cellsR 0 90 [.ptr 200 0 0])]++Qg.blk 216 K++Qg.blk 0 d.ps
def haW(ls:LoopState)(pe:Option Code)(v:Bool)(d:Puz)(E:ECt)(C:Cap)(K:Rw Pt)(ac body:Code)(u:Nat->Nat->Int)(l:List Lay)(a w:Nat):List (Nat×Blk):=
 [(200,.cells 0 152 (KZ d++[.map 201,.slz a 0 l.length (.of 0)])),(201,.mp E.1 E.2),rwY a l,(368,.cells 0 114 [.slz w 0 d.ps.n (.of 0)]),rwU w d u,(297,.lp ls pe (haT C K) #[8] ac body),(232,.cells 0 4 [.bool true v])]
def haS:List (Nat×AV):=[(0,.ptr 256 0 0),(1,.ptr 304 0 0),(2,.ptr 368 0 0),(3,.ptr 264 0 0),(4,.ptr 384 0 0)]
def G4(l:List Lay):JSt:=⟨5,haS,haW .ready none false d E C K ac body u l 400 408++haR d C K,416⟩
def WA(_:List Lay)(_:Unit):Qi Unit := .stop ()
def haU(l:List Lay)  :UC:=
 ⟨392,G4 d E C K ac body u l,λ_=>.bool false true,λm=>haW .ready none false d E C K ac body u l m (m+1)⟩
def haV(l:List Lay)  :UC:=
 ⟨392,G4 d E C K ac body u l,λ_=>.bool false false,λm=>haW .done (some .ret) true d E C K ac body u l m (m+1)⟩
def WK:List Nat:=[200,201,368,297,232]
def QKp(n:Nat)(p:Nat):List (Nat×AV):=haS++[(33,.int false .i64 n),(34,.int false .i64 p)]
def QbZ(n:Nat)(p:Nat)(tn:Int)(t:Nat):List (Nat×AV):=QKp n p++[(6,.int false .i64 p),(43,.int false .i64 tn),(44,.int false .i64 t)]
def HM(l:List Lay)(p:Nat):JSt:=⟨101,QKp d.ps.n p,haW .ready none false d E C K ac body u l 424 432++haR d C K,440⟩
def vM(l:List Lay)(p:Nat)(tn:Int)(t:Nat):JSt:=⟨101,QbZ d.ps.n p tn t,haW .ready none false d E C K ac body u l 424 432++haR d C K,440⟩
def QAh(l:List Lay):JSt:=⟨101,[],haW .ready none false d E C K ac body u l 424 432,440⟩
def QCw(l:List Lay)(p:Nat):JSt:=⟨101,QKp d.ps.n p,haW .ready none false d E C K ac body u l 424 432++haR d C K,440⟩
def haF(l:List Lay):JSt:=⟨101,[(5,.bool false false)],haW .done (some .ret) true d E C K ac body u l 424 432,440⟩
def QUm:Ex->List Nat
 | .normal=>[0,1,2,3,4,33,34]
 | .exit _=>[]
 | .ret=>[5]
def QJ4:Ex->List Nat
 | .normal=>[0,1,2,3,4,33,34,6,43,44]
 | .exit _=>[0,1,2,3,4,33,34]
 | .ret=>[5]
def QBh(pb1 pb2:List Prop->Bool)(d:Puz)(E:ECt)(C:Cap)(K:Rw Pt)(l:List Lay)(x:Lay)(v:Bool)(U:UC):Tab:=Qc (Qc QV 105 (KT pb1 (myU d E l x v))) 103 (KT pb2 U)
abbrev waM:List AV:=[.ptr 256 0 0,.ptr 304 0 0,.ptr 368 0 0,.ptr 264 0 0,.ptr 384 0 0]
abbrev QAd(tn:Int):List AV:=(.nilp::.ptr 101 0 0::List.append (waM) ((vi (d.ps.n:Int)::wbJ p t tn)))
abbrev vG:Nat×Blk:=(256,.cellsR 0 90 [.ptr 200 0 0])
abbrev zV:Nat×Blk:=(264,.cellsR 0 96 [.slz 216 0 K.n C])
abbrev QDa:Nat×Blk:=(384,.cellsR 0 31 [.fn (Fn.func 103) (waM)])
abbrev zp:Nat×Blk:=(0,.frz (wae) d.ps.n λi=>QA.enc (d.ps.get i))
abbrev vu:Nat×Blk:=(216,.frz (waJ) K.n λi=>QA.enc (K.get i))
abbrev wbm(C:Cap)(K:Rw Pt)(ac:Code)(body:Code):List (Nat×Blk):=[(297,.lp LoopState.ready none (haT C K) (Array.mk [8]) ac body),(232,.cells 0 4 [.bool true false])]
abbrev Wk(E:ECt)(K:Rw Pt)(ac:Code)(body:Code)(d:Puz)(l:List Lay)(u:Nat->Nat->Int):List (Nat×Blk):=((200,.cells 0 152 (List.append (waf d) ([.map 201,.slz 424 0 l.length cO])))::(201,.mp E.1 E.2)::(368,.cells 0 114 [.slz 432 0 d.ps.n cO])::List.append (wbm C K ac body) ([vG,(304,.cellsR 0 105 [.yld 297]),(zV C K),QDa,(zp d),(424,.rowz true 49 kB l.length λi=>QA.enc (l.getD i (Lay.mk (0:Int) (0:Int)))),(432,.rowz true 4 [CK.bool] d.ps.n u),(vu K)]))
abbrev QPC(d:Puz)(l:List Lay)(p:Nat)(t:Nat):List Prop:=([0=0,0=0,(p:Int)=(p:Int),(t:Int)=(t:Int)]++waa d++(((wcd l)++wag l++[E.1=E.1,E.2=E.2])++wad d))
abbrev wav(l:List Lay)(l2:List Lay)(p:Nat)(t:Nat):List Prop:=[l2.length<=l.length+1,QB 2 l2.length (KQ l.length (λi=>QA.enc (l.getD i (Lay.mk (0:Int) (0:Int)))) (KD [[.int false .i64 (p:Int),vi (t:Int)]] 0)) λi=>QA.enc (l2.getD i (Lay.mk (0:Int) (0:Int)))]
abbrev wa5(K:Rw Pt):List Prop:=[K.n<=K.n,QB 3 K.n (λi=>QA.enc (K.get i)) λi=>QA.enc (K.get i)]
abbrev QVx(E:ECt)(K:Rw Pt)(ac:Code)(body:Code)(d:Puz)(l:List Lay)(l2:List Lay)(p:Nat)(t:Nat)(u:Nat->Nat->Int)(u2:Nat->Nat->Int):List Prop:=((wbN)++waa d++((([cO=cO,0=0,l.length+1=l2.length,cO=cO,E.1=E.1,E.2=E.2]++wav l l2 p t++(wbo d++[QB 1 d.ps.n (λi=>bif decide (i=p)then Ki [.bool true true] 0 (u ((p:Int).toNat+0))else u i) u2]))++wai++((([Array.mk [8]=Array.mk [8],ac=ac,body=body,0=0,0=0,0=0,K.n=K.n,C=C,0=0,0=0,0=0,0=0,0=0,K.n=K.n,C=C]++wcg++[false=false,Fn.func 103=Fn.func 103])++wbN++[0=0,K.n=K.n,C=C,0=0,0=0])++wa5 K))++wad d))
abbrev GW:Nat×Blk:=(200,.cells 0 152 (List.append (waf d) ([.map 201,.slz 752 0 (i64.wrap ((l2.length:Int)-1)).toNat cO])))
abbrev GN:Nat×Blk:=(368,.cells 0 114 [.slz 753 0 d.ps.n cO])
abbrev QAj:Nat×Blk:=(752,.rowz true 49 kB l2.length λi=>QA.enc (l2.getD i (Lay.mk (0:Int) (0:Int))))
abbrev Hj:Nat×Blk:=(753,.rowz true 4 [CK.bool] d.ps.n λi=>bif decide (i=p)then Ki [.bool true false] 0 (u2 ((p:Int).toNat+0))else u2 i)
abbrev QSp:List AV:=(.ptr 2 0 0::.ptr 101 0 0::List.append (waM) ([vi (d.ps.n:Int),vi (p:Int)]))
theorem Qea(pb1 pb2:List Prop->Bool)(d:Puz)(E:ECt)(C:Cap)(K:Rw Pt)(ac body:Code)(u u2:Nat->Nat->Int)(l l2:List Lay)(v:Bool)(p:Nat)(tn:Int)(t:Nat)(g0:Nat->Value):exec (mkE prog (QBh pb1 pb2 d E C K l ⟨p,t⟩ v (haU d E C K ac body u2 l2))) (hnd (mkE prog (QBh pb1 pb2 d E C K l ⟨p,t⟩ v (haU d E C K ac body u2 l2))) 0) (QW (QI f103 0)) (JSt.inst (vM d E C K ac body u l p tn t) g0) (Q5 WK QJ4) = .br (decide ((t:Int)<tn)) (.need (decide (K.n<=K.n)&&(true&&(true&&true))&&decide (K.n<=1000)) (.br (!Qj K (l.length:Int) (Lay.mk (p:Int) (t:Int))) (.leaf (.tup (QAd d p t tn)) ((Wk C E K ac body d l u))) (.need (pb1 ((QPC E d l p t))) (.br (!v) (.leaf (.tup (QAd d p t tn)) ((Wk C E K ac body d l u))) (.need (decide ((0:Int)<=(p:Int)/\(p:Int)<(d.ps.n:Int))&&decide (d.ps.n<=d.ps.n)) (.need (decide (p<d.ps.n)) (.need (decide (l.length<=l.length)&&(true&&decide ((l.length+1+(l.length+1) / 4+192)*16<=281474976710656/\l.length+1<=9223372036854775807))) (.need (pb2 ((QVx C E K ac body d l l2 p t u u2))) (.need (decide ((0:Int)<=i64.wrap ((l2.length:Int)-1)/\(i64.wrap ((l2.length:Int)-1)).toNat<=l2.length-0)) (.need (decide ((0:Int)<=(p:Int)/\(p:Int)<(d.ps.n:Int))&&decide (d.ps.n<=d.ps.n)) (.need (decide (p<d.ps.n)) (.br (false) (.leaf (.tup (wbR)) (((GW d l2)::(201,.mp E.1 E.2)::(GN d)::List.append (wbm C K ac body) ([(zp d),(QAj l2),(Hj d p u2),(vu K),vG,(zV C K)])))) (.leaf (.tup (QAd d p t tn)) (((GW d l2)::(201,.mp E.1 E.2)::(GN d)::List.append (wbm C K ac body) ([vG,(304,.cellsR 0 105 [.yld 297]),(zV C K),QDa,(zp d),(QAj l2),(Hj d p u2),(vu K)])))))))))))))))) (.leaf (.tup (QSp d p)) ((Wk C E K ac body d l u))):=by kernel_rfl
abbrev QIo(tn:Int):List AV:=(List.append (waM) ((vi (d.ps.n:Int)::wbT p t tn)))
abbrev wbh(C:Cap)(K:Rw Pt):List Prop:=[K.n=K.n,C=C,Fn.func (102:FuncId)=Fn.func (102:FuncId)]
abbrev QNU(E:ECt)(K:Rw Pt)(ac:Code)(body:Code)(d:Puz)(l:List Lay)(p:Nat)(t:Nat)(t':Nat)(tn:Int)(u:Nat->Nat->Int):List Prop:=(((wbN)++waH d p++[tn=tn,i64.wrap ((t:Int)+1)=(t':Int)])++waa d++((([cO=cO,0=0]++wb4 E l)++wag l++((wbo d++[QB 1 d.ps.n u u])++wai++(([Array.mk [8]=Array.mk [(8:Tmp)],ac=ac,body=body,0=0,0=0,0=0,K.n=K.n,C=C,0=0,0=0,0=0,0=0,0=0]++wbh C K++([0=0,0=0,0=0,0=0,false=false,Fn.func 103=Fn.func (103:FuncId)]++wbN++[0=0,K.n=K.n,C=C,0=0,0=0]))++wa5 K)))++wad d))
theorem QOZ(l:List Lay)(p:Nat)(tn:Int)(t t':Nat):QF 416 (QIo d p t tn) ((Wk C E K ac body d l u)) (vM d E C K ac body u l p tn t')=(some (QNU C E K ac body d l p t t' tn u)):=by kernel_rfl
theorem QVM(l:List Lay)(p:Nat)(tn:Int)(t t':Nat):QF 416 (QIo d p t tn) ((Wk C E K ac body d l u)) (vM d E C K ac body u l p tn t')=(some (QNU C E K ac body d l p t t' tn u)):=by kernel_rfl
abbrev XY:List Prop:=[0=0,0=0,0=0,0=0]
abbrev QOA(d:Puz)(l:List Lay)(l2:List Lay)(p:Nat)(u2:Nat->Nat->Int)(u3:Nat->Nat->Int):List Prop:=([d.pK.dK.lo=d.pK.dK.lo,d.pK.dK.hi=d.pK.dK.hi,d.wide=d.wide,d.high=d.high,d.turn=d.turn,0=0,d.ps.n=d.ps.n,cO=cO,0=0,(i64.wrap ((l2.length:Int)-1)).toNat=l.length,cO=cO]++waP E l l2++(wbo d++[QB 1 d.ps.n (λi=>bif decide (i=p)then Ki [.bool true false] 0 (u2 ((p:Int).toNat+0))else u2 i) u3]))
abbrev QHL:List Prop:=[Array.mk [8]=Array.mk [(8:Tmp)],ac=ac,body=body,0=0,0=0,0=0,K.n=K.n,C=C]
abbrev QMT(d:Puz):List Prop:=(([0=0,0=0,K.n=K.n,C=C,0=0,0=0]++wa5 K)++wad d)
theorem QiS(u u2 u3:Nat->Nat->Int)(l l2:List Lay)(p:Nat)(tn:Int)(t t':Nat):QF 416 (QIo d p t tn) (((GW d l2)::(201,.mp E.1 E.2)::(GN d)::List.append (wbm C K ac body) ([vG,(304,.cellsR 0 105 [.yld 297]),(zV C K),QDa,(zp d),(QAj l2),(Hj d p u2),(vu K)]))) (vM d E C K ac body u3 l p tn t')=(some (XY++XY++([0=0,0=0]++waH d p++([tn=tn,i64.wrap ((t:Int)+1)=(t':Int)]++waK d++[d.pK.oK=d.pK.oK]))++(QOA E d l l2 p u2 u3)++(wai)++(QHL C K ac body)++XY++([0=0]++wbh C K)++XY++[false=false,Fn.func 103=Fn.func (103:FuncId)]++XY++XY++[0=0]++(QMT C K d))):=by kernel_rfl
theorem QMM(l:List Lay)(p:Nat):QF 416 (List.append (waM) ([vi (d.ps.n:Int),vi (p:Int)])) ((Wk C E K ac body d l u)) (QCw d E C K ac body u l p)=(some (XY++XY++(([0=0,0=0]++wb6 d p)++waa d++(([cO=cO,0=0]++wb4 E l)++wag l++((wbo d++[QB 1 d.ps.n u u])++wai)))++(QHL C K ac body)++XY++([0=0]++wbh C K)++XY++[false=false,Fn.func 103=Fn.func (103:FuncId)]++XY++XY++[0=0]++(QMT C K d))):=by kernel_rfl
abbrev wa4(C:Cap)(K:Rw Pt)(ac:Code)(body:Code):List (Nat×Blk):=[(297,.lp LoopState.done (some Code.ret) (haT C K) (Array.mk [8]) ac body),(232,.cells 0 4 [.bool true true])]
theorem QWo(pb1 pb2:List Prop->Bool)(d:Puz)(E:ECt)(C:Cap)(K:Rw Pt)(ac body:Code)(u u2:Nat->Nat->Int)(l l2:List Lay)(v:Bool)(p:Nat)(tn:Int)(t:Nat)(g0:Nat->Value):exec (mkE prog (QBh pb1 pb2 d E C K l ⟨p,t⟩ v (haV d E C K ac body u2 l2))) (hnd (mkE prog (QBh pb1 pb2 d E C K l ⟨p,t⟩ v (haV d E C K ac body u2 l2))) 0) (QW (QI f103 0)) (JSt.inst (vM d E C K ac body u l p tn t) g0) (Q5 WK QJ4) = .br (decide ((t:Int)<tn)) (.need (decide (K.n<=K.n)&&(true&&(true&&true))&&decide (K.n<=1000)) (.br (!Qj K (l.length:Int) (Lay.mk (p:Int) (t:Int))) (.leaf (.tup (QAd d p t tn)) ((Wk C E K ac body d l u))) (.need (pb1 ((QPC E d l p t))) (.br (!v) (.leaf (.tup (QAd d p t tn)) ((Wk C E K ac body d l u))) (.need (decide ((0:Int)<=(p:Int)/\(p:Int)<(d.ps.n:Int))&&decide (d.ps.n<=d.ps.n)) (.need (decide (p<d.ps.n)) (.need (decide (l.length<=l.length)&&(true&&decide ((l.length+1+(l.length+1) / 4+192)*16<=281474976710656/\l.length+1<=9223372036854775807))) (.need (pb2 ((QVx C E K ac body d l l2 p t u u2))) (.need (decide ((0:Int)<=i64.wrap ((l2.length:Int)-1)/\(i64.wrap ((l2.length:Int)-1)).toNat<=l2.length-0)) (.need (decide ((0:Int)<=(p:Int)/\(p:Int)<(d.ps.n:Int))&&decide (d.ps.n<=d.ps.n)) (.need (decide (p<d.ps.n)) (.br (true) (.leaf (.tup (wbR)) (((GW d l2)::(201,.mp E.1 E.2)::(GN d)::List.append (wa4 C K ac body) ([(zp d),(QAj l2),(Hj d p u2),(vu K),vG,(zV C K)])))) (.leaf (.tup (QAd d p t tn)) (((GW d l2)::(201,.mp E.1 E.2)::(GN d)::List.append (wa4 C K ac body) ([vG,(304,.cellsR 0 105 [.yld 297]),(zV C K),QDa,(zp d),(QAj l2),(Hj d p u2),(vu K)])))))))))))))))) (.leaf (.tup (QSp d p)) ((Wk C E K ac body d l u))):=by kernel_rfl
theorem QiK(u2 u3:Nat->Nat->Int)(l l2:List Lay)(p:Nat):QF 416 [.bool true false] (((GW d l2)::(201,.mp E.1 E.2)::(GN d)::List.append (wa4 C K ac body) ([(zp d),(QAj l2),(Hj d p u2),(vu K),vG,(zV C K)]))) (haF d E C K ac body u3 l)=(some (([false=false]++waK d++[d.pK.oK=d.pK.oK])++(QOA E d l l2 p u2 u3)++[LoopState.done=LoopState.done,some Code.ret=some Code.ret]++(QHL C K ac body)++XY++([0=0]++wbh C K)++XY++[true=true])):=by kernel_rfl
