/- - -/
import Derived.Test.YtekbmehgcofnkaaGreatJzc
import Derived.Test.YtekbmehgcofnkaaGreatJzd
set_option linter.all false
noncomputable section
open Go.Proofs.Tryz
open Go.IntKind (i64)
set_option maxRecDepth 100000
namespace Go.Proofs.YtekbmehgcofnkaaGreat
open Go.SX Go.SX.Told
theorem QNQ{σ α:Type}(f:σ->α->Qb σ):∀(a b:List α) (s:σ),Q4 f (a++b) s=match Q4 f a s with
  | .go s'=>Q4 f b s'
  | .stop s' => .stop s'
 | [],_,_=>rfl
 | x::a,b,s=>by
  simp only[List.cons_append,Q4];cases f s x with
  | go s'=>exact QNQ f a b s'
  | stop s'=>rfl
variable {σ α:Type}(d:Puz)(E:ECt)(f g:List Lay)(C:Cap)(K:Rw Pt)(ac body:Code)(many':Int)(f' g' l l2:List Lay)(p:Nat)(u u2:Nat->Nat->Int)(t:Nat)
theorem QC6{f g:σ->α->Qb σ}{l:List α}(h:∀ s,∀ a∈l,f s a=g s a)(s:σ):Q4 f l s=Q4 g l s:=by
 induction l generalizing s with
 | nil=>rfl
 | cons a l ih=>
  simp only[Q4,h s a qmc];cases g s a with
  | go s'=>exact ih (λs b hb=>h s b (List.mem_cons_of_mem _ hb)) s'
  | stop s'=>rfl
theorem QYy{f:σ->α->Qb σ}{l:List α}(h:∀ s,∀ a∈l,f s a = .go s)(s:σ):Q4 f l s = .go s:=by
 induction l generalizing s with
 | nil=>rfl
 | cons a l ih=>
  simp only[Q4,h s a qmc];exact ih (λs b hb=>h s b (List.mem_cons_of_mem _ hb)) s
theorem QIJ{σ α β:Type}(f:σ->β->Qb σ)(g:α->List β):∀(l:List α) (s:σ),Q4 f (l.flatMap g) s=Q4 (λs a=>Q4 f (g a) s) l s
 | [],_=>rfl
 | a::l,s=>by
  rw[List.flatMap_cons,QNQ];simp only[Q4];cases Q4 f (g a) s with
  | go s'=>exact QIJ f g l s'
  | stop s'=>rfl
theorem QLf{σ α β:Type}(f:σ->β->Qb σ)(g:α->β):∀(l:List α) (s:σ),Q4 f (l.map g) s=Q4 (λs a=>f s (g a)) l s
 | [],_=>rfl
 | a::l,s=>by
  simp only[List.map_cons,Q4];cases f s (g a)with
  | go s'=>exact QLf f g l s'
  | stop s'=>rfl
def Zh:List Lay:=(List.range d.ps.n).flatMap λp=>(List.range (turnN d p)).map λt:Nat=>(⟨(p:Int),(t:Int)⟩:Lay)
def Vh(x:Lay):Bool:=l.any λy=>y.piece==x.piece
def qe(A:Int->Lay->Bool)(d:Puz)(E:ECt)(l:List Lay)(x:Lay):Bool := !Vh l x&&(A l.length x&&Q3 d E l x)
def qt(A:Int->Lay->Bool)(d:Puz)(E:ECt)(k:Nat)(l:List Lay):List (List Lay):=Ym (λ_=>Zh d) (qe A d E) (λ_=>true) k l
def QEu(_:Int)(_:Lay):Bool:=true
theorem QG9{σ:Type}(A:Int->Lay->Bool)(d:Puz)(E:ECt)(Y:List Lay->σ->Qb σ):∀(k:Nat) (l:List Lay) (s:σ),onA A d E Y k l s=Q4 (λs l=>Y l s) (qt A d E k l) s
 | 0,l,s=>by
  simp only[onA,qt,Ym,cond_true,Q4];cases Y l s<;>rfl
 | k+1,l,s=>by
  simp only[qt,Ym];rw[QIJ];unfold Zh;rw[QIJ,onA];refine QC6 (λs p _=>?_) s;unfold Xl;rw[QLf];cases hu:KM l p with
  | true=>
   rw[cond_true];refine(QYy (λs t _=>?_) s).symm
   have:qe A d E l ⟨(p:Int),(t:Int)⟩=false:=by
    unfold qe;rw[show Vh l ⟨(p:Int),(t:Int)⟩=true from hu];rfl
   rw[this];rfl
  | false=>
   rw[cond_false];unfold inA;refine QC6 (λs t _=>?_) s;unfold Jw KF qe;rw[show Vh l ⟨(p:Int),(t:Int)⟩=false from hu];cases A l.length ⟨(p:Int),(t:Int)⟩with
   | false=>rfl
   | true=>
    cases Q3 d E l ⟨(p:Int),(t:Int)⟩with
    | false=>rfl
    | true=>
     have:=QG9 A d E Y k (l++[⟨(p:Int),(t:Int)⟩]) s;simp only[cond_true,Bool.not_false,Bool.true_and]at this ⊢;rw[this];rfl
theorem QRg{σ:Type}(d:Puz)(E:ECt)(Y:List Lay->σ->Qb σ):∀(k:Nat) (l:List Lay) (s:σ),onY d E Y k l s=onA QEu d E Y k l s
 | 0,_,_=>rfl
 | k+1,l,s=>by
  rw[onY,onA];refine QC6 (λs p _=>?_) s;unfold K0 Xl inZ inA;cases KM l p with
  | true=>rfl
  | false=>
   simp only[cond_false];refine QC6 (λs t _=>?_) s;unfold Jw KF;rw[QRg d E Y k];rfl
def Ke:List (List Lay):=qt QEu d E d.ps.n []
theorem QIW(Y:List Lay->σ->Qb σ)(s:σ):onY d E Y d.ps.n [] s=Q4 (λs l=>Y l s) (Ke d E) s:=by
 rw[QRg,QG9];rfl
def Xk(P:List (List Lay)):SoS:=((P.length:Int),P.getD 0 [],P.getD 1 [])
theorem Qg0(P:List (List Lay))(l:List Lay)(h:P.length<100):Za l (Xk P)=cond (decide (P.length+1=100)) (.stop (Xk (P++[l]))) (.go (Xk (P++[l]))):=by
 have hw:i64.wrap ((P.length:Int)+1)=((P.length+1:Nat):Int):=(w64 (by omega) (by omega)).trans (by omega)
 have hs:(i64.wrap ((P.length:Int)+1),cond (i64.wrap ((P.length:Int)+1)==1) l (P.getD 0 []),cond (i64.wrap ((P.length:Int)+1)==1) (P.getD 1 []) (cond (i64.wrap ((P.length:Int)+1)==2) l (P.getD 1 [])))=Xk (P++[l]):=by
  rw[hw];unfold Xk
  match P with
  | []=>rfl
  | [a]=>rfl
  | a::b::P=>
   have h1:((((a::b::P).length+1:Nat):Int)==1)=false:=by
    rw[beq_eq_false_iff_ne];simp only[List.length_cons];omega
   have h2:((((a::b::P).length+1:Nat):Int)==2)=false:=by
    rw[beq_eq_false_iff_ne];simp only[List.length_cons];omega
   rw[h1,h2];simp
 unfold Za
 have hc:(i64.wrap ((Xk P).1+1)==100)=decide (P.length+1=100):=by
  show(i64.wrap ((P.length:Int)+1)==100)=_;rw[hw,Bool.eq_iff_iff];simp only[beq_iff_eq,qdE];omega
 rw[hc];show cond _ (Qb.stop (i64.wrap ((P.length:Int)+1),cond (i64.wrap ((P.length:Int)+1)==1) l (P.getD 0 []),cond (i64.wrap ((P.length:Int)+1)==1) (P.getD 1 []) (cond (i64.wrap ((P.length:Int)+1)==2) l (P.getD 1 [])))) (Qb.go (i64.wrap ((P.length:Int)+1),cond (i64.wrap ((P.length:Int)+1)==1) l (P.getD 0 []),cond (i64.wrap ((P.length:Int)+1)==1) (P.getD 1 []) (cond (i64.wrap ((P.length:Int)+1)==2) l (P.getD 1 []))))=_;rw[hs]
theorem QL8:∀(L P:List (List Lay)),P.length<100->Q4 (λs l=>Za l s) L (Xk P) = .go (Xk (P++L))/\(P++L).length<100∨Q4 (λs l=>Za l s) L (Xk P) = .stop (Xk ((P++L).take 100))/\100<=(P++L).length
 | [],P,h => .inl ⟨by rw[List.append_nil];rfl,by rw[List.append_nil];exact h⟩
 | l::L,P,h=>by
  simp only[Q4,Qg0 P l h]
  by_cases h1:P.length+1=100
  .refine .inr ⟨?_,by simp only[List.length_append,List.length_cons];omega⟩
   rw[qde h1,cond_true]
   have:(P++l::L).take 100=P++[l]:=by
    rw[show P++l::L=(P++[l])++L by simp,List.take_append_of_le_length (by simp;omega),List.take_of_length_le (by simp;omega)]
   rw[this]
  .rw[decide_eq_false h1,cond_false];have:=QL8 L (P++[l]) (by simp;omega)
   simpa using this
theorem QRB(L:List α)(k i:Nat)(a:α)(h:i<k):(L.take k).getD i a=L.getD i a:=by
 simp only[List.getD_eq_getElem?_getD,List.getElem?_take,if_pos h]
theorem QfE:(match onZ d E d.ps.n [] (0,[],[])with | .go s | .stop s=>s)=(((min (Ke d E).length 100:Nat):Int),(Ke d E).getD 0 [],(Ke d E).getD 1 []):=by
 have h:=QL8 (Ke d E) [] (by decide)
 rw[List.nil_append]at h;have e:onZ d E d.ps.n [] (0,[],[])=Q4 (λs l=>Za l s) (Ke d E) (Xk []):=QIW d E Za (0,[],[]);rw[e];rcases h with ⟨h1,h2⟩|⟨h1,h2⟩
 .rw[h1];simp only[Xk];rw[Nat.min_eq_left (by omega)]
 .rw[h1];simp only[Xk];rw[QRB _ _ _ _ (by decide),QRB _ _ _ _ (by decide),List.length_take,Nat.min_comm]
theorem WA:(turnN d p:Int)=tnV d p/\turnN d p<=4:=by
 unfold turnN;rcases QMw d p with h|h<;>rw[h]<;>decide
set_option maxHeartbeats 1000000 in
theorem QcL(rec:List Lay->SoS->Qb SoS)(l:List Lay)(p:Nat)(hp:p<d.ps.n)(hn:d.ps.n<=1000)(hl:l.length<=1000)(hu:KM l p=false):Jm (λk:Nat×SoS=>zt d E ac body (QD l) l k.2.1 k.2.2.1 k.2.2.2 p (tnV d p) k.1) (λk=>k.1<=turnN d p) (λk=>turnN d p-k.1) (ZJ d E ac body rec l p) 464 QJz WV (vO prog d E ac body rec l p) (λk=>hnd (vO prog d E ac body rec l p k) 0) (Qa (QJ f103 0)):=by
 refine⟨λk g0 hk=>?_⟩;obtain⟨t,many,f,g⟩:=k;have hk:t<=turnN d p:=hk;obtain⟨ht1,ht4⟩:=WA d p;have hlen:(l++[(⟨p,t⟩:Lay)]).length=l.length+1:=by rw[List.length_append,List.length_singleton]
 have hw1:i64.wrap (((l++[(⟨p,t⟩:Lay)]).length:Int)-1)=l.length:=(w64 (by omega) (by omega)).trans (by omega)
 have hpop:(i64.wrap (((l++[(⟨p,t⟩:Lay)]).length:Int)-1)).toNat=l.length:=by rw[hw1];exact Int.toNat_natCast _
 have hle:l.length<=(l++[(⟨p,t⟩:Lay)]).length:=by omega
 have hpb:t<turnN d p->Zj d p t=QO:=λh=>by unfold Zj;rw[if_pos h]
 have wt:t<turnN d p->i64.wrap ((t:Int)+1)=((t+1:Nat):Int):=λh=>(w64 (by omega) (by omega)).trans (by omega)
 have step:=λh:t<turnN d p=>Wl (f:=KF d E rec l p) h (many,f,g);unfold vO;simp only
 have next:t<turnN d p->∀{s2:SoS},KF d E rec l p (many,f,g) t = .go s2->∀ e J,ZJ d E ac body rec l p (t+1,s2) e J->ZJ d E ac body rec l p (t,many,f,g) e J:=by
  intro h s2 he e J hr;unfold ZJ at hr ⊢;simp only at hr ⊢;rw[step h,he];exact hr
 have last:turnN d p<=t->ZJ d E ac body rec l p (t,many,f,g) (.exit 2) (Hk d E ac body (QD l) l many f g p):=by
  intro h;unfold ZJ;simp only[W8 h,and_self]
 cases hr:rec (l++[⟨p,t⟩]) (many,f,g)with
 | go s'=>
  obtain⟨many',f',g'⟩:=s';simp only[Xu];have et:=QVy (Zj d p t) (Zj d p t) d E ac body (QD l) (QD (l++[⟨p,t⟩])) l (l++[⟨p,t⟩]) (Q3 d E l ⟨p,t⟩) many f g p (tnV d p) t many' f' g' g0;refine Qe et ?_;clear et;refine QE (λb0=>?_) (λb0=>?_);have h:t<turnN d p:=by have:=qdt b0;omega
  rw[hpb h];have hw:=wt h;refine QG ?_ ?_;rotate_left;refine QE ?_ ?_<;>intro b1
  .exact Bool.noConfusion (show false=true from b1)
  refine QG ?_ ?_;rotate_left;refine QE (λb2=>?_) (λb2=>?_);have hv:Q3 d E l ⟨p,t⟩=false:=by simpa using b2
  have ho:KF d E rec l p (many,f,g) t = .go (many,f,g):=by unfold KF;rw[hv];rfl
  refine⟨(t+1,many,f,g),h,by show turnN d p-(t+1)<turnN d p-t;omega,next h ho,rfl,rfl,_,QNE d E ac body (QD l) l many f g p (tnV d p) t (t+1),?_⟩
  rotate_left
  iterate 7 (refine QG ?_ ?_;rotate_left)
  refine QE ?_ ?_<;>intro b3
  .cases b3
  have hv:Q3 d E l ⟨p,t⟩=true:=by simpa using b2
  have ho:KF d E rec l p (many,f,g) t = .go (many',f',g'):=by unfold KF;rw[hv];exact hr
  have hb:=qO l d.ps.n p t hu;have hq:=Wt l ⟨p,t⟩;have hnx:=next h ho
  clear next last step hr ho
  generalize QD (l++[⟨p,t⟩])=u2 at hb ⊢;generalize l++[⟨p,t⟩]=l2 at hpop hle hq ⊢;generalize hu1:QD l=u1 at hb ⊢;refine⟨(t+1,many',f',g'),h,by show turnN d p-(t+1)<turnN d p-t;omega,hnx,rfl,rfl,_,QZ2 d E ac body u1 u2 u1 l l2 p (tnV d p) t (t+1) many' f' g',?_⟩
  rotate_left
  have h:turnN d p<=t:=by have:=qdf b0;omega
  refine⟨_,last h,rfl,rfl,_,QQs d E ac body (QD l) l many f g p,?_⟩
  rotate_left
  all_goals first|((with_reducible show _=true);(first|rfl|(refine Q9.2 ?_;repeat' first|with_reducible refine QN ?_ ?_|exact tv|with_reducible exact qRr|with_reducible exact hlen|with_reducible exact hlen.symm|with_reducible exact Nat.le_of_eq hlen|with_reducible exact Ww l ⟨p,t⟩|with_reducible exact Wa l _ p t|exact rfl|refine aI ?_ ?_)|(rw[hw1];simp)|(simp;omega)))|(repeat' first|with_reducible refine QN ?_ ?_|exact tv|with_reducible exact qRr|with_reducible exact hw|with_reducible exact hpop|with_reducible exact hle|with_reducible exact hq|with_reducible exact hb|exact rfl|refine aI ?_ ?_)
 | stop s'=>
  obtain⟨many',f',g'⟩:=s';simp only[Xu];have et:=QVH (Zj d p t) (Zj d p t) d E ac body (QD l) (QD (l++[⟨p,t⟩])) l (l++[⟨p,t⟩]) (Q3 d E l ⟨p,t⟩) many f g p (tnV d p) t many' f' g' g0;refine Qe et ?_;clear et;refine QE (λb0=>?_) (λb0=>?_);have h:t<turnN d p:=by have:=qdt b0;omega
  rw[hpb h];have hw:=wt h;refine QG ?_ ?_;rotate_left;refine QE ?_ ?_<;>intro b1
  .exact Bool.noConfusion (show false=true from b1)
  refine QG ?_ ?_;rotate_left;refine QE (λb2=>?_) (λb2=>?_);have hv:Q3 d E l ⟨p,t⟩=false:=by simpa using b2
  have ho:KF d E rec l p (many,f,g) t = .go (many,f,g):=by unfold KF;rw[hv];rfl
  refine⟨(t+1,many,f,g),h,by show turnN d p-(t+1)<turnN d p-t;omega,next h ho,rfl,rfl,_,QNE d E ac body (QD l) l many f g p (tnV d p) t (t+1),?_⟩
  rotate_left
  iterate 7 (refine QG ?_ ?_;rotate_left)
  refine QE (λb3=>?_) (λb3=>?_);have hv:Q3 d E l ⟨p,t⟩=true:=by simpa using b2
  have ho:KF d E rec l p (many,f,g) t = .stop (many',f',g'):=by unfold KF;rw[hv];exact hr
  have hrel:ZJ d E ac body rec l p (t,many,f,g) .ret (soF d E ac body (QD l) l many' f' g'):=by
   unfold ZJ;simp only[step h,ho,and_self]
  have hb:=qO l d.ps.n p t hu;have hq:=Wt l ⟨p,t⟩;clear next last step hr ho
  generalize QD (l++[⟨p,t⟩])=u2 at hb ⊢;generalize l++[⟨p,t⟩]=l2 at hpop hle hq ⊢;generalize hu1:QD l=u1 at hb hrel ⊢;refine⟨_,hrel,rfl,rfl,_,QWL d E ac body u2 u1 l l2 p many' f' g',?_⟩
  rotate_left
  .cases b3
  have h:turnN d p<=t:=by have:=qdf b0;omega
  refine⟨_,last h,rfl,rfl,_,QQs d E ac body (QD l) l many f g p,?_⟩
  rotate_left
  all_goals first|((with_reducible show _=true);(first|rfl|(refine Q9.2 ?_;repeat' first|with_reducible refine QN ?_ ?_|exact tv|with_reducible exact qRr|with_reducible exact hlen|with_reducible exact hlen.symm|with_reducible exact Nat.le_of_eq hlen|with_reducible exact Ww l ⟨p,t⟩|with_reducible exact Wa l _ p t|exact rfl|refine aI ?_ ?_)|(rw[hw1];simp)|(simp;omega)))|(repeat' first|with_reducible refine QN ?_ ?_|exact tv|with_reducible exact qRr|with_reducible exact hw|with_reducible exact hpop|with_reducible exact hle|with_reducible exact hq|with_reducible exact hb|exact rfl|refine aI ?_ ?_)
def Qb.s{σ:Type}:Qb σ->σ
 | .go s=>s
 | .stop s=>s
def Qb.isGo:Qb σ->Bool
 | .go _=>true
 | .stop _=>false
def QDV(rec:List Lay->SoS->Qb SoS)(l:List Lay)(p:Nat):Prop:=∀ t,t<turnN d p->∀ s,QQ prog 103 (uFC (Xu d E ac body (l++[⟨p,t⟩]) s (rec (l++[⟨p,t⟩]) s)))
theorem Qhl{d:Puz}{E:ECt}{ac body:Code}{rec:List Lay->SoS->Qb SoS}{l:List Lay}{p:Nat}(hd:KB d)(hE:WfE E)(hl:l.length<=1000)(hL:∀ y∈l,Q0 d y)(hp:p<d.ps.n)(IH:QDV d E ac body rec l p)(k:Nat×SoS):(vO prog d E ac body rec l p k).Sound:=by
 unfold vO Zj
 by_cases h:k.1<turnN d p
 .rw[if_pos h];have h4:=(WA d p).2;exact QP ((Qd.add (QCM d E l ⟨p,k.1⟩ hd hE hl hL ⟨⟨by show(0:Int)<=p;omega,by show(p:Int)<_;omega⟩,by show(0:Int)<=k.1;omega,by show(k.1:Int)<=3;omega⟩)).add (IH k.1 h k.2))
 .rw[if_neg h];exact QP ((Qd.add (Jl (by kernel_rfl) _)).add (Jl (by kernel_rfl) _))
def QA8(rec:List Lay->SoS->Qb SoS)(l:List Lay)(p:Nat)(s:SoS):List (Prop×Ex×JSt):=
 [((inZ d E rec l p s).isGo=true,.exit 2,Hk d E ac body (QD l) l (inZ d E rec l p s).s.1 (inZ d E rec l p s).s.2.1 (inZ d E rec l p s).s.2.2 p),((inZ d E rec l p s).isGo=false,.ret,soF d E ac body (QD l) l (inZ d E rec l p s).s.1 (inZ d E rec l p s).s.2.1 (inZ d E rec l p s).s.2.2)]
theorem QCZ{l:List Lay}{p:Nat}(h:QD l p 0=0):KM l p=false:=by
 unfold QD at h;cases hb:KM l p with
 | false=>rfl
 | true=>rw[hb]at h;cases h
theorem Qai{d:Puz}{E:ECt}{ac body:Code}{rec:List Lay->SoS->Qb SoS}{l:List Lay}(hd:KB d)(hE:WfE E)(hl:l.length<=1000)(hL:∀ y∈l,Q0 d y)(p:Nat)(s:SoS)(IH:p<d.ps.n->QDV d E ac body rec l p)(G:Ctx)(hrd:G.rd=none)(hG:G.n<=464):
  Q1 (mkE prog (qn QO d l.length p)) G (QCe prog QO d E ac body (QD l) l s.1 s.2.1 s.2.2 p (QA8 d E ac body rec l p s)) (QJ f103 0):=by
 have hT:Qc (qn QO d l.length p):=Qd.add (Yg d l.length p);refine Kk (body:=Qa (QJ f103 0)) (QP hT) hrd (by kernel_rfl) ?_
 refine Vy λhp=>?_;have hu:=QCZ hp.2;have hEnv:=Qhl (ac:=ac) (body:=body) hd hE hl hL hp.1 (IH hp.1);refine Jz (E0:=mkE prog (qn QO d l.length p)) (E:=vO prog d E ac body rec l p) (H:=λk=>hnd (vO prog d E ac body rec l p k) 0) (n0:=464) (s0:=(0,s)) (λ_=>rfl) hEnv hG (λk _=>Qw (hEnv k) 0 G _ hrd) (λk _=>(by decide:464<=504)) ?_ (QcL d E ac body rec l p hp.1 hd.n hl hu) (Nat.zero_le _) ?_
 .intro k e J hr;unfold ZJ at hr;split at hr<;>(rw[hr.2];exact(by decide:464<=504))
 .intro e J hr;unfold ZJ at hr;simp only[List.drop_zero]at hr;have hi:inZ d E rec l p s=Q4 (KF d E rec l p) (List.range (turnN d p)) s:=rfl;unfold QA8;rw[hi];cases hc:Q4 (KF d E rec l p) (List.range (turnN d p)) s with
  | go s'=>
   rw[hc]at hr;exact⟨_,qmc,rfl,hr.1.symm,hr.2.symm⟩
  | stop s'=>
   rw[hc]at hr;exact⟨_,List.mem_cons_of_mem _ qmc,rfl,hr.1.symm,hr.2.symm⟩
def Yc(rec:List Lay->SoS->Qb SoS)(l:List Lay)(k:Nat×SoS)(e:Ex)(J:JSt):Prop:=match Q4 (K0 d E rec l) ((List.range d.ps.n).drop k.1) k.2 with
 | .go s'=>e = .exit 0/\J=GR d E ac body (QD l) l s'.1 s'.2.1 s'.2.2
 | .stop s'=>e = .ret/\J=soF d E ac body (QD l) l s'.1 s'.2.1 s'.2.2
theorem Vt{l:List Lay}{p:Nat}:decide (QD l ((p:Int).toNat+0) 0=1)=KM l p:=by
 show decide (cond (KM l p) (1:Int) 0=1)=KM l p;cases KM l p<;>rfl
set_option maxHeartbeats 1000000 in
theorem QYR(rec:List Lay->SoS->Qb SoS)(l:List Lay)(hn:d.ps.n<=1000):Jm (λk:Nat×SoS=>GO d E ac body (QD l) l k.2.1 k.2.2.1 k.2.2.2 k.1) (λk=>k.1<=d.ps.n) (λk=>d.ps.n-k.1) (Yc d E ac body rec l) 464 QKF WV (λk=>mkE prog (qn QO d l.length k.1)) (λk=>QCe prog QO d E ac body (QD l) l k.2.1 k.2.2.1 k.2.2.2 k.1 (QA8 d E ac body rec l k.1 k.2)) (QJ f103 0):=by
 refine⟨λk g0 hk=>?_⟩;obtain⟨p,many,f,g⟩:=k;have hk:p<=d.ps.n:=hk;have wp:p<d.ps.n->i64.wrap ((p:Int)+1)=((p+1:Nat):Int):=λh=>VJ h hn;have step:=λh:p<d.ps.n=>Wl (f:=K0 d E rec l) h (many,f,g)
 have next:p<d.ps.n->∀{s2:SoS},K0 d E rec l (many,f,g) p = .go s2->∀ e J,Yc d E ac body rec l (p+1,s2) e J->Yc d E ac body rec l (p,many,f,g) e J:=by
  intro h s2 he e J hr;unfold Yc at hr ⊢;simp only at hr ⊢;rw[step h,he];exact hr
 have stop:p<d.ps.n->∀{s2:SoS},K0 d E rec l (many,f,g) p = .stop s2->Yc d E ac body rec l (p,many,f,g) .ret (soF d E ac body (QD l) l s2.1 s2.2.1 s2.2.2):=by
  intro h s2 he;unfold Yc;simp only[step h,he,and_self]
 have last:d.ps.n<=p->Yc d E ac body rec l (p,many,f,g) (.exit 0) (GR d E ac body (QD l) l many f g):=by
  intro h;unfold Yc;simp only[W8 h,and_self]
 have hpz:KM l p=false->K0 d E rec l (many,f,g) p=inZ d E rec l p (many,f,g):=λh=>by unfold K0;rw[h];rfl
 have hpu:KM l p=true->K0 d E rec l (many,f,g) p = .go (many,f,g):=λh=>by unfold K0;rw[h];rfl
 unfold QA8;simp only;cases hr:inZ d E rec l p (many,f,g)with
 | go s'=>
  obtain⟨many',f',g'⟩:=s';simp only[Qb.isGo,Qb.s,Bool.true_eq_false,Bool.false_eq_true];have et:=QQc QO d E ac body (QD l) (QD l) l many f g p True False many' f' g' g0;refine Qe et ?_;clear et;refine QE (λb0=>?_) (λb0=>?_);have h:p<d.ps.n:=by have:=qdt b0;omega
  have hw:=wp h
  iterate 2 (refine QG ?_ ?_;rotate_left)
  refine QE (λb1=>?_) (λb1=>?_);have hub:KM l p=true:=Vt.symm.trans b1;refine⟨(p+1,many,f,g),h,by show d.ps.n-(p+1)<d.ps.n-p;omega,next h (hpu hub),rfl,rfl,_,QKM d E ac body (QD l) l many f g p (p+1),?_⟩
  rotate_left
  have hub:KM l p=false:=Vt.symm.trans b1;have hu0:QD l p 0=0:=by unfold QD;rw[hub];rfl
  refine QG ?_ ?_;rotate_left
  iterate 132 refine Q2 (by first|exact tv|exact⟨h,hu0⟩|with_reducible exact qRr|exact rfl) ?_
  refine Km ?_ ?_;refine Qh λa0=>?_;refine Qj λg0=>?_;refine⟨(p+1,many',f',g'),h,by show d.ps.n-(p+1)<d.ps.n-p;omega,next h ((hpz hub).trans hr),rfl,rfl,_,QYd d E ac body (QD l) l p (p+1) many' f' g',?_⟩
  rotate_left
  refine Qh λa1=>?_;refine Qj λg1=>?_
  .exact a1.elim
  have h:d.ps.n<=p:=by have:=qdf b0;omega
  refine⟨_,last h,rfl,rfl,_,QPW d E ac body (QD l) l many f g,?_⟩
  rotate_left
  all_goals first|((with_reducible show _=true);(first|(refine Q9.2 ?_;repeat' first|exact tv|with_reducible exact qRr|exact rfl|refine aI ?_ ?_)|(simp;omega)))|(repeat' first|with_reducible refine QN ?_ ?_|exact tv|with_reducible exact qRr|with_reducible exact hw|exact rfl|refine aI ?_ ?_)
 | stop s'=>
  obtain⟨many',f',g'⟩:=s';simp only[Qb.isGo,Qb.s,Bool.true_eq_false,Bool.false_eq_true];have et:=QQc QO d E ac body (QD l) (QD l) l many f g p False True many' f' g' g0;refine Qe et ?_;clear et;refine QE (λb0=>?_) (λb0=>?_);have h:p<d.ps.n:=by have:=qdt b0;omega
  have hw:=wp h
  iterate 2 (refine QG ?_ ?_;rotate_left)
  refine QE (λb1=>?_) (λb1=>?_);have hub:KM l p=true:=Vt.symm.trans b1;refine⟨(p+1,many,f,g),h,by show d.ps.n-(p+1)<d.ps.n-p;omega,next h (hpu hub),rfl,rfl,_,QKM d E ac body (QD l) l many f g p (p+1),?_⟩
  rotate_left
  have hub:KM l p=false:=Vt.symm.trans b1;have hu0:QD l p 0=0:=by unfold QD;rw[hub];rfl
  refine QG ?_ ?_;rotate_left
  iterate 132 refine Q2 (by first|exact tv|exact⟨h,hu0⟩|with_reducible exact qRr|exact rfl) ?_
  refine Km ?_ ?_;refine Qh λa0=>?_;refine Qj λg0=>?_
  .exact a0.elim
  refine Qh λa1=>?_;refine Qj λg1=>?_;refine⟨_,stop h ((hpz hub).trans hr),rfl,rfl,_,Qgd d E ac body (QD l) l many' f' g',?_⟩
  rotate_left
  have h:d.ps.n<=p:=by have:=qdf b0;omega
  refine⟨_,last h,rfl,rfl,_,QPW d E ac body (QD l) l many f g,?_⟩
  rotate_left
  all_goals first|((with_reducible show _=true);(first|(refine Q9.2 ?_;repeat' first|exact tv|with_reducible exact qRr|exact rfl|refine aI ?_ ?_)|(simp;omega)))|(repeat' first|with_reducible refine QN ?_ ?_|exact tv|with_reducible exact qRr|with_reducible exact hw|exact rfl|refine aI ?_ ?_)
abbrev VI:Code:=(QM f24 0).1
abbrev VO:Code:=(QM f24 0).2
theorem QMp(l:List Lay)(many:Int)(f g:List Lay)(many':Int)(f' g':List Lay):(VD d E ac body u l many f g many' f' g').Ok:=by
 refine⟨(by decide:424<=464),rfl,rfl,?_,rfl,λ_ _=>rfl,λnid h=>?_⟩
 .intro q hq;simp only[UC.po,VD,YN,rwY,rwU,List.mem_cons,List.not_mem_nil,or_false]at hq;rcases hq with rfl|rfl|rfl|rfl|rfl|rfl|rfl|rfl|rfl|rfl|rfl<;>refine⟨rfl,rfl,rfl,?_⟩<;>first|exact λ_=>rfl|exact λh=>absurd (show 464<424 from h) (by decide)|exact λh=>absurd (show 465<424 from h) (by decide)|exact λh=>absurd (show 466<424 from h) (by decide)|exact λh=>absurd (show 467<424 from h) (by decide)
 .have e0:=Kj 424 464 0 nid (by decide)
  have e1:=Kj 424 464 1 nid (by decide)
  have e2:=Kj 424 464 2 nid (by decide)
  have e3:=Kj 424 464 3 nid (by decide)
  simp only[UC.po,VD,YN,rwY,rwU,vl,Xy,Kb,Qo.val,List.cons_append,List.nil_append,List.map_cons,List.map_nil,Blk.mapId,AV.mapId,AV.mapIdL,Nat.add_zero]at e0 e1 e2 e3 ⊢;rw[e0,e1,e2,e3];rfl
theorem QLY(l:List Lay)(many:Int)(f g:List Lay)(many':Int)(f' g':List Lay):(Xe d E ac body u l many f g many' f' g').Ok:=by
 refine⟨(by decide:424<=464),rfl,rfl,?_,rfl,λ_ _=>rfl,λnid h=>?_⟩
 .intro q hq;simp only[UC.po,Xe,YN,rwY,rwU,List.mem_cons,List.not_mem_nil,or_false]at hq;rcases hq with rfl|rfl|rfl|rfl|rfl|rfl|rfl|rfl|rfl|rfl|rfl<;>refine⟨rfl,rfl,rfl,?_⟩<;>first|exact λ_=>rfl|exact λh=>absurd (show 464<424 from h) (by decide)|exact λh=>absurd (show 465<424 from h) (by decide)|exact λh=>absurd (show 466<424 from h) (by decide)|exact λh=>absurd (show 467<424 from h) (by decide)
 .have e0:=Kj 424 464 0 nid (by decide)
  have e1:=Kj 424 464 1 nid (by decide)
  have e2:=Kj 424 464 2 nid (by decide)
  have e3:=Kj 424 464 3 nid (by decide)
  simp only[UC.po,Xe,YN,rwY,rwU,vl,Xy,Kb,Qo.val,List.cons_append,List.nil_append,List.map_cons,List.map_nil,Blk.mapId,AV.mapId,AV.mapIdL,Nat.add_zero]at e0 e1 e2 e3 ⊢;rw[e0,e1,e2,e3];rfl
theorem QNH(T:Tab)(hT:Qc T)(G:Ctx)(hrd:G.rd=none):Q1 (mkE prog T) G (soN prog T) (Qk f103):=
 Kk (body:=QJ f103 0) (QP hT) hrd (by kernel_rfl) (λ_ _ _ _ _ _ _ h _ _=>h.elim)
set_option maxHeartbeats 1000000 in
theorem Qdt(s:SoS)(hn:l.length=d.ps.n)(hpos:0<l.length)(hl:l.length<=1000):QQ prog 103 (uFC (Xu d E VI VO l s (Za l s))):=by
 obtain⟨many,f,g⟩:=s;have hT:Qc (QA0 QO l):=Qd.add (QPu l hpos hl);have et:=QVG QO d E (QD l) l many f g;have hlen:((l.length:Int)==(d.ps.n:Int))=true:=by rw[hn];simp
 unfold Za;simp only;cases h100:i64.wrap (many+1)==100 with
 | true=>
  have h1:(i64.wrap (many+1)==1)=false:=by rw[beq_iff_eq.1 h100];rfl
  have h2:(i64.wrap (many+1)==2)=false:=by rw[beq_iff_eq.1 h100];rfl
  rw[h1,h2];simp only[cond_true,cond_false,Xu];refine K4 (E:=mkE prog (QA0 QO l)) (QP hT) func103 (by kernel_rfl) (by kernel_rfl) (QLY ..) (λG hG _=>QNH _ hT G hG) ⟨?_⟩
  refine Qe et ?_;clear et;refine QE (λb0=>?_) (λb0=>?_);refine QE ?_ ?_<;>intro b1
  .exact Bool.noConfusion (h1.symm.trans b1)
  refine QE ?_ ?_<;>intro b3
  .exact Bool.noConfusion (h2.symm.trans b3)
  refine QE (λb5=>?_) (λb5=>?_);refine⟨rfl,rfl,_,QVZ d E (QD l) l many f g _ f g,?_⟩
  rotate_left
  .exact Bool.noConfusion (h100.symm.trans b5)
  .exact Bool.noConfusion (hlen.symm.trans b0)
  all_goals (repeat' first|with_reducible refine QN ?_ ?_|exact tv|with_reducible exact qRr|exact rfl|refine aI ?_ ?_)
 | false=>
  simp only[cond_false,Xu];refine K4 (E:=mkE prog (QA0 QO l)) (QP hT) func103 (by kernel_rfl) (by kernel_rfl) (QMp ..) (λG hG _=>QNH _ hT G hG) ⟨?_⟩
  refine Qe et ?_;clear et;refine QE (λb0=>?_) (λb0=>?_);refine QE (λb1=>?_) (λb1=>?_);refine QG ?_ ?_;rotate_left;refine QE ?_ ?_<;>intro b2
  .exact Bool.noConfusion (h100.symm.trans b2)
  rw[b1];simp only[cond_true];refine⟨rfl,rfl,_,QWk d E (QD l) l many f g _ l g,?_⟩
  rotate_left
  refine QE (λb3=>?_) (λb3=>?_);refine QG ?_ ?_;rotate_left;refine QE ?_ ?_<;>intro b4
  .exact Bool.noConfusion (h100.symm.trans b4)
  rw[b1,b3];simp only[cond_true,cond_false];refine⟨rfl,rfl,_,Qgw d E (QD l) l many f g _ f l,?_⟩
  rotate_left
  refine QE ?_ ?_<;>intro b5
  .exact Bool.noConfusion (h100.symm.trans b5)
  rw[b1,b3];simp only[cond_false];refine⟨rfl,rfl,_,Qa0 d E (QD l) l many f g _ f g,?_⟩
  rotate_left
  .exact Bool.noConfusion (hlen.symm.trans b0)
  all_goals first|((with_reducible show _=true);((refine Q9.2 ?_;repeat' first|exact tv|with_reducible exact qRr|exact rfl|refine aI ?_ ?_)))|(repeat' first|with_reducible refine QN ?_ ?_|exact tv|with_reducible exact qRr|exact rfl|refine aI ?_ ?_)
theorem QOj{d:Puz}{E:ECt}{ac body:Code}{rec:List Lay->SoS->Qb SoS}{l:List Lay}(hd:KB d)(hE:WfE E)(hl:l.length<=1000)(hL:∀ y∈l,Q0 d y)(s:SoS)(IH:∀ p,p<d.ps.n->QDV d E ac body rec l p){X:List (Prop×Ex×JSt)}(hX:∀ e J,Yc d E ac body rec l (0,s) e J->∃ y∈X,y.1/\y.2.1=e/\y.2.2=J)(G:Ctx)(hrd:G.rd=none)(hG:G.n=464):
  Q1 (mkE prog QU) G (soX prog (GO d E ac body (QD l) l s.1 s.2.1 s.2.2 0) X) (Qk f103):=by
 refine Kk (body:=QJ f103 0) (QP Qd) hrd (by kernel_rfl) ?_
 have hEnv:∀ k:Nat×SoS,(mkE prog (qn QO d l.length k.1)).Sound:=λk=>QP (Qd.add (Yg d l.length k.1));refine Jz (E0:=mkE prog QU) (E:=λk:Nat×SoS=>mkE prog (qn QO d l.length k.1)) (H:=λk=>QCe prog QO d E ac body (QD l) l k.2.1 k.2.2.1 k.2.2.2 k.1 (QA8 d E ac body rec l k.1 k.2)) (n0:=464) (s0:=(0,s)) (λ_=>rfl) hEnv (by omega) (λk _=>Qai hd hE hl hL k.1 k.2 (IH k.1) G hrd (by omega)) (λk _=>(by decide:464<=504)) ?_ (QYR d E ac body rec l hd.n) (Nat.zero_le _) hX
 intro k e J hr;unfold Yc at hr;split at hr<;>(rw[hr.2];exact(by decide:464<=504))
set_option maxHeartbeats 1000000 in
theorem QY1{d:Puz}{E:ECt}(hd:KB d)(hE:WfE E){k:Nat}{l:List Lay}(hk:l.length+(k+1)=d.ps.n)(hL:∀ y∈l,Q0 d y)(IH:∀ p,p<d.ps.n->QDV d E VI VO (onZ d E k) l p)(s:SoS):QQ prog 103 (uFC (Xu d E VI VO l s (onZ d E (k+1) l s))):=by
 have hdn:=hd.n;have hr0:onZ d E (k+1) l s=Q4 (K0 d E (onZ d E k) l) (List.range d.ps.n) s:=rfl;rw[hr0];have hne:((l.length:Int)==(d.ps.n:Int))=false:=by rw[beq_eq_false_iff_ne];omega
 obtain⟨many,f,g⟩:=s;cases hc:Q4 (K0 d E (onZ d E k) l) (List.range d.ps.n) (many,f,g)with
 | go s'=>
  obtain⟨many',f',g'⟩:=s';simp only[Xu];have et:=QSq d E (QD l) (QD l) l many f g True False many' f' g';refine K4 (E:=mkE prog QU) (QP Qd) func103 (by kernel_rfl) (by kernel_rfl) (QMp ..) (QOj hd hE (by omega) hL (many,f,g) IH (X:=[(True,.exit 0,GR d E VI VO (QD l) l many' f' g'),(False,.ret,soF d E VI VO (QD l) l many' f' g')]) ?_) ⟨?_⟩
  .intro e J hr;unfold Yc at hr;simp only[List.drop_zero,hc]at hr;exact⟨_,qmc,trivial,hr.1.symm,hr.2.symm⟩
  refine Qe et ?_;clear et;refine QE ?_ ?_<;>intro b0
  .exact Bool.noConfusion (hne.symm.trans b0)
  iterate 128 refine Q2 (by first|exact tv|with_reducible exact qRr|exact rfl) ?_
  refine Km ?_ ?_;refine Qh λa0=>?_;refine Qj λg0=>?_;refine⟨rfl,rfl,_,Qgu d E (QD l) (QD l) l many f g many' f' g',?_⟩
  rotate_left
  refine Qh λa1=>?_;refine Qj λg1=>?_
  .exact a1.elim
  all_goals (repeat' first|with_reducible refine QN ?_ ?_|exact tv|with_reducible exact qRr|exact rfl|refine aI ?_ ?_)
 | stop s'=>
  obtain⟨many',f',g'⟩:=s';simp only[Xu];have et:=QSq d E (QD l) (QD l) l many f g False True many' f' g';refine K4 (E:=mkE prog QU) (QP Qd) func103 (by kernel_rfl) (by kernel_rfl) (QLY ..) (QOj hd hE (by omega) hL (many,f,g) IH (X:=[(False,.exit 0,GR d E VI VO (QD l) l many' f' g'),(True,.ret,soF d E VI VO (QD l) l many' f' g')]) ?_) ⟨?_⟩
  .intro e J hr;unfold Yc at hr;simp only[List.drop_zero,hc]at hr;exact⟨_,List.mem_cons_of_mem _ qmc,trivial,hr.1.symm,hr.2.symm⟩
  refine Qe et ?_;clear et;refine QE ?_ ?_<;>intro b0
  .exact Bool.noConfusion (hne.symm.trans b0)
  iterate 128 refine Q2 (by first|exact tv|with_reducible exact qRr|exact rfl) ?_
  refine Km ?_ ?_;refine Qh λa0=>?_;refine Qj λg0=>?_
  .exact a0.elim
  refine Qh λa1=>?_;refine Qj λg1=>?_;refine⟨rfl,rfl,_,QgP d E (QD l) (QD l) l many f g many' f' g',?_⟩
  rotate_left
  all_goals (repeat' first|with_reducible refine QN ?_ ?_|exact tv|with_reducible exact qRr|exact rfl|refine aI ?_ ?_)
theorem QEX{d:Puz}{l:List Lay}{p t:Nat}(hp:p<d.ps.n)(ht:t<turnN d p)(hL:∀ y∈l,Q0 d y):∀ y∈l++[(⟨p,t⟩:Lay)],Q0 d y:=by
 intro y hy;rcases List.mem_append.1 hy with q|q
 .exact hL y q
 .have h4:=(WA d p).2;rw[List.mem_singleton.1 q];exact⟨⟨by show(0:Int)<=p;omega,by show(p:Int)<_;omega⟩,by show(0:Int)<=t;omega,by show(t:Int)<=3;omega⟩
theorem Qd2{d:Puz}{E:ECt}(hn:d.ps.n<=1000)(hpos:0<d.ps.n)(l:List Lay)(s:SoS)(hk:l.length=d.ps.n):QQ prog 103 (uFC (Xu d E VI VO l s (onZ d E 0 l s))):=by
 have h0:onZ d E 0 l s=Za l s:=rfl;have h1:0<l.length:=by rw[hk];exact hpos
 have h2:l.length<=1000:=by rw[hk];exact hn
 rw[h0];exact Qdt d E l s hk h1 h2
theorem QEo(x:Lay){k n:Nat}(h:l.length+(k+1)=n):(l++[x]).length+k=n:=by
 rw[List.length_append,List.length_singleton];omega
theorem QdZ{d:Puz}{E:ECt}(hd:KB d)(hE:WfE E)(hpos:0<d.ps.n)(k:Nat):∀(l:List Lay) (s:SoS),l.length+k=d.ps.n->(∀ y∈l,Q0 d y)->QQ prog 103 (uFC (Xu d E VI VO l s (onZ d E k l s))):=by
 induction k with
 | zero=>exact λl s hk _=>Qd2 hd.n hpos l s hk
 | succ k ih=>
  intro l s hk hL;refine QY1 hd hE hk hL ?_ s;intro p hp t ht s;exact ih _ s (QEo l _ hk) (QEX hp ht hL)
def Xf(pb:List Prop->Bool)(d:Puz)(E:ECt)(U:UC):Tab:=QZ (QZ QU 60 (KI pb (nbU d E))) 103 (KI pb U)
def G8(m e:Int):AV := .tup [.slz 0 0 f.length (.of 0),.slz 1 0 g.length (.of 0),.int false .i64 m,.int false .i64 e]
def j6:List (Nat×Blk):=[rwY 0 f,rwY 1 g]
abbrev QT5:List Prop:=(waa d++([cO=cO]++wad d))
abbrev QNg(d:Puz)(u:Nat->Nat->Int):List Prop:=((wbN)++waa d++(([cO=cO,0=0,E.1=E.1,E.2=E.2,0=0]++wbo d++[QB 1 d.ps.n (λx x_1=>(0:Int)) u])++wai++([Array.mk [18]=Array.mk [18]]++wby))++waa d++([cO=cO]++wb8)++waa d++((wb5)++wa2++(([0=0,0=0]++wb6++[(0:Int)=0,0=0,0=0,0=0,0=0,Fn.func 103=Fn.func 103])++wbN++[0=0,0=0]))++waa d++([cO=cO]++wad d))
abbrev QKs:List (Nat×Blk):=[(449,.rowz true 49 kB f'.length λi=>QA.enc (f'.getD i (Lay.mk (0:Int) (0:Int)))),(450,.rowz true 49 kB g'.length λi=> QA.enc (g'.getD i (Lay.mk (0:Int) (0:Int))))]
theorem QQo(pb:List Prop->Bool)(d:Puz)(E:ECt)(u:Nat->Nat->Int)(many':Int)(f' g':List Lay):Kf (mkE prog (Xf pb d E (VD d E (QM f24 0).1 (QM f24 0).2 u [] 0 [] [] many' f' g'))) (hnd (mkE prog (Xf pb d E (VD d E (QM f24 0).1 (QM f24 0).2 u [] 0 [] [] many' f' g'))) 8) f24 (QX.vals 0 ((d,()):Puz×Unit)) (QX.blks 0 ((d,()):Puz×Unit)) 96 = .need (decide (d.ps.n<=d.ps.n)&&true&&decide (d.ps.n<=1000)) (.br (!d.ok) (.leaf (.tup [.nils,.nils,vj 0,vj 1]) ([])) (.need (pb ((QT5 d))) (.need (decide ((d.ps.n:Int)=(d.ps.n:Int))&&decide ((0:Int)<=(d.ps.n:Int)/\(d.ps.n:Int)<=17179869184)) (.need (pb ((QNg E d u))) (.br (many'==0) (.leaf (.tup [.nils,.nils,vj 0, vj 4]) ([])) (.leaf (.tup [.slz 449 0 f'.length cO,.slz 450 0 g'.length cO,vi many',vj 0]) ((QKs f' g')))))))):=by kernel_rfl
theorem Qgp(pb:List Prop->Bool)(d:Puz)(E:ECt)(u:Nat->Nat->Int)(many':Int)(f' g':List Lay):Kf (mkE prog (Xf pb d E (Xe d E (QM f24 0).1 (QM f24 0).2 u [] 0 [] [] many' f' g'))) (hnd (mkE prog (Xf pb d E (Xe d E (QM f24 0).1 (QM f24 0).2 u [] 0 [] [] many' f' g'))) 8) f24 (QX.vals 0 ((d,()):Puz×Unit)) (QX.blks 0 ((d,()):Puz×Unit)) 96 = .need (decide (d.ps.n<=d.ps.n)&&true&&decide (d.ps.n<=1000)) (.br (!d.ok) (.leaf (.tup [.nils,.nils,vj 0,vj 1]) ([])) (.need (pb ((QT5 d))) (.need (decide ((d.ps.n:Int)=(d.ps.n:Int))&&decide ((0:Int)<=(d.ps.n:Int)/\(d.ps.n:Int)<=17179869184)) (.need (pb ((QNg E d u))) (.br (many'==0) (.leaf (.tup [.nils,.nils,vj 0, vj 4]) ([])) (.leaf (.tup [.slz 449 0 f'.length cO,.slz 450 0 g'.length cO,vi many',vj 0]) ((QKs f' g')))))))):=by kernel_rfl
theorem QYO(m e':Int):QF 96 [(AV.tup [AV.nils,AV.nils,vj (0:Int),vj (1:Int)])] ([]) (KW 96 (G8 f g m e') (j6 f g))=( some [f.length=(0:Nat),g.length=(0:Nat),(0:Int)=m,(1:Int)=e',f.length=(0:Nat),g.length=(0:Nat)]):=by kernel_rfl
theorem QZr(m e':Int):QF 96 [(AV.tup [AV.nils,AV.nils,vj (0:Int),vj (4:Int)])] ([]) (KW 96 (G8 f g m e') (j6 f g))=( some [f.length=(0:Nat),g.length=(0:Nat),(0:Int)=m,(4:Int)=e',f.length=(0:Nat),g.length=(0:Nat)]):=by kernel_rfl
abbrev wbd(f:List Lay)(f':List Lay)(g:List Lay)(g':List Lay):List Prop:=[f.length<=f'.length,QB (2:Nat) f.length (λi=>QA.enc (f'.getD i (Lay.mk (0:Int) (0:Int)))) λi=>QA.enc (f.getD i (Lay.mk (0:Int) (0:Int))),g.length<=g'.length,QB (2:Nat) g.length (λi=>QA.enc (g'.getD i (Lay.mk (0:Int) (0:Int)))) λi=>QA.enc (g.getD i (Lay.mk (0:Int) (0:Int)))]
theorem QVV(f' g' f g:List Lay)(m e':Int):QF 96 [(AV.tup [AV.slz (449:Nat) (0:Nat) f'.length cO,AV.slz (450:Nat) (0:Nat) g'.length cO,vi many',vj (0:Int)])] ([((449:Nat),Blk.rowz true (49:Nat) [CK.int i64,CK.int i64] f'.length λi=>QA.enc (f'.getD i (Lay.mk (0:Int) (0:Int)))),((450:Nat),Blk.rowz true (49:Nat) [CK.int i64,CK.int i64] g'.length λi=>QA.enc (g'.getD i (Lay.mk (0:Int) (0:Int))))]) (KW 96 (G8 f g m e') (j6 f g))=( some ([0=0,f'.length=f.length,cO=cO,0=0,g'.length=g.length,cO=cO,many'=m,(0:Int)=e']++wbd f f' g g')):=by kernel_rfl
theorem Qhx(m e':Int):QF 96 [(AV.tup [AV.nils,AV.nils,vj (0:Int),vj (4:Int)])] ([]) (KW 96 (G8 f g m e') (j6 f g))=( some [f.length=(0:Nat),g.length=(0:Nat),(0:Int)=m,(4:Int)=e',f.length=(0:Nat),g.length=(0:Nat)]):=by kernel_rfl
theorem QVq(f' g' f g:List Lay)(m e':Int):QF 96 [(AV.tup [AV.slz (449:Nat) (0:Nat) f'.length cO,AV.slz (450:Nat) (0:Nat) g'.length cO,vi many',vj (0:Int)])] ([((449:Nat),Blk.rowz true (49:Nat) [CK.int i64,CK.int i64] f'.length λi=>QA.enc (f'.getD i (Lay.mk (0:Int) (0:Int)))),((450:Nat),Blk.rowz true (49:Nat) [CK.int i64,CK.int i64] g'.length λi=>QA.enc (g'.getD i (Lay.mk (0:Int) (0:Int))))]) (KW 96 (G8 f g m e') (j6 f g))=( some ([0=0,f'.length=f.length,cO=cO,0=0,g'.length=g.length,cO=cO,many'=m,(0:Int)=e']++wbd f f' g g')):=by kernel_rfl
theorem V6{d:Puz}(h:d.okN=true):KB d/\0<d.ps.n/\d.ps.n<=9:=by
 simp only[Puz.okN,Qu,qbA,qdE,beq_iff_eq]at h;obtain⟨⟨h1,h2⟩,⟨h3,h4⟩,⟨h5,h6⟩,h7⟩:=h;have hm:d.wide*d.high<=9*9:=Int.mul_le_mul (by omega) (by omega) (by omega) (by omega)
 have hm0:0<=d.wide*d.high:=Int.mul_nonneg (by omega) (by omega)
 rw[w64 (by omega) (by omega)]at h7
 exact⟨⟨by omega,h3,h4,h5,h6,h7⟩,by omega,by omega⟩
theorem Vz{d:Puz}(h:d.ok=true):d.okN=true:=by
 rw[Puz.ok,qbA]at h;exact h.1
def QY:List Lay×List Lay×Int×Int:=cond d.ok
 (match onZ d (QI d) d.ps.n [] (0,[],[])with
  | .go s | .stop s=>cond (s.1==0) ([],[],0,4) (s.2.1,s.2.2,s.1,0))
 ([],[],0,1)
def XE:WF (Puz×Unit):=λ|(d,_)=>(decide (d.ps.n<=1000),G8 (QY d).1 (QY d).2.1 (QY d).2.2.1 (QY d).2.2.2,j6 (QY d).1 (QY d).2.1)
def QJ5:FC:=wFC XE
theorem QIm:WOk (XE (d,())).2.1 (XE (d,())).2.2:=⟨rfl,by simp[XE,j6,rwY,Blk.own,Blk.all],rfl⟩
theorem Qac(hn:d.ps.n<=1000)(hx:d.ok=false):QQ prog 24 (wFC (VK XE (d,()))):=by
 have hT:Qc (Xf (λ_=>false) d (QI d) (VD d (QI d) VI VO (QD []) [] 0 [] [] 0 [] [])):=(Qd.add (Jl (by kernel_rfl) _)).add (Jl (by kernel_rfl) _)
 have hv:QY d=([],[],0,1):=by simp only[QY,hx,cond_false]
 refine Yi (c:=Qk f24) (E:=mkE prog (Xf (λ_=>false) d (QI d) (VD d (QI d) VI VO (QD []) [] 0 [] [] 0 [] []))) (H:=hnd (mkE prog (Xf (λ_=>false) d (QI d) (VD d (QI d) VI VO (QD []) [] 0 [] [] 0 [] []))) 8) (QP hT) func24 (by kernel_rfl) (by kernel_rfl) (N:=96) (by decide) (d,()) (λG h1 _=>Qw (QP hT) 8 G _ h1) (QIm d) ?_
 refine Qe (QQo (λ_=>false) d (QI d) (QD []) 0 [] []) ?_;refine QG (by simp;omega) (QE (λ_=>?_) (λh=>by rw[hx]at h;cases h))
 simp only[XE,hv];refine⟨rfl,rfl,_,QYO [] [] 0 1,?_⟩
 repeat' first|with_reducible refine QN ?_ ?_|exact tv|with_reducible exact qRr|exact rfl|refine aI ?_ ?_
theorem Qaq(hx:d.ok=true):QQ prog 24 (wFC (VK XE (d,()))):=by
 obtain⟨hd,hpos,h9⟩:=V6 (Vz hx);have hon:=QdZ hd (Z4 d hd.n).w hpos d.ps.n [] (0,[],[]) (by simp) (λc hc=>by cases hc)
 have hdn:=hd.n;have hz:∀ k,QB 1 k (λ_ _=>0) (QD []):=λk i _=>⟨rfl,trivial⟩;cases he:onZ d (QI d) d.ps.n [] (0,[],[])with
 | go s=>
  rw[he]at hon;have hT:Qc (Xf QO d (QI d) (VD d (QI d) VI VO (QD []) [] 0 [] [] s.1 s.2.1 s.2.2)):=(Qd.add (Zy d (by omega))).add hon
  have hv:QY d=cond (s.1==0) ([],[],0,4) (s.2.1,s.2.2,s.1,0):=by
   simp only[QY,hx,he,cond_true]
  refine Yi (c:=Qk f24) (E:=mkE prog (Xf QO d (QI d) (VD d (QI d) VI VO (QD []) [] 0 [] [] s.1 s.2.1 s.2.2))) (H:=hnd (mkE prog (Xf QO d (QI d) (VD d (QI d) VI VO (QD []) [] 0 [] [] s.1 s.2.1 s.2.2))) 8) (QP hT) func24 (by kernel_rfl) (by kernel_rfl) (N:=96) (by decide) (d,()) (λG h1 _=>Qw (QP hT) 8 G _ h1) (QIm d) ?_
  have et:=QQo QO d (QI d) (QD []) s.1 s.2.1 s.2.2;refine Qe et ?_;clear et;refine QG ?_ ?_;rotate_left;refine QE ?_ ?_<;>intro b0
  .rw[hx]at b0;cases b0
  iterate 3 (refine QG ?_ ?_;rotate_left)
  refine QE (λb1=>?_) (λb1=>?_);simp only[XE,hv,show(s.1==0)=true from b1,cond_true];refine⟨rfl,rfl,_,QZr [] [] 0 4,?_⟩
  rotate_left
  simp only[XE,hv,show(s.1==0)=false from b1,cond_false];refine⟨rfl,rfl,_,QVV s.1 s.2.1 s.2.2 s.2.1 s.2.2 s.1 0,?_⟩
  rotate_left
  all_goals first|((with_reducible show _=true);(first|(refine Q9.2 ?_;repeat' first|with_reducible refine QN ?_ ?_|exact tv|with_reducible exact qRr|with_reducible exact hz _|exact rfl|refine aI ?_ ?_)|(simp;omega)))|(repeat' first|with_reducible refine QN ?_ ?_|exact tv|with_reducible exact qRr|exact rfl|refine aI ?_ ?_)
 | stop s=>
  rw[he]at hon;have hT:Qc (Xf QO d (QI d) (Xe d (QI d) VI VO (QD []) [] 0 [] [] s.1 s.2.1 s.2.2)):=(Qd.add (Zy d (by omega))).add hon
  have hv:QY d=cond (s.1==0) ([],[],0,4) (s.2.1,s.2.2,s.1,0):=by
   simp only[QY,hx,he,cond_true]
  refine Yi (c:=Qk f24) (E:=mkE prog (Xf QO d (QI d) (Xe d (QI d) VI VO (QD []) [] 0 [] [] s.1 s.2.1 s.2.2))) (H:=hnd (mkE prog (Xf QO d (QI d) (Xe d (QI d) VI VO (QD []) [] 0 [] [] s.1 s.2.1 s.2.2))) 8) (QP hT) func24 (by kernel_rfl) (by kernel_rfl) (N:=96) (by decide) (d,()) (λG h1 _=>Qw (QP hT) 8 G _ h1) (QIm d) ?_
  have et:=Qgp QO d (QI d) (QD []) s.1 s.2.1 s.2.2;refine Qe et ?_;clear et;refine QG ?_ ?_;rotate_left;refine QE ?_ ?_<;>intro b0
  .rw[hx]at b0;cases b0
  iterate 3 (refine QG ?_ ?_;rotate_left)
  refine QE (λb1=>?_) (λb1=>?_);simp only[XE,hv,show(s.1==0)=true from b1,cond_true];refine⟨rfl,rfl,_,Qhx [] [] 0 4,?_⟩
  rotate_left
  simp only[XE,hv,show(s.1==0)=false from b1,cond_false];refine⟨rfl,rfl,_,QVq s.1 s.2.1 s.2.2 s.2.1 s.2.2 s.1 0,?_⟩
  rotate_left
  all_goals first|((with_reducible show _=true);(first|(refine Q9.2 ?_;repeat' first|with_reducible refine QN ?_ ?_|exact tv|with_reducible exact qRr|with_reducible exact hz _|exact rfl|refine aI ?_ ?_)|(simp;omega)))|(repeat' first|with_reducible refine QN ?_ ?_|exact tv|with_reducible exact qRr|exact rfl|refine aI ?_ ?_)
theorem QaO(hx:(XE (d,())).1=true):QQ prog 24 (wFC (VK XE (d,()))):=by
 have hn:d.ps.n<=1000:=qdt hx;cases ho:d.ok with
 | false=>exact Qac d hn ho
 | true=>exact Qaq d ho
theorem QFv:QQ prog 24 QJ5:=zR (by kernel_rfl) λ|(d,()),hx=>QaO d hx
def haT:List AV:=[.ptr 200 0 0,(.slz 216 0 K.n C),.tup [],.tup [],.ptr 232 0 0,.ptr 200 0 0,(.slz 216 0 K.n C),.fn (.func 102) [.ptr 256 0 0,.ptr 264 0 0],.tup []]
def QF1:List AV:=[.ptr 256 0 0,.ptr 304 0 0,.ptr 368 0 0,.ptr 264 0 0,.ptr 384 0 0]
def haR:List (Nat×Blk):=
 [(384,.cellsR 0 31 [.fn (.func 103) QF1]),(304,.cellsR 0 105 [.yld 297]),(264,.cellsR 0 96 [(.slz 216 0 K.n C)]),(256,.cellsR 0 90 [.ptr 200 0 0])]++Qo.blk 216 K++Qo.blk 0 d.ps
def haW(ls:LoopState)(pe:Option Code)(v:Bool)(d:Puz)(E:ECt)(C:Cap)(K:Rw Pt)(ac body:Code)(u:Nat->Nat->Int)(l:List Lay)(a w:Nat):List (Nat×Blk):=
 [(200,.cells 0 152 (Kb d++[.map 201,.slz a 0 l.length (.of 0)])),(201,.mp E.1 E.2),rwY a l,(368,.cells 0 114 [.slz w 0 d.ps.n (.of 0)]),rwU w d u,(297,.lp ls pe (haT C K) #[8] ac body),(232,.cells 0 4 [.bool true v])]
def haS:List (Nat×AV):=[(0,.ptr 256 0 0),(1,.ptr 304 0 0),(2,.ptr 368 0 0),(3,.ptr 264 0 0),(4,.ptr 384 0 0)]
def HL(l:List Lay):JSt:=⟨5,haS,haW .ready none false d E C K ac body u l 400 408++haR d C K,416⟩
def WQ(_:List Lay)(_:Unit):Qb Unit := .stop ()
def haU(l:List Lay)  :UC:=
 ⟨392,HL d E C K ac body u l,λ_=>.bool false true,λm=>haW .ready none false d E C K ac body u l m (m+1)⟩
def haV(l:List Lay)  :UC:=
 ⟨392,HL d E C K ac body u l,λ_=>.bool false false,λm=>haW .done (some .ret) true d E C K ac body u l m (m+1)⟩
def Zq:List Nat:=[200,201,368,297,232]
def QG0(n:Nat)(p:Nat):List (Nat×AV):=haS++[(33,.int false .i64 n),(34,.int false .i64 p)]
def QX5(n:Nat)(p:Nat)(tn:Int)(t:Nat):List (Nat×AV):=QG0 n p++[(6,.int false .i64 p),(43,.int false .i64 tn),(44,.int false .i64 t)]
def Gp(l:List Lay)(p:Nat):JSt:=⟨101,QG0 d.ps.n p,haW .ready none false d E C K ac body u l 424 432++haR d C K,440⟩
def jg(l:List Lay)(p:Nat)(tn:Int)(t:Nat):JSt:=⟨101,QX5 d.ps.n p tn t,haW .ready none false d E C K ac body u l 424 432++haR d C K,440⟩
def HP(l:List Lay):JSt:=⟨101,[],haW .ready none false d E C K ac body u l 424 432,440⟩
def Hr(l:List Lay)(p:Nat):JSt:=⟨101,QG0 d.ps.n p,haW .ready none false d E C K ac body u l 424 432++haR d C K,440⟩
def haF(l:List Lay):JSt:=⟨101,[(5,.bool false false)],haW .done (some .ret) true d E C K ac body u l 424 432,440⟩
def QRX:Ex->List Nat
 | .normal=>[0,1,2,3,4,33,34]
 | .exit _=>[]
 | .ret=>[5]
def QFk:Ex->List Nat
 | .normal=>[0,1,2,3,4,33,34,6,43,44]
 | .exit _=>[0,1,2,3,4,33,34]
 | .ret=>[5]
def QA2(pb1 pb2:List Prop->Bool)(d:Puz)(E:ECt)(C:Cap)(K:Rw Pt)(l:List Lay)(x:Lay)(v:Bool)(U:UC):Tab:=QZ (QZ QU 105 (KI pb1 (myU d E l x v))) 103 (KI pb2 U)
abbrev waI:List AV:=[.ptr 256 0 0,.ptr 304 0 0,.ptr 368 0 0,.ptr 264 0 0,.ptr 384 0 0]
abbrev zD(tn:Int):List AV:=(.nilp::.ptr 101 0 0::List.append (waI) ((vi (d.ps.n:Int)::wbC p t tn)))
abbrev ju:Nat×Blk:=(256,.cellsR 0 90 [.ptr 200 0 0])
abbrev vR:Nat×Blk:=(264,.cellsR 0 96 [.slz 216 0 K.n C])
abbrev QEA:Nat×Blk:=(384,.cellsR 0 31 [.fn (Fn.func 103) (waI)])
abbrev vD:Nat×Blk:=(0,.frz (wae) d.ps.n λi=>QA.enc (d.ps.get i))
abbrev vU:Nat×Blk:=(216,.frz (wbI) K.n λi=>QA.enc (K.get i))
abbrev wbh(C:Cap)(K:Rw Pt)(ac:Code)(body:Code):List (Nat×Blk):=[(297,.lp LoopState.ready none (haT C K) (Array.mk [8]) ac body),(232,.cells 0 4 [.bool true false])]
abbrev WU(E:ECt)(K:Rw Pt)(ac:Code)(body:Code)(d:Puz)(l:List Lay)(u:Nat->Nat->Int):List (Nat×Blk):=((200,.cells 0 152 (List.append (waf d) ([.map 201,.slz 424 0 l.length cO])))::(201,.mp E.1 E.2)::(368,.cells 0 114 [.slz 432 0 d.ps.n cO])::List.append (wbh C K ac body) ([ju,(304,.cellsR 0 105 [.yld 297]),(vR C K),QEA,(vD d),(424,.rowz true 49 kB l.length λi=>QA.enc (l.getD i (Lay.mk (0:Int) (0:Int)))),(432,.rowz true 4 [CK.bool] d.ps.n u),(vU K)]))
abbrev QUB(d:Puz)(l:List Lay)(p:Nat)(t:Nat):List Prop:=([0=0,0=0,(p:Int)=(p:Int),(t:Int)=(t:Int)]++waa d++(((wb3 l)++wag l++[E.1=E.1,E.2=E.2])++wad d))
abbrev wau(l:List Lay)(l2:List Lay)(p:Nat)(t:Nat):List Prop:=[l2.length<=l.length+1,QB 2 l2.length (KH l.length (λi=>QA.enc (l.getD i (Lay.mk (0:Int) (0:Int)))) (Kt [[.int false .i64 (p:Int),vi (t:Int)]] 0)) λi=>QA.enc (l2.getD i (Lay.mk (0:Int) (0:Int)))]
abbrev waX(K:Rw Pt):List Prop:=[K.n<=K.n,QB 3 K.n (λi=>QA.enc (K.get i)) λi=>QA.enc (K.get i)]
abbrev QS3(E:ECt)(K:Rw Pt)(ac:Code)(body:Code)(d:Puz)(l:List Lay)(l2:List Lay)(p:Nat)(t:Nat)(u:Nat->Nat->Int)(u2:Nat->Nat->Int):List Prop:=((wbN)++waa d++((([cO=cO,0=0,l.length+1=l2.length,cO=cO,E.1=E.1,E.2=E.2]++wau l l2 p t++(wbo d++[QB 1 d.ps.n (λi=>bif decide (i=p)then KL [.bool true true] 0 (u ((p:Int).toNat+0))else u i) u2]))++wai++((([Array.mk [8]=Array.mk [8],ac=ac,body=body,0=0,0=0,0=0,K.n=K.n,C=C,0=0,0=0,0=0,0=0,0=0,K.n=K.n,C=C]++wb6++[false=false,Fn.func 103=Fn.func 103])++wbN++[0=0,K.n=K.n,C=C,0=0,0=0])++waX K))++wad d))
abbrev GI:Nat×Blk:=(200,.cells 0 152 (List.append (waf d) ([.map 201,.slz 752 0 (i64.wrap ((l2.length:Int)-1)).toNat cO])))
abbrev He:Nat×Blk:=(368,.cells 0 114 [.slz 753 0 d.ps.n cO])
abbrev zO:Nat×Blk:=(752,.rowz true 49 kB l2.length λi=>QA.enc (l2.getD i (Lay.mk (0:Int) (0:Int))))
abbrev Gs:Nat×Blk:=(753,.rowz true 4 [CK.bool] d.ps.n λi=>bif decide (i=p)then KL [.bool true false] 0 (u2 ((p:Int).toNat+0))else u2 i)
abbrev QLa:List AV:=(.ptr 2 0 0::.ptr 101 0 0::List.append (waI) ([vi (d.ps.n:Int),vi (p:Int)]))
theorem QdH(pb1 pb2:List Prop->Bool)(d:Puz)(E:ECt)(C:Cap)(K:Rw Pt)(ac body:Code)(u u2:Nat->Nat->Int)(l l2:List Lay)(v:Bool)(p:Nat)(tn:Int)(t:Nat)(g0:Nat->Value):exec (mkE prog (QA2 pb1 pb2 d E C K l ⟨p,t⟩ v (haU d E C K ac body u2 l2))) (hnd (mkE prog (QA2 pb1 pb2 d E C K l ⟨p,t⟩ v (haU d E C K ac body u2 l2))) 0) (Qa (QJ f103 0)) (JSt.inst (jg d E C K ac body u l p tn t) g0) (KD Zq QFk) = .br (decide ((t:Int)<tn)) (.need (decide (K.n<=K.n)&&(true&&(true&&true))&&decide (K.n<=1000)) (.br (!Qs K (l.length:Int) (Lay.mk (p:Int) (t:Int))) (.leaf (.tup (zD d p t tn)) ((WU C E K ac body d l u))) (.need (pb1 ((QUB E d l p t))) (.br (!v) (.leaf (.tup (zD d p t tn)) ((WU C E K ac body d l u))) (.need (decide ((0:Int)<=(p:Int)/\(p:Int)<(d.ps.n:Int))&&decide (d.ps.n<=d.ps.n)) (.need (decide (p<d.ps.n)) (.need (decide (l.length<=l.length)&&(true&&decide ((l.length+1+(l.length+1) / 4+192)*16<=281474976710656/\l.length+1<=9223372036854775807))) (.need (pb2 ((QS3 C E K ac body d l l2 p t u u2))) (.need (decide ((0:Int)<=i64.wrap ((l2.length:Int)-1)/\(i64.wrap ((l2.length:Int)-1)).toNat<=l2.length-0)) (.need (decide ((0:Int)<=(p:Int)/\(p:Int)<(d.ps.n:Int))&&decide (d.ps.n<=d.ps.n)) (.need (decide (p<d.ps.n)) (.br (false) (.leaf (.tup (wbs)) (((GI d l2)::(201,.mp E.1 E.2)::(He d)::List.append (wbh C K ac body) ([(vD d),(zO l2),(Gs d p u2),(vU K),ju,(vR C K)])))) (.leaf (.tup (zD d p t tn)) (((GI d l2)::(201,.mp E.1 E.2)::(He d)::List.append (wbh C K ac body) ([ju,(304,.cellsR 0 105 [.yld 297]),(vR C K),QEA,(vD d),(zO l2),(Gs d p u2),(vU K)])))))))))))))))) (.leaf (.tup (QLa d p)) ((WU C E K ac body d l u))):=by kernel_rfl
abbrev QIj(tn:Int):List AV:=(List.append (waI) ((wbR d p t tn)))
abbrev wbc(C:Cap)(K:Rw Pt):List Prop:=[K.n=K.n,C=C,Fn.func (102:FuncId)=Fn.func (102:FuncId)]
abbrev QPF(E:ECt)(K:Rw Pt)(ac:Code)(body:Code)(d:Puz)(l:List Lay)(p:Nat)(t:Nat)(t':Nat)(tn:Int)(u:Nat->Nat->Int):List Prop:=(((wbN)++waH d p t t' tn)++waa d++((([cO=cO,0=0]++wbO E l)++wag l++((wbo d++[QB 1 d.ps.n u u])++wai++(([Array.mk [8]=Array.mk [(8:Tmp)],ac=ac,body=body,0=0,0=0,0=0,K.n=K.n,C=C,0=0,0=0,0=0,0=0,0=0]++wbc C K++([0=0,0=0,0=0,0=0,false=false,Fn.func 103=Fn.func (103:FuncId)]++wbN++[0=0,K.n=K.n,C=C,0=0,0=0]))++waX K)))++wad d))
theorem QO0(l:List Lay)(p:Nat)(tn:Int)(t t':Nat):QF 416 (QIj d p t tn) ((WU C E K ac body d l u)) (jg d E C K ac body u l p tn t')=(some (QPF C E K ac body d l p t t' tn u)):=by kernel_rfl
theorem QOu(l:List Lay)(p:Nat)(tn:Int)(t t':Nat):QF 416 (QIj d p t tn) ((WU C E K ac body d l u)) (jg d E C K ac body u l p tn t')=(some (QPF C E K ac body d l p t t' tn u)):=by kernel_rfl
abbrev XO:List Prop:=[0=0,0=0,0=0,0=0]
abbrev QMh(d:Puz)(l:List Lay)(l2:List Lay)(p:Nat)(u2:Nat->Nat->Int)(u3:Nat->Nat->Int):List Prop:=([d.pK.dK.lo=d.pK.dK.lo,d.pK.dK.hi=d.pK.dK.hi,d.wide=d.wide,d.high=d.high,d.turn=d.turn,0=0,d.ps.n=d.ps.n,cO=cO,0=0,(i64.wrap ((l2.length:Int)-1)).toNat=l.length,cO=cO]++waM E l l2++(wbo d++[QB 1 d.ps.n (λi=>bif decide (i=p)then KL [.bool true false] 0 (u2 ((p:Int).toNat+0))else u2 i) u3]))
abbrev QIS:List Prop:=[Array.mk [8]=Array.mk [(8:Tmp)],ac=ac,body=body,0=0,0=0,0=0,K.n=K.n,C=C]
abbrev QOA(d:Puz):List Prop:=(([0=0,0=0,K.n=K.n,C=C,0=0,0=0]++waX K)++wad d)
abbrev wbu(d:Puz):List Prop:=[d.pK.length=d.pK.length,d.pK.aK=d.pK.aK]
theorem QgB(u u2 u3:Nat->Nat->Int)(l l2:List Lay)(p:Nat)(tn:Int)(t t':Nat):QF 416 (QIj d p t tn) (((GI d l2)::(201,.mp E.1 E.2)::(He d)::List.append (wbh C K ac body) ([ju,(304,.cellsR 0 105 [.yld 297]),(vR C K),QEA,(vD d),(zO l2),(Gs d p u2),(vU K)]))) (jg d E C K ac body u3 l p tn t')=(some (XO++XO++([0=0,0=0]++waH d p t t' tn++(wbu d++[d.pK.oK=d.pK.oK]))++(QMh E d l l2 p u2 u3)++(wai)++(QIS C K ac body)++XO++([0=0]++wbc C K)++XO++[false=false,Fn.func 103=Fn.func (103:FuncId)]++XO++XO++[0=0]++(QOA C K d))):=by kernel_rfl
theorem QQC(l:List Lay)(p:Nat):QF 416 (List.append (waI) ([vi (d.ps.n:Int),vi (p:Int)])) ((WU C E K ac body d l u)) (Hr d E C K ac body u l p)=(some (XO++XO++(([0=0,0=0]++wbp d p)++waa d++(([cO=cO,0=0]++wbO E l)++wag l++((wbo d++[QB 1 d.ps.n u u])++wai)))++(QIS C K ac body)++XO++([0=0]++wbc C K)++XO++[false=false,Fn.func 103=Fn.func (103:FuncId)]++XO++XO++[0=0]++(QOA C K d))):=by kernel_rfl
abbrev waV(C:Cap)(K:Rw Pt)(ac:Code)(body:Code):List (Nat×Blk):=[(297,.lp LoopState.done (some Code.ret) (haT C K) (Array.mk [8]) ac body),(232,.cells 0 4 [.bool true true])]
theorem QXA(pb1 pb2:List Prop->Bool)(d:Puz)(E:ECt)(C:Cap)(K:Rw Pt)(ac body:Code)(u u2:Nat->Nat->Int)(l l2:List Lay)(v:Bool)(p:Nat)(tn:Int)(t:Nat)(g0:Nat->Value):exec (mkE prog (QA2 pb1 pb2 d E C K l ⟨p,t⟩ v (haV d E C K ac body u2 l2))) (hnd (mkE prog (QA2 pb1 pb2 d E C K l ⟨p,t⟩ v (haV d E C K ac body u2 l2))) 0) (Qa (QJ f103 0)) (JSt.inst (jg d E C K ac body u l p tn t) g0) (KD Zq QFk) = .br (decide ((t:Int)<tn)) (.need (decide (K.n<=K.n)&&(true&&(true&&true))&&decide (K.n<=1000)) (.br (!Qs K (l.length:Int) (Lay.mk (p:Int) (t:Int))) (.leaf (.tup (zD d p t tn)) ((WU C E K ac body d l u))) (.need (pb1 ((QUB E d l p t))) (.br (!v) (.leaf (.tup (zD d p t tn)) ((WU C E K ac body d l u))) (.need (decide ((0:Int)<=(p:Int)/\(p:Int)<(d.ps.n:Int))&&decide (d.ps.n<=d.ps.n)) (.need (decide (p<d.ps.n)) (.need (decide (l.length<=l.length)&&(true&&decide ((l.length+1+(l.length+1) / 4+192)*16<=281474976710656/\l.length+1<=9223372036854775807))) (.need (pb2 ((QS3 C E K ac body d l l2 p t u u2))) (.need (decide ((0:Int)<=i64.wrap ((l2.length:Int)-1)/\(i64.wrap ((l2.length:Int)-1)).toNat<=l2.length-0)) (.need (decide ((0:Int)<=(p:Int)/\(p:Int)<(d.ps.n:Int))&&decide (d.ps.n<=d.ps.n)) (.need (decide (p<d.ps.n)) (.br (true) (.leaf (.tup (wbs)) (((GI d l2)::(201,.mp E.1 E.2)::(He d)::List.append (waV C K ac body) ([(vD d),(zO l2),(Gs d p u2),(vU K),ju,(vR C K)])))) (.leaf (.tup (zD d p t tn)) (((GI d l2)::(201,.mp E.1 E.2)::(He d)::List.append (waV C K ac body) ([ju,(304,.cellsR 0 105 [.yld 297]),(vR C K),QEA,(vD d),(zO l2),(Gs d p u2),(vU K)])))))))))))))))) (.leaf (.tup (QLa d p)) ((WU C E K ac body d l u))):=by kernel_rfl
theorem QYI(u2 u3:Nat->Nat->Int)(l l2:List Lay)(p:Nat):QF 416 [.bool true false] (((GI d l2)::(201,.mp E.1 E.2)::(He d)::List.append (waV C K ac body) ([(vD d),(zO l2),(Gs d p u2),(vU K),ju,(vR C K)]))) (haF d E C K ac body u3 l)=(some (([false=false]++wbu d++[d.pK.oK=d.pK.oK])++(QMh E d l l2 p u2 u3)++[LoopState.done=LoopState.done,some Code.ret=some Code.ret]++(QIS C K ac body)++XO++([0=0]++wbc C K)++XO++[true=true])):=by kernel_rfl
