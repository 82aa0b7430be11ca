/- - -/
import Derived.Test.YtekbmehgcofnkaaGreatKzl
import Derived.Test.YtekbmehgcofnkaaGreatKp
set_option linter.all false
noncomputable section
open Go.Proofs.Tryz
open Go.IntKind (i64)
set_option maxRecDepth 100000
namespace Go.Proofs.YtekbmehgcofnkaaGreat
open Go.SX Go.SX.Told
variable {k:Nat}(pb:List Prop->Bool)(d:Puz)(E:ECt)(w0:TwP)(p:Nat)(o:List Tw)(ac body:Code)(z z':Nat)(u:Nat->Nat->Int)(l:List Lay)(rec:List Lay->TJ->QZ TJ)(f':Nat)
def V6(s:TJ):QZ TJ->UC
 | .go s'=>twU d E w0 ac body (QD l) l s.1 s'.1
 | .stop s'=>twV d E w0 ac body (QD l) l s.1 s'.1
open Classical in
def WB(p t:Nat):List Prop->Bool:=if t<QX d p then QP else λ_=>false
def jA(P:Program)(d:Puz)(E:ECt)(w0:TwP)(ac body:Code)(rec:List Lay->TJ->QZ TJ)(l:List Lay)(p:Nat)(k:Nat×TJ):Env:=
 mkE P (QA0 (WB d p k.1) (WB d p k.1) d E w0 l ⟨p,k.1⟩ (Q0 d E l ⟨p,k.1⟩) (V6 d E w0 ac body (l++[⟨p,k.1⟩]) k.2 (rec (l++[⟨p,k.1⟩]) k.2)))
def ZF(l:List Lay)(p:Nat)(k:Nat×TJ)(e:Ex)(J:JSt):Prop:=match Qw (KB d E rec l p) ((List.range (QX d p)).drop k.1) k.2 with
 | .go s'=>e = .exit 2/\J=H5 d E w0 ac body (QD l) l s'.1 p
 | .stop s'=>e = .ret/\J=twF d E w0 ac body (QD l) l s'.1
set_option maxHeartbeats 1000000 in
theorem QV1(l:List Lay)(p:Nat)(hp:p<d.ps.n)(hn:d.ps.n<=1000)(hl:l.length<=1000)(hu:KI l p=false):Jf (λk:Nat×TJ=>vP d E w0 ac body (QD l) l k.2.1 p (tnV d p) k.1) (λk=>k.1<=QX d p) (λk=>QX d p-k.1) (ZF d E w0 ac body rec l p) 632 QHD WD (jA prog d E w0 ac body rec l p) (λk=>hnd (jA prog d E w0 ac body rec l p k) 0) (QY (QH f103 0)):=by
 refine⟨λk g0 hk=>?_⟩;obtain⟨t,f,hq0⟩:=k;have hk:t<=QX d p:=hk;obtain⟨ht1,ht4⟩:=Zg d p;have hlen:(l++[(⟨p,t⟩:Lay)]).length=l.length+1:=by rw[List.length_append,List.length_singleton]
 have hw1:i64.wrap (((l++[(⟨p,t⟩:Lay)]).length:Int)-1)=l.length:=(w64 (by omega) (by omega)).trans (by omega)
 have hpop:(i64.wrap (((l++[(⟨p,t⟩:Lay)]).length:Int)-1)).toNat=l.length:=by rw[hw1];exact Int.toNat_natCast _
 have hle:l.length<=(l++[(⟨p,t⟩:Lay)]).length:=by omega
 have hpb:t<QX d p->WB d p t=QP:=λh=>by unfold WB;rw[if_pos h]
 have wt:t<QX d p->i64.wrap ((t:Int)+1)=((t+1:Nat):Int):=λh=>(w64 (by omega) (by omega)).trans (by omega)
 have step:=λh:t<QX d p=>Wc (f:=KB d E rec l p) h ⟨f,hq0⟩;unfold jA;simp only
 have next:t<QX d p->∀{s2:TJ},KB d E rec l p ⟨f,hq0⟩ t = .go s2->∀ e J,ZF d E w0 ac body rec l p (t+1,s2) e J->ZF d E w0 ac body rec l p (t,⟨f,hq0⟩) e J:=by
  intro h s2 he e J hr;unfold ZF at hr ⊢;simp only at hr ⊢;rw[step h,he];exact hr
 have last:QX d p<=t->ZF d E w0 ac body rec l p (t,⟨f,hq0⟩) (.exit 2) (H5 d E w0 ac body (QD l) l f p):=by
  intro h;unfold ZF;simp only[WH h,and_self]
 cases hr:rec (l++[⟨p,t⟩]) ⟨f,hq0⟩with
 | go s'=>
  obtain⟨f',hq1⟩:=s';simp only[V6];have et:=QbJ (WB d p t) (WB d p t) d E w0 ac body (QD l) (QD (l++[⟨p,t⟩])) l (l++[⟨p,t⟩]) (Q0 d E l ⟨p,t⟩) f p (tnV d p) t f' g0;refine Qe et ?_;clear et;refine QF (λb0=>?_) (λb0=>?_);have h:t<QX d p:=by have:=qdt b0;omega
  rw[hpb h];have hw:=wt h;refine QG ?_ ?_;rotate_left;refine QF ?_ ?_<;>intro b1
  .exact Bool.noConfusion (show false=true from b1)
  refine QG ?_ ?_;rotate_left;refine QF (λb2=>?_) (λb2=>?_);have hv:Q0 d E l ⟨p,t⟩=false:=by simpa using b2
  have ho:KB d E rec l p ⟨f,hq0⟩ t = .go ⟨f,hq0⟩:=by unfold KB;rw[hv];rfl
  refine⟨(t+1,⟨f,hq0⟩),h,by show QX d p-(t+1)<QX d p-t;omega,next h ho,rfl,rfl,_,QJn d E w0 ac body (QD l) l f p (tnV d p) t (t+1),?_⟩
  rotate_left
  iterate 7 (refine QG ?_ ?_;rotate_left)
  refine QF ?_ ?_<;>intro b3
  .cases b3
  have hv:Q0 d E l ⟨p,t⟩=true:=by simpa using b2
  have ho:KB d E rec l p ⟨f,hq0⟩ t = .go ⟨f',hq1⟩:=by unfold KB;rw[hv];exact hr
  have hb:=qE l d.ps.n p t hu;have hq:=qN l ⟨p,t⟩;have hnx:=next h ho
  clear next last step hr ho
  generalize QD (l++[⟨p,t⟩])=u2 at hb ⊢;generalize l++[⟨p,t⟩]=l2 at hpop hle hq ⊢;generalize hu1:QD l=u1 at hb ⊢;refine⟨(t+1,⟨f',hq1⟩),h,by show QX d p-(t+1)<QX d p-t;omega,hnx,rfl,rfl,_,QTV d E w0 ac body u1 u2 u1 l l2 p (tnV d p) t (t+1) f',?_⟩
  rotate_left
  have h:QX d p<=t:=by have:=qdf b0;omega
  refine⟨_,last h,rfl,rfl,_,QKB d E w0 ac body (QD l) l f p,?_⟩
  rotate_left
  all_goals first|((with_reducible show _=true);(first|rfl|(refine Q7.2 ?_;repeat' first|with_reducible refine QO ?_ ?_|exact tv|with_reducible exact qRr|with_reducible exact hlen|with_reducible exact hlen.symm|with_reducible exact Nat.le_of_eq hlen|with_reducible exact qO l ⟨p,t⟩|with_reducible exact Wa l _ p t|exact rfl|refine aI ?_ ?_)|(rw[hw1];simp)|(simp;omega)))|(repeat' first|with_reducible refine QO ?_ ?_|exact tv|with_reducible exact qRr|with_reducible exact hw|with_reducible exact hpop|with_reducible exact hle|with_reducible exact hq|with_reducible exact hb|exact rfl|refine aI ?_ ?_)
 | stop s'=>
  obtain⟨f',hq1⟩:=s';simp only[V6];have et:=QfK (WB d p t) (WB d p t) d E w0 ac body (QD l) (QD (l++[⟨p,t⟩])) l (l++[⟨p,t⟩]) (Q0 d E l ⟨p,t⟩) f p (tnV d p) t f' g0;refine Qe et ?_;clear et;refine QF (λb0=>?_) (λb0=>?_);have h:t<QX d p:=by have:=qdt b0;omega
  rw[hpb h];have hw:=wt h;refine QG ?_ ?_;rotate_left;refine QF ?_ ?_<;>intro b1
  .exact Bool.noConfusion (show false=true from b1)
  refine QG ?_ ?_;rotate_left;refine QF (λb2=>?_) (λb2=>?_);have hv:Q0 d E l ⟨p,t⟩=false:=by simpa using b2
  have ho:KB d E rec l p ⟨f,hq0⟩ t = .go ⟨f,hq0⟩:=by unfold KB;rw[hv];rfl
  refine⟨(t+1,⟨f,hq0⟩),h,by show QX d p-(t+1)<QX d p-t;omega,next h ho,rfl,rfl,_,QJn d E w0 ac body (QD l) l f p (tnV d p) t (t+1),?_⟩
  rotate_left
  iterate 7 (refine QG ?_ ?_;rotate_left)
  refine QF (λb3=>?_) (λb3=>?_);have hv:Q0 d E l ⟨p,t⟩=true:=by simpa using b2
  have ho:KB d E rec l p ⟨f,hq0⟩ t = .stop ⟨f',hq1⟩:=by unfold KB;rw[hv];exact hr
  have hrel:ZF d E w0 ac body rec l p (t,⟨f,hq0⟩) .ret (twF d E w0 ac body (QD l) l f'):=by
   unfold ZF;simp only[step h,ho,and_self]
  have hb:=qE l d.ps.n p t hu;have hq:=qN l ⟨p,t⟩;clear next last step hr ho
  generalize QD (l++[⟨p,t⟩])=u2 at hb ⊢;generalize l++[⟨p,t⟩]=l2 at hpop hle hq ⊢;generalize hu1:QD l=u1 at hb hrel ⊢;refine⟨_,hrel,rfl,rfl,_,QYV d E w0 ac body u2 u1 l l2 p f',?_⟩
  rotate_left
  .cases b3
  have h:QX d p<=t:=by have:=qdf b0;omega
  refine⟨_,last h,rfl,rfl,_,QKB d E w0 ac body (QD l) l f p,?_⟩
  rotate_left
  all_goals first|((with_reducible show _=true);(first|rfl|(refine Q7.2 ?_;repeat' first|with_reducible refine QO ?_ ?_|exact tv|with_reducible exact qRr|with_reducible exact hlen|with_reducible exact hlen.symm|with_reducible exact Nat.le_of_eq hlen|with_reducible exact qO l ⟨p,t⟩|with_reducible exact Wa l _ p t|exact rfl|refine aI ?_ ?_)|(rw[hw1];simp)|(simp;omega)))|(repeat' first|with_reducible refine QO ?_ ?_|exact tv|with_reducible exact qRr|with_reducible exact hw|with_reducible exact hpop|with_reducible exact hle|with_reducible exact hq|with_reducible exact hb|exact rfl|refine aI ?_ ?_)
def QCK(l:List Lay)(p:Nat):Prop:=∀ t,t<QX d p->∀ s,QR prog 103 (uFC (V6 d E w0 ac body (l++[⟨p,t⟩]) s (rec (l++[⟨p,t⟩]) s)))
theorem QZr{d:Puz}{E:ECt}{w0:TwP}{ac body:Code}{rec:List Lay->TJ->QZ TJ}{l:List Lay}{p:Nat}(hd:KK d)(hE:WfE E)(hl:l.length<=1000)(hL:∀ y∈l,Q9 d y)(hp:p<d.ps.n)(IH:QCK d E w0 ac body rec l p)(k:Nat×TJ):(jA prog d E w0 ac body rec l p k).Sound:=by
 unfold jA WB
 by_cases h:k.1<QX d p
 .rw[if_pos h];have h4:=(Zg d p).2;exact QN ((Qb.add (QBd d E l ⟨p,k.1⟩ hd hE hl hL ⟨⟨by show(0:Int)<=p;omega,by show(p:Int)<_;omega⟩,by show(0:Int)<=k.1;omega,by show(k.1:Int)<=3;omega⟩)).add (IH k.1 h k.2))
 .rw[if_neg h];exact QN ((Qb.add (Ja (by kernel_rfl) _)).add (Ja (by kernel_rfl) _))
def Hl(l:List Lay)(p:Nat)(s:TJ):List (Prop×Ex×JSt):=
 [((inZ d E rec l p s).isGo=true,.exit 2,H5 d E w0 ac body (QD l) l (inZ d E rec l p s).s.1 p),((inZ d E rec l p s).isGo=false,.ret,twF d E w0 ac body (QD l) l (inZ d E rec l p s).s.1)]
theorem QYE{d:Puz}{E:ECt}{w0:TwP}{ac body:Code}{rec:List Lay->TJ->QZ TJ}{l:List Lay}(hd:KK d)(hE:WfE E)(hl:l.length<=1000)(hL:∀ y∈l,Q9 d y)(p:Nat)(s:TJ)(IH:p<d.ps.n->QCK d E w0 ac body rec l p)(G:Ctx)(hrd:G.rd=none)(hG:G.n<=632):
  Qx (mkE prog (Wg QP d l.length p)) G (QBV prog QP d E w0 ac body (QD l) l s.1 p (Hl d E w0 ac body rec l p s)) (QH f103 0):=by
 have hT:Qc (Wg QP d l.length p):=Qb.add (YP d l.length p);refine KR (body:=QY (QH f103 0)) (QN hT) hrd (by kernel_rfl) ?_
 refine JK λhp=>?_;have hu:=QD7 hp.2;have hEnv:=QZr (ac:=ac) (body:=body) hd hE hl hL hp.1 (IH hp.1);refine Jp (E0:=mkE prog (Wg QP d l.length p)) (E:=jA prog d E w0 ac body rec l p) (H:=λk=>hnd (jA prog d E w0 ac body rec l p k) 0) (n0:=632) (s0:=(0,s)) (λ_=>rfl) hEnv hG (λk _=>Qu (hEnv k) 0 G _ hrd) (λk _=>(by decide:632<=672)) ?_ (QV1 d E w0 ac body rec l p hp.1 hd.n hl hu) (Nat.zero_le _) ?_
 .intro k e J hr;unfold ZF at hr;split at hr<;>(rw[hr.2];exact(by decide:632<=672))
 .intro e J hr;unfold ZF at hr;simp only[List.drop_zero]at hr;have hi:inZ d E rec l p s=Qw (KB d E rec l p) (List.range (QX d p)) s:=rfl;unfold Hl;rw[hi];cases hc:Qw (KB d E rec l p) (List.range (QX d p)) s with
  | go s'=>
   rw[hc]at hr;exact⟨_,qmc,rfl,hr.1.symm,hr.2.symm⟩
  | stop s'=>
   rw[hc]at hr;exact⟨_,List.mem_cons_of_mem _ qmc,rfl,hr.1.symm,hr.2.symm⟩
def Xl(l:List Lay)(k:Nat×TJ)(e:Ex)(J:JSt):Prop:=match Qw (Km d E rec l) ((List.range d.ps.n).drop k.1) k.2 with
 | .go s'=>e = .exit 0/\J=vQ d E w0 ac body (QD l) l s'.1
 | .stop s'=>e = .ret/\J=twF d E w0 ac body (QD l) l s'.1
set_option maxHeartbeats 1000000 in
theorem QaD(l:List Lay)(hn:d.ps.n<=1000):Jf (λk:Nat×TJ=>ve d E w0 ac body (QD l) l k.2.1 k.1) (λk=>k.1<=d.ps.n) (λk=>d.ps.n-k.1) (Xl d E w0 ac body rec l) 632 QPB WD (λk=>mkE prog (Wg QP d l.length k.1)) (λk=>QBV prog QP d E w0 ac body (QD l) l k.2.1 k.1 (Hl d E w0 ac body rec l k.1 k.2)) (QH f103 0):=by
 refine⟨λk g0 hk=>?_⟩;obtain⟨p,f,hq0⟩:=k;have hk:p<=d.ps.n:=hk;have wp:p<d.ps.n->i64.wrap ((p:Int)+1)=((p+1:Nat):Int):=λh=>Vj h hn;have step:=λh:p<d.ps.n=>Wc (f:=Km d E rec l) h ⟨f,hq0⟩
 have next:p<d.ps.n->∀{s2:TJ},Km d E rec l ⟨f,hq0⟩ p = .go s2->∀ e J,Xl d E w0 ac body rec l (p+1,s2) e J->Xl d E w0 ac body rec l (p,⟨f,hq0⟩) e J:=by
  intro h s2 he e J hr;unfold Xl at hr ⊢;simp only at hr ⊢;rw[step h,he];exact hr
 have stop:p<d.ps.n->∀{s2:TJ},Km d E rec l ⟨f,hq0⟩ p = .stop s2->Xl d E w0 ac body rec l (p,⟨f,hq0⟩) .ret (twF d E w0 ac body (QD l) l s2.1):=by
  intro h s2 he;unfold Xl;simp only[step h,he,and_self]
 have last:d.ps.n<=p->Xl d E w0 ac body rec l (p,⟨f,hq0⟩) (.exit 0) (vQ d E w0 ac body (QD l) l f):=by
  intro h;unfold Xl;simp only[WH h,and_self]
 have hpz:KI l p=false->Km d E rec l ⟨f,hq0⟩ p=inZ d E rec l p ⟨f,hq0⟩:=λh=>by unfold Km;rw[h];rfl
 have hpu:KI l p=true->Km d E rec l ⟨f,hq0⟩ p = .go ⟨f,hq0⟩:=λh=>by unfold Km;rw[h];rfl
 unfold Hl;simp only;cases hr:inZ d E rec l p ⟨f,hq0⟩with
 | go s'=>
  obtain⟨f',hq1⟩:=s';simp only[QZ.isGo,QZ.s,Bool.true_eq_false,Bool.false_eq_true];have et:=QQ4 QP d E w0 ac body (QD l) (QD l) l f p True False f' g0;refine Qe et ?_;clear et;refine QF (λb0=>?_) (λb0=>?_);have h:p<d.ps.n:=by have:=qdt b0;omega
  have hw:=wp h
  iterate 2 (refine QG ?_ ?_;rotate_left)
  refine QF (λb1=>?_) (λb1=>?_);have hub:KI l p=true:=VR.symm.trans b1;refine⟨(p+1,⟨f,hq0⟩),h,by show d.ps.n-(p+1)<d.ps.n-p;omega,next h (hpu hub),rfl,rfl,_,QJv d E w0 ac body (QD l) l f p (p+1),?_⟩
  rotate_left
  have hub:KI l p=false:=VR.symm.trans b1;have hu0:QD l p 0=0:=by unfold QD;rw[hub];rfl
  refine QG ?_ ?_;rotate_left
  iterate 143 refine Qp (by first|exact tv|exact⟨h,hu0⟩|with_reducible exact qRr|exact rfl) ?_
  refine Kb ?_ ?_;refine Qf λa0=>?_;refine Qh λg0=>?_;refine⟨(p+1,⟨f',hq1⟩),h,by show d.ps.n-(p+1)<d.ps.n-p;omega,next h ((hpz hub).trans hr),rfl,rfl,_,QaC d E w0 ac body (QD l) l p (p+1) f',?_⟩
  rotate_left
  refine Qf λa1=>?_;refine Qh λg1=>?_
  .exact a1.elim
  have h:d.ps.n<=p:=by have:=qdf b0;omega
  refine⟨_,last h,rfl,rfl,_,QO2 d E w0 ac body (QD l) l f,?_⟩
  rotate_left
  all_goals first|((with_reducible show _=true);(first|(refine Q7.2 ?_;repeat' first|exact tv|with_reducible exact qRr|exact rfl|refine aI ?_ ?_)|(simp;omega)))|(repeat' first|with_reducible refine QO ?_ ?_|exact tv|with_reducible exact qRr|with_reducible exact hw|exact rfl|refine aI ?_ ?_)
 | stop s'=>
  obtain⟨f',hq1⟩:=s';simp only[QZ.isGo,QZ.s,Bool.true_eq_false,Bool.false_eq_true];have et:=QQ4 QP d E w0 ac body (QD l) (QD l) l f p False True f' g0;refine Qe et ?_;clear et;refine QF (λb0=>?_) (λb0=>?_);have h:p<d.ps.n:=by have:=qdt b0;omega
  have hw:=wp h
  iterate 2 (refine QG ?_ ?_;rotate_left)
  refine QF (λb1=>?_) (λb1=>?_);have hub:KI l p=true:=VR.symm.trans b1;refine⟨(p+1,⟨f,hq0⟩),h,by show d.ps.n-(p+1)<d.ps.n-p;omega,next h (hpu hub),rfl,rfl,_,QJv d E w0 ac body (QD l) l f p (p+1),?_⟩
  rotate_left
  have hub:KI l p=false:=VR.symm.trans b1;have hu0:QD l p 0=0:=by unfold QD;rw[hub];rfl
  refine QG ?_ ?_;rotate_left
  iterate 143 refine Qp (by first|exact tv|exact⟨h,hu0⟩|with_reducible exact qRr|exact rfl) ?_
  refine Kb ?_ ?_;refine Qf λa0=>?_;refine Qh λg0=>?_
  .exact a0.elim
  refine Qf λa1=>?_;refine Qh λg1=>?_;refine⟨_,stop h ((hpz hub).trans hr),rfl,rfl,_,QSs d E w0 ac body (QD l) l f',?_⟩
  rotate_left
  have h:d.ps.n<=p:=by have:=qdf b0;omega
  refine⟨_,last h,rfl,rfl,_,QO2 d E w0 ac body (QD l) l f,?_⟩
  rotate_left
  all_goals first|((with_reducible show _=true);(first|(refine Q7.2 ?_;repeat' first|exact tv|with_reducible exact qRr|exact rfl|refine aI ?_ ?_)|(simp;omega)))|(repeat' first|with_reducible refine QO ?_ ?_|exact tv|with_reducible exact qRr|with_reducible exact hw|exact rfl|refine aI ?_ ?_)
abbrev ZP:Code:=(Qz (QY (QH f21 0))).1
abbrev Zy:Code:=(Qz (QY (QH f21 0))).2
theorem QQo(f:Nat)(f':Nat):(twU d E w0 ac body u l f f').Ok:=by
 refine⟨(by decide:592<=632),rfl,rfl,?_,rfl,λ_ _=>rfl,λnid h=>?_⟩
 .intro q hq;simp only[UC.po,twU,twW,rwY,rwU,rwT,bdZ,List.mem_cons,List.not_mem_nil,or_false]at hq;rcases hq with rfl|rfl|rfl|rfl|rfl|rfl|rfl|rfl|rfl|rfl|rfl<;>refine⟨rfl,rfl,rfl,?_⟩<;>first|exact λ_=>rfl|exact λh=>absurd (show 632<592 from h) (by decide)|exact λh=>absurd (show 633<592 from h) (by decide)|exact λh=>absurd (show 634<592 from h) (by decide)|exact λh=>absurd (show 635<592 from h) (by decide)
 .have e0:=KW 592 632 0 nid (by decide)
  have e1:=KW 592 632 1 nid (by decide)
  have e2:=KW 592 632 2 nid (by decide)
  have e3:=KW 592 632 3 nid (by decide)
  simp only[UC.po,twU,twW,rwY,rwU,rwT,bdZ,Gl,twT,KT,Qi.val,List.cons_append,List.nil_append,List.map_cons,List.map_nil,Blk.mapId,AV.mapId,AV.mapIdL,Nat.add_zero]at e0 e1 e2 e3 ⊢;rw[e0,e1,e2,e3];rfl
theorem QMU(f:Nat)(f':Nat):(twV d E w0 ac body u l f f').Ok:=by
 refine⟨(by decide:592<=632),rfl,rfl,?_,rfl,λ_ _=>rfl,λnid h=>?_⟩
 .intro q hq;simp only[UC.po,twV,twW,rwY,rwU,rwT,bdZ,List.mem_cons,List.not_mem_nil,or_false]at hq;rcases hq with rfl|rfl|rfl|rfl|rfl|rfl|rfl|rfl|rfl|rfl|rfl<;>refine⟨rfl,rfl,rfl,?_⟩<;>first|exact λ_=>rfl|exact λh=>absurd (show 632<592 from h) (by decide)|exact λh=>absurd (show 633<592 from h) (by decide)|exact λh=>absurd (show 634<592 from h) (by decide)|exact λh=>absurd (show 635<592 from h) (by decide)
 .have e0:=KW 592 632 0 nid (by decide)
  have e1:=KW 592 632 1 nid (by decide)
  have e2:=KW 592 632 2 nid (by decide)
  have e3:=KW 592 632 3 nid (by decide)
  simp only[UC.po,twV,twW,rwY,rwU,rwT,bdZ,Gl,twT,KT,Qi.val,List.cons_append,List.nil_append,List.map_cons,List.map_nil,Blk.mapId,AV.mapId,AV.mapIdL,Nat.add_zero]at e0 e1 e2 e3 ⊢;rw[e0,e1,e2,e3];rfl
def HV(l v:List Lay)(p q:Int)(z:Nat)(vb:Bool)(z':Nat):Tab:=Qa (Qa QS 63 (KE pb (swU l p q v))) 62 (KE pb (iqU d E v z vb z'))
abbrev twM(P : Program)(T : Tab): Hnd := { hnd (mkE P T) 5 with loop := λ_ _ _=>.fail "a loop" }
abbrev QMu:Nat×Blk:=
  (200,.cells 0 152 (List.append (waf d) ([.map 201,.slz 600 0 l.length cO])))
abbrev QQt:Nat×Blk:=
  (288,.cells 0 152 (List.append (waf d) ([.map 289,.slz 824 0 f' cO])))
abbrev QNz:Nat×Blk:=
  (0,.frz (wae) d.ps.n λi=>QA.enc (d.ps.get i))
abbrev QQN(d:Puz)(f':Nat)(l:List Lay)(u:Nat->Nat->Int)(w0:TwP):List (Nat×Blk):=
  [(QMu d l),(201,.mp E.1 E.2),(568,.cells 0 114 [.slz 608 0 d.ps.n cO]),(497,.lp LoopState.done (some (Code.exit 4)) (twT d w0) (Array.mk [31]) (Qz (QY (QH
  f21 0))).1 (Qz (QY (QH f21 0))).2),(120,.cells 0 36 [.slz 872 0 (w0.o.length+1) cO]),(QQt d f'),(289,.mp E.1 E.2),(QNz d),(600,.rowz true
  49 [.int .i64,.int .i64] l.length λi=>QA.enc (l.getD i (Lay.mk (0:Int) (0:Int)))),(608,.rowz true 4 [CK.bool] d.ps.n u),(296,.cellsR 0 90 [.ptr 288 0 0]),(400,
  .cellsR 0 3 [vi (w0.p:Int)]),(432,.cellsR 0 3 [vi (w0.q:Int)]),(456,.cellsR 0 90 [.ptr 200 0 0]),(464,.cellsR 0 96 [.nils]),(872,.rowz true 89 kB (w0.o.length+1) (KF w0.o.length (λi=>QA.enc (w0.o.getD i (Tw.mk (0:Int) (0:Int)))) (Kg [[vi (w0.q:Int),vi (w0.p
  : Int)]] 0)))]
abbrev QKy(d:Puz)(f':Nat)(l:List Lay)(u:Nat->Nat->Int)(w0:TwP):List (Nat×Blk):=
  [(QMu d l),(201,.mp E.1 E.2),(568,.cells 0 114 [.slz 608 0 d.ps.n cO]),(497,.lp LoopState.ready none (twT d w0) (Array.mk [31]) (Qz (QY (QH f21
  0))).1 (Qz (QY (QH f21 0))).2),(120,.cells 0 36 [.slz 616 0 w0.o.length cO]),(QQt d f'),(289,.mp E.1 E.2),(QNz d),(600,.rowz true 49 kB l.length λi=>QA.enc (l.getD i (Lay.mk (0:Int) (0:Int)))),(608,.rowz true 4 [CK.bool] d.ps.n u),(296,.cellsR 0 90 [.ptr 288 0 0]),(400,.cellsR 0 3 [.int
  false .i64 (w0.p:Int)]),(432,.cellsR 0 3 [vi (w0.q:Int)]),(456,.cellsR 0 90 [.ptr 200 0 0]),(464,.cellsR 0 96 [.nils]),(616,.rowz true 89 [.int .i64,.int
  .i64] w0.o.length λi=>QA.enc (w0.o.getD i (Tw.mk (0:Int) (0:Int))))]
theorem QXS(l v:List Lay)(f:Nat)(vb:Bool)(f':Nat):(Vh (mkE prog (HV pb d E l v w0.p w0.q f vb f')) (twM prog (HV pb d E l v w0.p w0.q f vb f')) f103 QHa (Gl d E w0 (Qz (QY (QH f21
  0))).1 (Qz (QY (QH f21 0))).2 u l f).hp 632 λv h _=>Y0 WD v h) = .br ((l.length:Int)==(d.ps.n:Int)) (.need (pb ([0=0,l.length=l.length,Cap.of
  0=Cap.of 0,(w0.p:Int)=(w0.p:Int),(w0.q:Int)=(w0.q:Int),l.length<=l.length,QB 2 l.length (λi=>QA.enc (l.getD i (Lay.mk (0:Int) (0:Int)))) λi=>
  QA.enc (l.getD i (Lay.mk (0:Int) (0:Int)))])) (.need (pb ([0=0,0=0,0=0,v.length=v.length,Cap.of 0=Cap.of 0,d.pK.length=d.pK.length,d.pK.aK =
  d.pK.aK,d.pK.oK=d.pK.oK,d.pK.dK.lo=d.pK.dK.lo,d.pK.dK.hi=d.pK.dK.hi,d.wide=d.wide,d.high=d.high,d.turn=d.turn,0=0,d.ps.n =
  d.ps.n,Cap.of 0=Cap.of 0,0=0,f=f,Cap.of 0=Cap.of 0,E.1=E.1,E.2=E.2,v.length<=v.length,QB 2 v.length (λi=>QA.enc (v.getD i (Lay.mk (0:Int) (0 :
  Int)))) λi=>QA.enc (v.getD i (Lay.mk (0:Int) (0:Int))),d.ps.n<=d.ps.n,QB 28 d.ps.n (λi=>QA.enc (d.ps.get i)) λi=>QA.enc (d.ps.get i)])) (.br (vb)
  (.need (decide (w0.o.length<=w0.o.length)&&(true&&decide ((w0.o.length+1+(w0.o.length+1) / 4+192)*16<=281474976710656/\w0.o.length+1<=9223372036854775807)))
  (.leaf (.bool true false) ((QQN E d f' l u w0)))) (.leaf (.bool true true) ((QKy E d f' l u w0)))))) (.fail ("a loop")) := by kernel_rfl
abbrev QEm:List Prop:=
  (waa d++[cO=cO,0=0])
abbrev QJo(d:Puz)(l:List Lay):List Prop:=
  ((wb2 E l)++wag l++(wbO d))
abbrev QR2:List Prop:=
  ([Array.mk [31]=Array.mk [(31:Tmp)]]++wbc++[w0.g 0=w0.g 0])
abbrev GW:List Prop:=
  [0=0,0=0,0=0,0=0]
abbrev QNa:List Prop:=
  ([w0.g 10=w0.g 10]++wap d w0++(([true=true,(w0.q:Int)=(w0.q:Int)]++wb5++[0=0])++war w0))
theorem QZk(l v:List Lay)(f f':Nat):QE 632 [(.bool true false)] ((QQN E d f' l u w0)) (KQ (twV d E w0 (Qz (QY (QH f21 0))).1 (Qz (QY (QH f21 0))).2 u l f f'))=(some ([false=false]++(QEm d)++(QJo E d l)++[QB 1 d.ps.n u u,LoopState.done=LoopState.done,some (Code.exit 4)=some (Code.exit 4)]++(QR2 w0)++GW++[w0.g 3=w0.g 3] ++ GW++GW++[w0.g 8=w0.g 8,w0.g 9=w0.g 9]++(QNa d w0)++(wbf w0++[0=0,w0.o.length+1=w0.o2.length,cO=cO,w0.o2.length<=w0.o.length+1,QB 2 w0.o2.length (KF w0.o.length (λi=>QA.enc (w0.o.getD i (Tw.mk (0:Int) (0:Int)))) (Kg [[vi (w0.q:Int),vi (w0.p:Int)]] 0)) λi=>QA.enc (w0.o2.getD i (Tw.mk (0:Int) (0:Int)))])++(QEm d)++[f'=f',cO=cO,E.1=E.1,E.2=E.2])):=by kernel_rfl
theorem QfW(l v:List Lay)(f f':Nat):QE 632 [(.bool true true)] ((QKy E d f' l u w0)) (KQ (twU d E w0 (Qz (QY (QH f21 0))).1 (Qz (QY (QH f21 0))).2 u l f f'))=(some ([true=true]++(QEm d)++(QJo E d l)++([QB 1 d.ps.n u u]++wak)++(QR2 w0)++GW++[w0.g 3=w0.g 3]++GW++GW ++ [w0.g 8=w0.g 8,w0.g 9=w0.g 9]++(QNa d w0)++((wbf w0++[0=0,w0.o.length=w0.o.length,cO=cO])++wau w0)++(QEm d)++[f'=f',cO=cO,E.1=E.1,E.2=E.2])):=by kernel_rfl
def twA(p q:Nat)(l:List Lay)(s:TJ):QZ TJ:=cond (Vn d E (l.map (swS p q))) (.stop ⟨iqZ d E (l.map (swS p q)) s.1,trivial⟩) (.go ⟨iqZ d E (l.map (swS p q)) s.1,trivial⟩)
abbrev twY:List Lay->TJ->QZ TJ:=twA d E w0.p w0.q
theorem QL4(T:Tab)(hT:Qc T)(G:Ctx)(hrd:G.rd=none):Qx (mkE prog T) G (twM prog T) (Qk f103):=
 KR (body:=QH f103 0) (QN hT) hrd (by kernel_rfl) (λ_ _ _ _ _ _ _ h _ _=>h.elim)
theorem QUH(l:List Tw)(x:Tw):QB 2 (l++[x]).length (KF l.length (λi=>QA.enc (l.getD i ⟨0,0⟩)) (Kg [[.int false .i64 x.a,.int false .i64 x.b]] 0)) λi=>QA.enc ((l++[x]).getD i ⟨0,0⟩):=by
 intro i hi;rw[List.length_append,List.length_singleton]at hi;show eqF 2 0 _ (QA.enc ((l++[x]).getD i ⟨0,0⟩))
 by_cases h:i<l.length
 .have e:(l++[x]).getD i ⟨0,0⟩=l.getD i ⟨0,0⟩:=by
   rw[List.getD_eq_getElem?_getD,List.getD_eq_getElem?_getD,List.getElem?_append_left h]
  rw[e];refine⟨?_,?_,trivial⟩<;>(rw[YI,if_pos h])
 .obtain rfl:i=l.length:=by omega
  have e:(l++[x]).getD l.length ⟨0,0⟩=x:=by
   rw[List.getD_eq_getElem?_getD,List.getElem?_append_right (qlr _)];simp
  rw[e];refine⟨?_,?_,trivial⟩<;>(rw[YI,if_neg h,Nat.sub_self];rfl)
theorem QXL{d:Puz}{p q:Nat}(hp:p<d.ps.n)(hq:q<d.ps.n){l:List Lay}(hL:∀ y∈l,Q9 d y):∀ y∈l.map (swS p q),Q9 d y:=by
 intro y hy;obtain⟨x,hx,rfl⟩:=List.mem_map.1 hy;obtain⟨h1,h2⟩:=hL x hx;unfold swS;cases (x.piece==(p:Int))
 .cases (x.piece==(q:Int))
  .exact⟨h1,h2⟩
  .exact⟨⟨by show(0:Int)<=p;omega,by show(p:Int)<_;omega⟩,h2⟩
 .exact⟨⟨by show(0:Int)<=q;omega,by show(q:Int)<_;omega⟩,h2⟩
set_option maxHeartbeats 1000000 in
theorem QV7{d:Puz}(hd:KK d){E:ECt}(hE:WfE E){w0:TwP}(hw:w0.o2=w0.o++[⟨w0.q,w0.p⟩])(hol:w0.o.length<=1000000)(hp:w0.p<d.ps.n)(hq:w0.q<d.ps.n)(hpos:0<d.ps.n)(l:List Lay)(s:TJ)(hk:l.length=d.ps.n)(hL:∀ y∈l,Q9 d y):QR prog 103 (uFC (V6 d E w0 ZP Zy l s (twY d E w0 l s))):=by
 have hll:l.length<=1000:=by rw[hk];exact hd.n
 have hvl:(l.map (swS w0.p w0.q)).length<=1000:=by rw[List.length_map];exact hll
 have hT:Qc (HV QP d E l (l.map (swS w0.p w0.q)) w0.p w0.q s.1 (Vn d E (l.map (swS w0.p w0.q))) (iqZ d E (l.map (swS w0.p w0.q)) s.1)):=(Qb.add (QWk l w0.p w0.q (by omega) hll)).add (QZ2 hd hE hvl (QXL hp hq hL) s.1)
 have et:=QXS QP d E w0 (QD l) l (l.map (swS w0.p w0.q)) s.1 (Vn d E (l.map (swS w0.p w0.q))) (iqZ d E (l.map (swS w0.p w0.q)) s.1);have hlen:((l.length:Int)==(d.ps.n:Int))=true:=by rw[hk];simp
 have ho2:w0.o2.length=w0.o.length+1:=by rw[hw];simp
 have hr:=QUH w0.o ⟨w0.q,w0.p⟩;rw[<-hw]at hr;unfold twY twA;cases h0:Vn d E (l.map (swS w0.p w0.q))with
 | true=>
  rw[h0]at hT et;simp only[cond_true,V6];refine Kw (E:=mkE prog (HV QP d E l (l.map (swS w0.p w0.q)) w0.p w0.q s.1 true (iqZ d E (l.map (swS w0.p w0.q)) s.1))) (QN hT) func103 (by kernel_rfl) (by kernel_rfl) (QMU ..) (λG hG _=>QL4 _ hT G hG) ⟨?_⟩
  refine Qe et ?_;clear et;refine QF ?_ ?_<;>intro b0
  iterate 2 (refine QG ?_ ?_;rotate_left)
  refine QF (λb1=>?_) (λb1=>?_);refine QG ?_ ?_;rotate_left;refine⟨rfl,rfl,_,QZk d E w0 (QD l) l (l.map (swS w0.p w0.q)) s.1 (iqZ d E (l.map (swS w0.p w0.q)) s.1),?_⟩
  rotate_left
  .cases b1
  .exact Bool.noConfusion (hlen.symm.trans b0)
  all_goals first|((with_reducible show _=true);(first|(refine Q7.2 ?_;repeat' first|with_reducible refine QO ?_ ?_|exact tv|with_reducible exact qRr|exact rfl|refine aI ?_ ?_)|(simp;omega)))|(repeat' first|with_reducible refine QO ?_ ?_|exact tv|with_reducible exact qRr|with_reducible exact hr|exact ho2.symm|exact Nat.le_of_eq ho2|exact rfl|refine aI ?_ ?_)
 | false=>
  rw[h0]at hT et;simp only[cond_false,V6];refine Kw (E:=mkE prog (HV QP d E l (l.map (swS w0.p w0.q)) w0.p w0.q s.1 false (iqZ d E (l.map (swS w0.p w0.q)) s.1))) (QN hT) func103 (by kernel_rfl) (by kernel_rfl) (QQo ..) (λG hG _=>QL4 _ hT G hG) ⟨?_⟩
  refine Qe et ?_;clear et;refine QF ?_ ?_<;>intro b0
  iterate 2 (refine QG ?_ ?_;rotate_left)
  refine QF ?_ ?_<;>intro b1
  .cases b1
  refine⟨rfl,rfl,_,QfW d E w0 (QD l) l (l.map (swS w0.p w0.q)) s.1 (iqZ d E (l.map (swS w0.p w0.q)) s.1),?_⟩
  rotate_left
  .exact Bool.noConfusion (hlen.symm.trans b0)
  all_goals first|((with_reducible show _=true);(first|(refine Q7.2 ?_;repeat' first|with_reducible refine QO ?_ ?_|exact tv|with_reducible exact qRr|exact rfl|refine aI ?_ ?_)|(simp;omega)))|(repeat' first|with_reducible refine QO ?_ ?_|exact tv|with_reducible exact qRr|exact rfl|refine aI ?_ ?_)
theorem QRQ{d:Puz}{E:ECt}{w0:TwP}{ac body:Code}{rec:List Lay->TJ->QZ TJ}{l:List Lay}(hd:KK d)(hE:WfE E)(hl:l.length<=1000)(hL:∀ y∈l,Q9 d y)(s:TJ)(IH:∀ p,p<d.ps.n->QCK d E w0 ac body rec l p){X:List (Prop×Ex×JSt)}(hX:∀ e J,Xl d E w0 ac body rec l (0,s) e J->∃ y∈X,y.1/\y.2.1=e/\y.2.2=J)(G:Ctx)(hrd:G.rd=none)(hG:G.n=632):
  Qx (mkE prog QS) G (twX prog (ve d E w0 ac body (QD l) l s.1 0) X) (Qk f103):=by
 refine KR (body:=QH f103 0) (QN Qb) hrd (by kernel_rfl) ?_
 have hEnv:∀ k:Nat×TJ,(mkE prog (Wg QP d l.length k.1)).Sound:=λk=>QN (Qb.add (YP d l.length k.1));refine Jp (E0:=mkE prog QS) (E:=λk:Nat×TJ=>mkE prog (Wg QP d l.length k.1)) (H:=λk=>QBV prog QP d E w0 ac body (QD l) l k.2.1 k.1 (Hl d E w0 ac body rec l k.1 k.2)) (n0:=632) (s0:=(0,s)) (λ_=>rfl) hEnv (by omega) (λk _=>QYE hd hE hl hL k.1 k.2 (IH k.1) G hrd (by omega)) (λk _=>(by decide:632<=672)) ?_ (QaD d E w0 ac body rec l hd.n) (Nat.zero_le _) hX
 intro k e J hr;unfold Xl at hr;split at hr<;>(rw[hr.2];exact(by decide:632<=672))
set_option maxHeartbeats 1000000 in
theorem Qb6{d:Puz}{E:ECt}{w0:TwP}(hd:KK d)(hE:WfE E){l:List Lay}(hk:l.length+(k+1)=d.ps.n)(hL:∀ y∈l,Q9 d y)(IH:∀ p,p<d.ps.n->QCK d E w0 ZP Zy (onY d E (twY d E w0) k) l p)(s:TJ):QR prog 103 (uFC (V6 d E w0 ZP Zy l s (onY d E (twY d E w0) (k+1) l s))):=by
 have hdn:=hd.n;have hr0:onY d E (twY d E w0) (k+1) l s=Qw (Km d E (onY d E (twY d E w0) k) l) (List.range d.ps.n) s:=rfl;rw[hr0];have hne:((l.length:Int)==(d.ps.n:Int))=false:=by rw[beq_eq_false_iff_ne];omega
 obtain⟨f,hq0⟩:=s;cases hc:Qw (Km d E (onY d E (twY d E w0) k) l) (List.range d.ps.n) ⟨f,hq0⟩with
 | go s'=>
  obtain⟨f',hq1⟩:=s';simp only[V6];have et:=QMQ d E w0 (QD l) (QD l) l f True False f';refine Kw (E:=mkE prog QS) (QN Qb) func103 (by kernel_rfl) (by kernel_rfl) (QQo ..) (QRQ hd hE (by omega) hL ⟨f,hq0⟩ IH (X:=[(True,.exit 0,vQ d E w0 ZP Zy (QD l) l f'),(False,.ret,twF d E w0 ZP Zy (QD l) l f')]) ?_) ⟨?_⟩
  .intro e J hr;unfold Xl at hr;simp only[List.drop_zero,hc]at hr;exact⟨_,qmc,trivial,hr.1.symm,hr.2.symm⟩
  refine Qe et ?_;clear et;refine QF ?_ ?_<;>intro b0
  .exact Bool.noConfusion (hne.symm.trans b0)
  iterate 139 refine Qp (by first|exact tv|with_reducible exact qRr|exact rfl) ?_
  refine Kb ?_ ?_;refine Qf λa0=>?_;refine Qh λg0=>?_;refine⟨rfl,rfl,_,QZY d E w0 (QD l) (QD l) l f f',?_⟩
  rotate_left
  refine Qf λa1=>?_;refine Qh λg1=>?_
  .exact a1.elim
  all_goals (repeat' first|with_reducible refine QO ?_ ?_|exact tv|with_reducible exact qRr|exact rfl|refine aI ?_ ?_)
 | stop s'=>
  obtain⟨f',hq1⟩:=s';simp only[V6];have et:=QMQ d E w0 (QD l) (QD l) l f False True f';refine Kw (E:=mkE prog QS) (QN Qb) func103 (by kernel_rfl) (by kernel_rfl) (QMU ..) (QRQ hd hE (by omega) hL ⟨f,hq0⟩ IH (X:=[(False,.exit 0,vQ d E w0 ZP Zy (QD l) l f'),(True,.ret,twF d E w0 ZP Zy (QD l) l f')]) ?_) ⟨?_⟩
  .intro e J hr;unfold Xl at hr;simp only[List.drop_zero,hc]at hr;exact⟨_,List.mem_cons_of_mem _ qmc,trivial,hr.1.symm,hr.2.symm⟩
  refine Qe et ?_;clear et;refine QF ?_ ?_<;>intro b0
  .exact Bool.noConfusion (hne.symm.trans b0)
  iterate 139 refine Qp (by first|exact tv|with_reducible exact qRr|exact rfl) ?_
  refine Kb ?_ ?_;refine Qf λa0=>?_;refine Qh λg0=>?_
  .exact a0.elim
  refine Qf λa1=>?_;refine Qh λg1=>?_;refine⟨rfl,rfl,_,QS4 d E w0 (QD l) (QD l) l f f',?_⟩
  rotate_left
  all_goals (repeat' first|with_reducible refine QO ?_ ?_|exact tv|with_reducible exact qRr|exact rfl|refine aI ?_ ?_)
theorem QXd{d:Puz}{E:ECt}{w0:TwP}(hd:KK d)(hE:WfE E)(hw:w0.o2=w0.o++[⟨w0.q,w0.p⟩])(hol:w0.o.length<=1000000)(hp:w0.p<d.ps.n)(hq:w0.q<d.ps.n)(hpos:0<d.ps.n)(k:Nat):∀(l:List Lay) (s:TJ),l.length+k=d.ps.n->(∀ y∈l,Q9 d y)->QR prog 103 (uFC (V6 d E w0 ZP Zy l s (onY d E (twY d E w0) k l s))):=by
 induction k with
 | zero=>exact λl s hk hL=>QV7 hd hE hw hol hp hq hpos l s hk hL
 | succ k ih=>
  intro l s hk hL;refine Qb6 hd hE hk hL ?_ s;intro p hp t ht s;exact ih _ s (QBt l _ hk) (QDq hp ht hL)
def toS:List (Nat×AV):=[(1,.ptr 112 0 0),(2,.ptr 120 0 0),(4,.ptr 200 0 0),(5,.ptr 296 0 0),(21,.int false .i64 d.ps.n),(22,.int false .i64 p)]
def toW(o:List Tw):List (Nat×Blk):=[bdL d 392,(201,.mp E.1 E.2),rwY 392 [],bdZ d 384 z,(289,.mp E.1 E.2),(120,.cells 0 36 [.slz 408 0 o.length (.of 0)]),rwT 408 o]
def toR:List (Nat×Blk):=[(296,.cells 0 90 [.ptr 288 0 0]),(112,.cells 0 28 (KT d))]++Qi.blk 0 d.ps
def toJ(o:List Tw):JSt:=⟨48,toS d p,toW d E z o++toR d,416⟩
def toF:JSt:=⟨48,[(2,.ptr 120 0 0)],[(120,.cells 0 36 [.slz 408 0 o.length (.of 0)]),rwT 408 o],416⟩
def tiJ(p q:Nat)(z:Nat)(o:List Tw):JSt:=⟨48,toS d p++[(6,.ptr 400 0 0),(25,.int false .i64 p),(26,.int false .i64 q)],toW d E z o++(400,.cells 0 3 [.int false .i64 p])::toR d,416⟩
def jh:List Nat:=[200,201,120,288,289,296,112]
def QQC:Ex->List Nat
 | .normal=>[1,2,4,5,21,22]
 | .exit _=>[2]
 | .ret=>[]
def QEu:Ex->List Nat
 | .normal=>[1,2,4,5,21,22,6,25,26]
 | .exit _=>[1,2,4,5,21,22]
 | .ret=>[]
def QBM(U:UC):Tab:=Qa QS 103 (KE pb U)
abbrev waV(o:List Tw):List Prop:=[o.length<=o.length,QB 2 o.length (λi=>QA.enc (o.getD i (Tw.mk (0:Int) (0 :
  Int)))) λi=>QA.enc (o.getD i (Tw.mk (0:Int) (0:Int)))]
abbrev QLE(d:Puz)(g0:Nat->Value)(o:List Tw)(p:Nat)(q:Nat)(u:Nat->Nat->Int)(z:Nat):List Prop:=
  ((wb1)++waa d++(((wcb E)++wao++(wbO d++[QB 1 d.ps.n (λx x_1=>(0:Int)) u]))++wak++(([Array.mk [31]=Array.mk
  [31]]++wbc++(([g0 0=g0
  0,0=0,0=0,0=0,0=0,g0 (0+1+1+1)=g0 3]++wcl++[g0 (0+1+1+1+1+1+1+1+1)=g0 8,g0 (0+1+1+1 +
  1+1+1+1+1+1)=g0 9,g0 (0+1+1+1+1+1+1+1+1+1+1)=g0 10,g0 (0+1+1+1+1+1+1+1+1+1+1+1)=g0 11,g0 (0+1+1+1+1+1+1+1
  + 1+1+1+1+1)=g0 12,g0 (0+1+1+1+1+1+1+1+1+1+1+1+1+1)=g0 13,g0 (0+1+1+1+1+1+1+1+1+1+1+1+1+1+1)=g0 14,g0 (0+1 +
  1+1+1+1+1+1+1+1+1+1+1+1+1+1)=g0 15,g0 (0+1+1+1+1+1+1+1+1+1+1+1+1+1+1+1+1)=g0 16,g0 (0+1+1+1+1+1+1+1+1
  + 1+1+1+1+1+1+1+1+1)=g0 17,g0 (0+1+1+1+1+1+1+1+1+1+1+1+1+1+1+1+1+1+1)=g0 18,g0 (0+1+1+1+1+1+1+1+1+1+1 +
  1+1+1+1+1+1+1+1+1)=g0 19,g0 (0+1+1+1+1+1+1+1+1+1+1+1+1+1+1+1+1+1+1+1+1)=g0 20])++wbq d p++([g0 (0+1+1+1+1+1+1+1+1+1+1+1+1+1+1+1+1+1+1+1+1+1+1+1)=g0 23,g0 (0+1+1+1+1+1+1+1+1+1+1+1+1 +
  1+1+1+1+1+1+1+1+1+1+1+1)=g0 24,(p:Int)=(p:Int),(q:Int)=(q:Int),true=true,(q:Int)=(q:Int),0=0,0=0]++wcd++[g0 (0+1+1+1+1+1+1+1+1+1+1+1+1+1+1+1+1+1+1+1+1+1+1+1+1+1+1+1+1+1+1+1)=g0 31,g0 (0+1+1 +
  1+1+1+1+1+1+1+1+1+1+1+1+1+1+1+1+1+1+1+1+1+1+1+1+1+1+1+1+1+1)=g0 32,g0 (0+1+1+1+1+1+1+1+1+1+1+1+1
  + 1+1+1+1+1+1+1+1+1+1+1+1+1+1+1+1+1+1+1+1+1)=g0 33,g0 (0+1+1+1+1+1+1+1+1+1+1+1+1+1+1+1+1+1+1+1+1 +
  1+1+1+1+1+1+1+1+1+1+1+1+1+1)=g0 34,g0 (0+1+1+1+1+1+1+1+1+1+1+1+1+1+1+1+1+1+1+1+1+1+1+1+1+1+1+1+1
  + 1+1+1+1+1+1+1)=g0 35,g0 (0+1+1+1+1+1+1+1+1+1+1+1+1+1+1+1+1+1+1+1+1+1+1+1+1+1+1+1+1+1+1+1+1+1+1 +
  1+1)=g0 36,g0 (0+1+1+1+1+1+1+1+1+1+1+1+1+1+1+1+1+1+1+1+1+1+1+1+1+1+1+1+1+1+1+1+1+1+1+1+1+1)=g0 37,g0 (0+1+1+1+1+1+1+1+1+1+1+1+1+1+1+1+1+1+1+1+1+1+1+1+1+1+1+1+1+1+1+1+1+1+1+1+1+1+1)=g0 38,g0 (0+1+1
  + 1+1+1+1+1+1+1+1+1+1+1+1+1+1+1+1+1+1+1+1+1+1+1+1+1+1+1+1+1+1+1+1+1+1+1+1+1)=g0 39,g0 (0+1+1+1+1 +
  1+1+1+1+1+1+1+1+1+1+1+1+1+1+1+1+1+1+1+1+1+1+1+1+1+1+1+1+1+1+1+1+1+1+1+1)=g0 40,g0 (0+1+1+1+1+1+1
  + 1+1+1+1+1+1+1+1+1+1+1+1+1+1+1+1+1+1+1+1+1+1+1+1+1+1+1+1+1+1+1+1+1+1+1)=g0 41,g0 (0+1+1+1+1+1+1 +
  1+1+1+1+1+1+1+1+1+1+1+1+1+1+1+1+1+1+1+1+1+1+1+1+1+1+1+1+1+1+1+1+1+1+1+1)=g0 42,g0 (0+1+1+1+1+1+1
  + 1+1+1+1+1+1+1+1+1+1+1+1+1+1+1+1+1+1+1+1+1+1+1+1+1+1+1+1+1+1+1+1+1+1+1+1+1)=g0 43,g0 (0+1+1+1+1 +
  1+1+1+1+1+1+1+1+1+1+1+1+1+1+1+1+1+1+1+1+1+1+1+1+1+1+1+1+1+1+1+1+1+1+1+1+1+1+1+1)=g0 44,g0 (0+1+1
  + 1+1+1+1+1+1+1+1+1+1+1+1+1+1+1+1+1+1+1+1+1+1+1+1+1+1+1+1+1+1+1+1+1+1+1+1+1+1+1+1+1+1+1)=g0 45,g0 (0+1+1+1+1+1+1+1+1+1+1+1+1+1+1+1+1+1+1+1+1+1+1+1+1+1+1+1+1+1+1+1+1+1+1+1+1+1+1+1+1+1+1+1+1
  + 1+1)=g0 46,g0 (0+1+1+1+1+1+1+1+1+1+1+1+1+1+1+1+1+1+1+1+1+1+1+1+1+1+1+1+1+1+1+1+1+1+1+1+1+1+1+1 +
  1+1+1+1+1+1+1+1)=g0 47,0=0,o.length=o.length,cO=cO])))++waV o))++waa d++(([cO=cO,0=0,z=z,cO=cO,E.1=E.1,E.2=E.2,Fn.func 103=Fn.func 103]++wb1++[0=0,0=0,(q:Int)=(q:Int),(p:Int)=(p:Int),0
  = 0,0=0])++wad d))
abbrev wa9(d:Puz):List AV:=[.ptr 112 0 0,.ptr 120 0 0,.ptr 200 0 0,.ptr 296 0 0,vi (d.ps.n:Int)]
abbrev QJG(q:Nat):List AV:=
  (.nilp::.ptr 48 0 0::List.append (wa9 d) ([vi (p:Int),.ptr 400 0 0,vi (p:Int),.int
  false .i64 (i64.wrap ((q:Int)+1))]))
abbrev QKx:Nat×Blk:=
  (200,.cells 0 152 (List.append (waf d) ([.map 201,.slz 616 0 0 cO])))
abbrev QKF:Nat×Blk:=
  (288,.cells 0 152 (List.append (waf d) ([.map 289,.slz 619 0 z' cO])))
abbrev QBY:Nat×Blk:=
  (296,.cells 0 90 [.ptr 288 0 0])
abbrev QBz:Nat×Blk:=
  (112,.cells 0 28 (waf d))
abbrev QCR:Nat×Blk:=
  (0,.frz (wae) d.ps.n λi=>QA.enc (d.ps.get i))
abbrev QKj:Nat×Blk:=
  (616,.rowz true 49 kB 0 λi=>QA.enc ([].getD i (Lay.mk (0:Int) (0:Int))))
abbrev QQx(d:Puz)(o:List Tw)(p:Nat)(z':Nat):List (Nat×Blk):=
  [(QKx d),(201,.mp E.1 E.2),(120,.cells 0 36 [.slz 618 0 o.length cO]),(QKF d z'),(289,.mp E.1 E.2),QBY,(QBz d),(400,.cells 0 3 [vi (p:Int)]),
  (QCR d),QKj,(618,.rowz true 89 kB o.length λi=>QA.enc (o.getD i (Tw.mk (0:Int) (0:Int))))]
abbrev QQM:List AV:=
  (.ptr 2 0 0::.ptr 48 0 0::List.append (wa9 d) ([vi (p:Int)]))
abbrev QPo:Nat×Blk:=
  (200,.cells 0 152 (List.append (waf d) ([.map 201,.slz 392 0 0 cO])))
abbrev QMo:Nat×Blk:=
  (392,.rowz true 49 kB 0 λi=>QA.enc ([].getD i (Lay.mk (0:Int) (0:Int))))
abbrev vR(d:Puz)(o:List Tw)(z:Nat):List (Nat×Blk):=
  [(QPo d),(201,.mp E.1 E.2),(120,.cells 0 36 [.slz 408 0 o.length cO]),(288,.cells 0 152 (vi d.pK.length::vi d.pK.aK::.int false .i64
  d.pK.oK::vi d.pK.dK.lo::vi d.pK.dK.hi::vi d.wide::vi d.high::List.append (wbS d) ([.slz 384 0 z cO]))),(289,.mp E.1 E.2),QBY,(QBz d),(QCR d),QMo,(408,.rowz true 89 kB o.length λi=>QA.enc (o.getD i (Tw.mk (0 :
  Int) (0:Int))))]
theorem QTF(p q z:Nat)(o o2:List Tw)(z':Nat)(g0:Nat->Value):exec (mkE prog (QBM pb (twU d E ⟨o,o2,p,q,g0⟩ (Qz (QY (QH f21 0))).1 (Qz (QY (QH f21 0))).2 u [] z z'))) (hnd (mkE prog (QBM pb (twU d E ⟨o,o2,p,q,g0⟩ (Qz (QY (QH f21 0))).1 (Qz (QY (QH f21 0))).2 u [] z z'))) 8) (QY (QH f21 0)) (JSt.inst (JSt.dfrs (tiJ d E p q z o) 368) g0) (vf jh QEu) = .br (decide ((q:Int)<(p:Int))) (.need (decide ((d.ps.n:Int)=(d.ps.n:Int))&&decide ((0:Int)<=(d.ps.n:Int)/\(d.ps.n:Int)<=17179869184)) (.need (pb ((QLE E d g0 o p q u z))) (.leaf (.tup (QJG d p q)) ((QQx E d o p z'))))) (.leaf (.tup (QQM d p)) ((vR E d o z))):=by kernel_rfl
abbrev QKq(d:Puz)(o2:List Tw)(p:Nat)(z':Nat):List (Nat×Blk):=
  [(QKx d),(201,.mp E.1 E.2),(120,.cells 0 36 [.slz 618 0 o2.length cO]),(QKF d z'),(289,.mp E.1 E.2),QBY,(QBz d),(400,.cells 0 3 [vi (p :
  Int)]),(QCR d),QKj,(618,.rowz true 89 kB o2.length λi=>QA.enc (o2.getD i (Tw.mk (0:Int) (0:Int))))]
theorem QUx(p q z:Nat)(o o2:List Tw)(z':Nat)(g0:Nat->Value):exec (mkE prog (QBM pb (twV d E ⟨o,o2,p,q,g0⟩ (Qz (QY (QH f21 0))).1 (Qz (QY (QH f21 0))).2 u [] z z'))) (hnd (mkE prog (QBM pb (twV d E ⟨o,o2,p,q,g0⟩ (Qz (QY (QH f21 0))).1 (Qz (QY (QH f21 0))).2 u [] z z'))) 8) (QY (QH f21 0)) (JSt.inst (JSt.dfrs (tiJ d E p q z o) 368) g0) (vf jh QEu) = .br (decide ((q:Int)<(p:Int))) (.need (decide ((d.ps.n:Int)=(d.ps.n:Int))&&decide ((0:Int)<=(d.ps.n:Int)/\(d.ps.n:Int)<=17179869184)) (.need (pb ((QLE E d g0 o p q u z))) (.leaf (.tup (QJG d p q)) ((QKq E d o2 p z'))))) (.leaf (.tup (QQM d p)) ((vR E d o z))):=by kernel_rfl
abbrev QO5(q:Nat):List AV:=
  (List.append (wa9 d) ([vi (p:Int),.ptr 400 0 0,vi (p:Int),.int false .i64
  (i64.wrap ((q:Int)+1))]))
abbrev QFP:List Prop:=
  [0=0,0=0,0=0,0=0,0=0]
abbrev QOn(q:Nat)(q':Nat):List Prop:=
  ([0=0,0=0,0=0]++wbq d p++[0=0,0=0,(p:Int)=(p:Int),i64.wrap ((q:Int)+1)=(q':Int),d.pK.length =
  d.pK.length])
abbrev Z0:List Prop:=
  ([d.pK.aK=d.pK.aK]++waC d++[0 =
  0,d.ps.n=d.ps.n,cO=cO])
abbrev QHr(d:Puz):List Prop:=
  ([0=0,0=0,cO=cO,E.1=E.1,E.2=E.2]++wao++[d.pK.length=d.pK.length])
abbrev QLe:List Prop:=
  ([0=0,o.length=o.length,cO=cO]++waV o)
theorem QVV(p q q' z':Nat)(o:List Tw):QE 376 (QO5 d p q) ((QQx E d o p z')) (tiJ d E p q' z' o)=(some (QFP++(QOn d p q q')++(Z0 d)++(QHr E d)++(Z0 d)++[0=0,z'=z',cO=cO, E.1=E.1,E.2=E.2]++(QLe o)++[(p:Int)=(p:Int),0=0,0=0,d.pK.length=d.pK.length]++(Z0 d)++(wad d))):=by kernel_rfl
abbrev QR4:List AV:=
  (List.append (wa9 d) ([vi (p:Int)]))
abbrev QKt(d:Puz)(o:List Tw)(p:Nat)(z:Nat):List Prop:=
  (((wcl)++wbq d p)++waa d++((wcb E)++wao)++waa d++([cO=cO,0=0,z=z,cO=cO,E.1=E.1,E.2=E.2,0=0,o.length=o.length,cO=cO]++waV o++[0=0,0=0])++waa d++([cO=cO]++wad d))
theorem QYJ(o:List Tw):QE 376 (QR4 d p) ((vR E d o z)) (toJ d E p z o)=(some (QKt E d o p z)):=by kernel_rfl
theorem QdR(p q q' z':Nat)(o2:List Tw):QE 376 (QO5 d p q) ((QKq E d o2 p z')) (tiJ d E p q' z' o2)=(some (QFP++(QOn d p q q')++(Z0 d)++(QHr E d)++(Z0 d)++[0=0,z'=z',cO=cO,E.1=E.1,E.2=E.2,0=0,o2.length=o2.length,cO=cO,o2.length<=o2.length,QB 2 o2.length (λi=>QA.enc (o2.getD i (Tw.mk (0:Int) (0:Int)))) λi=>QA.enc (o2.getD i (Tw.mk (0:Int) (0:Int))),(p:Int)=(p:Int),0=0,0=0,d.pK.length=d.pK.length]++(Z0 d)++(wad d))):=by kernel_rfl
theorem QYq(o:List Tw):QE 376 (QR4 d p) ((vR E d o z)) (toJ d E p z o)=(some (QKt E d o p z)):=by kernel_rfl
abbrev toH(P:Program)(d:Puz)(E:ECt)(p z:Nat)(o:List Tw)(X:List (Prop×Ex×JSt)):Hnd:={ hnd (mkE P QS) 1 with loop:=λ_=>Kr (p<d.ps.n) (QEY 376 jh (tiJ d E p (0:Nat) z o) X) }
abbrev QNr(d:Puz)(o':List Tw)(z':Nat):List (Nat×Blk):=
  [(QPo d),(201,.mp E.1 E.2),(120,.cells 0 36 [.slz 408 0 o'.length cO]),(288,.cells 0 152 (vi d.pK.length::vi d.pK.aK::.int false .i64
  d.pK.oK::vi d.pK.dK.lo::vi d.pK.dK.hi::vi d.wide::vi d.high::List.append (wbS d) ([.slz 384 0 z' cO]))),(289,.mp E.1 E.2),QBY,(QBz d),(QCR d),QMo,(408,.rowz true 89 kB o'.length λi=>QA.enc (o'.getD i (Tw.mk (0 :
  Int) (0:Int))))]
theorem QW3(o:List Tw)(z':Nat)(o':List Tw)(g0:Nat->Value):exec (mkE prog QS) (toH prog d E p z o [(True,.exit 2,(toJ d E p z' o').dfrs 368)]) (QH f21 0) (JSt.inst (JSt.dfrs (toJ d E p z o) 368) g0) (vf jh QQC) = .br (decide ((p:Int)<(d.ps.n:Int))) (.ak [p<d.ps.n] (.ak (rz 8) (.ak ((wbq d p++[0=0,0=0,(p:Int)=(p:Int),(0:Int)=0])++waa d++((wcb E)++wao)++waa d++([cO=cO,0=0,z=z,cO=cO,E.1=E.1,E.2=E.2,0=0,o.length=o.length,cO=cO]++waV o++[(p:Int)=(p:Int),0=0,0=0])++waa d++([cO=cO]++wad d)) (.asm (True) (.all (λ(g0:Nat->Value)=>.leaf (.tup (.nilp::.ptr 48 0 0::List.append (wa9 d) ([vi (i64.wrap ((p:Int)+1))]))) ((QNr E d o' z')))))))) (.leaf (.tup [.ptr 0 0 0,.ptr 48 0 0,.ptr 120 0 0]) ((vR E d o z))):=by kernel_rfl
theorem QaZ(p' z':Nat)(p:Nat)(o':List Tw):QE 376 (List.append (wa9 d) ([vi (i64.wrap ((p:Int)+1))])) ((QNr E d o' z')) (toJ d E p' z' o')=(some (QFP++([0=0,0=0,0=0]++wbP d p p')++(Z0 d)++(QHr E d)++(Z0 d)++[0=0,z'=z',cO=cO,E.1=E.1,E.2=E.2,0=0,o'.length=o'.length,cO=cO,o'.length<=o'.length,QB 2 o'.length (λi=>QA.enc (o'.getD i (Tw.mk (0:Int) (0:Int)))) λi=>QA.enc (o'.getD i (Tw.mk (0:Int) (0:Int))),0=0,0=0,d.pK.length=d.pK.length]++(Z0 d)++(wad d))):=by kernel_rfl
theorem QTX(d:Puz)(E:ECt)(p:Nat):QE 376 [.ptr 120 0 0] ((vR E d o z)) (toF o)=(some ([0=0,0=0]++(QLe o))):=by kernel_rfl
def tiZ(p q:Nat)(s:Nat×List Tw):Nat×List Tw:=match onY d E (twA d E p q) d.ps.n [] ⟨s.1,trivial⟩with
 | .go z=>(z.1,s.2)
 | .stop z=>(z.1,s.2++[⟨q,p⟩])
def Vs(p k:Nat)(s:Nat×List Tw):Nat×List Tw:=((List.range p).drop k).foldl (λs q=>tiZ d E p q s) s
def vO(k:Nat)(s:Nat×List Tw):Nat×List Tw:=((List.range d.ps.n).drop k).foldl (λs p=>Vs d E p 0 s) s
theorem QRl{σ:Type}{f:σ->Nat->σ}{n:Nat}(h:k<n)(s:σ):((List.range n).drop k).foldl f s=((List.range n).drop (k+1)).foldl f (f s k):=by
 have:(List.range n).drop k=k::(List.range n).drop (k+1):=by
  rw[List.drop_eq_getElem_cons (by simpa using h)]
  simp
 rw[this,List.foldl_cons]
theorem QKd{σ:Type}{f:σ->Nat->σ}{n:Nat}(h:n<=k)(s:σ):((List.range n).drop k).foldl f s=s:=by
 rw[List.drop_eq_nil_of_le (by simpa using h),List.foldl_nil]
theorem QZ9(p q:Nat)(s:Nat×List Tw):(tiZ d E p q s).2.length<=s.2.length+1:=by
 unfold tiZ;split
 .exact Nat.le_succ _
 .rw[List.length_append,List.length_singleton];exact qlr _
def tiU(p q z:Nat)(o:List Tw)(g:Nat->Value):UC:=V6 d E ⟨o,o++[⟨q,p⟩],p,q,g⟩ ZP Zy [] ⟨z,trivial⟩ (onY d E (twA d E p q) d.ps.n [] ⟨z,trivial⟩)
theorem QTq{d:Puz}(hd:KK d){E:ECt}(hE:WfE E){p q z:Nat}{o:List Tw}(hp:p<d.ps.n)(g:Nat->Value)(e1:o.length<=1000000)(e2:q<d.ps.n)(e3:0<d.ps.n):QR prog 103 (uFC (tiU d E p q z o g)):=by
 have hl:([]:List Lay).length+d.ps.n=d.ps.n:=by simp
 have hc:∀ y∈([]:List Lay),Q9 d y:=λc hc=>by cases hc
 have h:=QXd (w0:=⟨o,o++[⟨q,p⟩],p,q,g⟩) hd hE rfl e1 hp e2 e3 d.ps.n [] ⟨z,trivial⟩ hl hc;unfold tiU;exact h
open Classical in
def qH(P:Program)(d:Puz)(E:ECt)(p:Nat)(k:Nat×Nat×List Tw)(g:Nat->Value):Env:=mkE P (QBM (if k.1<p then QP else λ_=>false) (tiU d E p k.1 k.2.1 k.2.2 g))
theorem QZt{d:Puz}(hd:KK d){E:ECt}(hE:WfE E){p:Nat}(hp:p<d.ps.n)(k:Nat×Nat×List Tw)(g:Nat->Value)(hk:k.2.2.length<=1000*p+k.1):(qH prog d E p k g).Sound:=by
 unfold qH;have hn:=hd.n;obtain⟨q,z,o⟩:=k;have hk:o.length<=1000*p+q:=hk
 by_cases h:q<p
 .have e1:o.length<=1000000:=by omega
  have e2:q<d.ps.n:=by omega
  have e3:0<d.ps.n:=by omega
  rw[if_pos (show(q,z,o).1<p from h)];exact QN (Qb.add (QTq hd hE hp g e1 e2 e3))
 .rw[if_neg h];exact QN (Qb.add (Ja (by kernel_rfl) _))
def zx(k:Nat×Nat×List Tw)(e:Ex)(J:JSt):Prop:=e = .exit 2/\J=toJ d E p (Vs d E p k.1 k.2).1 (Vs d E p k.1 k.2).2
set_option maxHeartbeats 1000000 in
theorem Qbh(hp:p<d.ps.n)(hn:d.ps.n<=1000):QDa (λk:Nat×Nat×List Tw=>tiJ d E p k.1 k.2.1 k.2.2) (λk=>k.1<=p/\k.2.2.length<=1000*p+k.1) (λk=>p-k.1) (zx d E p) 376 368 QEu jh (qH prog d E p) (λk g=>hnd (qH prog d E p k g) 8) (QY (QH f21 0)):=by
 refine⟨λk g0 hk=>?_⟩;obtain⟨q,z,o⟩:=k;obtain⟨hk,hol⟩:=hk;have hk:q<=p:=hk;have hol:o.length<=1000*p+q:=hol;have hl2:(o++[(⟨q,p⟩:Tw)]).length<=1000*p+(q+1):=by rw[List.length_append,List.length_singleton];omega
 have hl1:o.length<=1000*p+(q+1):=by omega
 have hz:∀ k,QB 1 k (λ_ _=>0) (QD []):=λk i _=>⟨rfl,trivial⟩;have hw:q<p->i64.wrap ((q:Int)+1)=((q+1:Nat):Int):=λh=>Vj h (by omega)
 have hpb:q<p->(if q<p then QP else λ_=>false)=QP:=λh=>if_pos h
 have next:q<p->∀ e J,zx d E p (q+1,tiZ d E p q (z,o)) e J->zx d E p (q,z,o) e J:=by
  intro h e J hr;unfold zx Vs at hr ⊢;rw[QRl h];exact hr
 have last:p<=q->zx d E p (q,z,o) (.exit 2) (toJ d E p z o):=by
  intro h;unfold zx Vs;simp only[QKd h,and_self]
 unfold qH tiU;simp only;cases hr:onY d E (twA d E p q) d.ps.n [] ⟨z,trivial⟩with
 | go s=>
  have hs:tiZ d E p q (z,o)=(s.1,o):=by unfold tiZ;simp only[hr]
  rw[hs]at next
  simp only[V6];have et:=QTF (if q<p then QP else λ_=>false) d E (QD []) p q z o (o++[⟨q,p⟩]) s.1 g0
  refine Qe et ?_;clear et;refine QF (λb0=>?_) (λb0=>?_);have h:q<p:=by have:=qdt b0;omega
  rw[hpb h];have hw:=hw h
  iterate 2 (refine QG ?_ ?_;rotate_left)
  refine⟨(q+1,s.1,o),⟨h,hl1⟩,by show p-(q+1)<p-q;omega,next h,rfl,rfl,_,QVV d E p q (q+1) s.1 o,?_⟩
  rotate_left
  have h:p<=q:=by have:=qdf b0;omega
  refine⟨_,last h,rfl,rfl,_,QYJ d E p z o,?_⟩
  rotate_left
  all_goals first|((with_reducible show _=true);(first|rfl|(refine Q7.2 ?_;repeat' first|with_reducible refine QO ?_ ?_|exact tv|with_reducible exact qRr|with_reducible exact hz _|exact rfl|refine aI ?_ ?_)|(simp;omega)))|(repeat' first|with_reducible refine QO ?_ ?_|exact tv|with_reducible exact qRr|with_reducible exact hw|exact rfl|refine aI ?_ ?_)
 | stop s=>
  have hs:tiZ d E p q (z,o)=(s.1,o++[⟨q,p⟩]):=by unfold tiZ;simp only[hr]
  rw[hs]at next
  simp only[V6];generalize o++[(⟨q,p⟩:Tw)]=o2 at next hl2 ⊢
  clear hs hr;have et:=QUx (if q<p then QP else λ_=>false) d E (QD []) p q z o o2 s.1 g0
  refine Qe et ?_;clear et;refine QF (λb0=>?_) (λb0=>?_);have h:q<p:=by have:=qdt b0;omega
  rw[hpb h];have hw:=hw h
  iterate 2 (refine QG ?_ ?_;rotate_left)
  refine⟨(q+1,s.1,o2),⟨h,hl2⟩,by show p-(q+1)<p-q;omega,next h,rfl,rfl,_,QdR d E p q (q+1) s.1 o2,?_⟩
  rotate_left
  have h:p<=q:=by have:=qdf b0;omega
  refine⟨_,last h,rfl,rfl,_,QYq d E p z o,?_⟩
  rotate_left
  all_goals first|((with_reducible show _=true);(first|rfl|(refine Q7.2 ?_;repeat' first|with_reducible refine QO ?_ ?_|exact tv|with_reducible exact qRr|with_reducible exact hz _|exact rfl|refine aI ?_ ?_)|(simp;omega)))|(repeat' first|with_reducible refine QO ?_ ?_|exact tv|with_reducible exact qRr|with_reducible exact hw|exact rfl|refine aI ?_ ?_)
abbrev mkN(P:Program)(C:Tab):Env:=⟨P,C,jk P,false,λ_=>false,true,false,true⟩
theorem QOf{C:Tab}(hC:Qc C):(mkN prog C).Sound:={ c:=hC,m:=QA1 prog,mixed:=QBN }
def rwP(id n:Nat)(g:Nat->Nat->Int):Nat×Blk:=(id,.rowz true 89 kB n g)
theorem QZG(n:Nat)(g:Nat->Nat->Int):QE 8 [.nils] [] (KP 8 (.slz 0 0 n cO) [rwP 0 n g])=( some [n=(0:Nat),n=(0:Nat)]):=by kernel_rfl
theorem QYy(m n:Nat)(h g:Nat->Nat->Int):QE 8 [.slz 48 0 m cO] [rwP 48 m h] (KP 8 (.slz 0 0 n cO) [rwP 0 n g])=( some [0=0,m=n,cO=cO,n<=m,QB (2:Nat) n h g]):=by kernel_rfl
def H3:WF ((Rw Tw)×Unit):=λ|(L,_)=>(decide (L.n<=1000000),.slz 0 0 L.n (.of 0),[rwP 0 L.n λi=>QA.enc (L.get i)])
def QNs:FC:=wFC H3
theorem QWr(L:(Rw Tw)):Kl (mkN prog QS) (hnd (mkN prog QS) 1) f106 (Qd.vals 0 ((L,()):(Rw Tw)×Unit)) (Qd.blks 0 ((L,()):(Rw Tw)×Unit)) 8=QC.need (decide (L.n<=L.n)) (QC.both (QC.asm (L.n=(0:Nat)) (QC.leaf (AV.nils) ([]))) (QC.need (true&&(decide (L.n<=L.n)&&decide (((0:Nat)+L.n+((0:Nat)+L.n) / (4:Nat)+(192:Nat))*(16:Nat)<=(281474976710656:Nat)/\(0:Nat)+L.n<=(9223372036854775807:Nat)))) (QC.leaf (AV.slz (48:Nat) (0:Nat) ((0:Nat)+L.n) cO) ([((48:Nat),Blk.rowz true (89:Nat) [CK.int i64,CK.int i64] ((0:Nat)+L.n) (KF (0:Nat) (λx x_1=>(0:Int)) λi=>QA.enc (L.get i)))])))):=by kernel_rfl
theorem QXK:JP (mkN prog QS) (Qk f106) 8 H3 (λx_=>(hnd (mkN prog QS) 1)):=by
 refine⟨?_⟩;rintro⟨L,⟨⟩⟩ hp G h1 h2;exact Qu (QOf Qb) 1 G _ h1
theorem QS1:JQ (mkN prog QS) f106 8 H3 (λx_=>(hnd (mkN prog QS) 1)):=by
 refine⟨?_⟩;rintro⟨L,⟨⟩⟩ hp;refine⟨⟨rfl,by simp[H3,rwP,Blk.own,Blk.all],rfl⟩,⟨?_⟩⟩
 rw[QWr L];simp only[H3]at hp;have hn:L.n<=1000000:=qdt hp;have hj:QB 2 L.n (KF 0 (λ_ _=>0) λi=>QA.enc (L.get i)) λi=>QA.enc (L.get i):=QQa _ _ _ _;refine QG ?_ ?_;rotate_left;refine Kb ?_ ?_;refine Qf λa0=>?_
 .refine⟨rfl,rfl,_,QZG L.n λi=>QA.enc (L.get i),?_⟩;rw[a0]
  repeat' first|with_reducible refine QO ?_ ?_|exact tv|with_reducible exact qRr|exact rfl|refine aI ?_ ?_
 refine QG ?_ ?_;rotate_left
 .refine⟨rfl,rfl,_,QYy (0+L.n) L.n (KF 0 (λ_ _=>0) λi=>QA.enc (L.get i)) λi=>QA.enc (L.get i),?_⟩;rw[Nat.zero_add]
  repeat' first|with_reducible refine QO ?_ ?_|exact tv|with_reducible exact qRr|with_reducible exact hj|exact rfl|refine aI ?_ ?_
 all_goals first|(simp;done)|(simp;omega)
theorem QTC:QR prog 106 QNs:=
 Ji (QOf Qb) func106 (by kernel_rfl) (by kernel_rfl) (by decide) QXK QS1
