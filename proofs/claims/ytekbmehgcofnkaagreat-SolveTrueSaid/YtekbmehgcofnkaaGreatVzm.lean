/- - -/
import Derived.Test.YtekbmehgcofnkaaGreatVzl
set_option linter.all false
noncomputable section
open Go.Proofs.Tryz
open Go.IntKind (i64)
set_option maxRecDepth 100000
namespace Go.Proofs.YtekbmehgcofnkaaGreat
open Go.SX Go.SX.Told
variable {k:Nat}(pb:List Prop->Bool)(d:Puz)(E:ECt)(w0:TwP)(p:Nat)(o:List Tw)(ac body:Code)(z z':Nat)(u:Nat->Nat->Int)(l:List Lay)(rec:List Lay->TJ->Qi TJ)(f':Nat)
def XV(s:TJ):Qi TJ->UC
 | .go s'=>twU d E w0 ac body (QD l) l s.1 s'.1
 | .stop s'=>twV d E w0 ac body (QD l) l s.1 s'.1
open Classical in
def Ws(p t:Nat):List Prop->Bool:=if t<Qe d p then QK else λ_=>false
def vp(P:Program)(d:Puz)(E:ECt)(w0:TwP)(ac body:Code)(rec:List Lay->TJ->Qi TJ)(l:List Lay)(p:Nat)(k:Nat×TJ):Env:=
 mkE P (QAo (Ws d p k.1) (Ws d p k.1) d E w0 l ⟨p,k.1⟩ (KA d E l ⟨p,k.1⟩) (XV d E w0 ac body (l++[⟨p,k.1⟩]) k.2 (rec (l++[⟨p,k.1⟩]) k.2)))
def Zx(l:List Lay)(p:Nat)(k:Nat×TJ)(e:Ex)(J:JSt):Prop:=match KC (KP d E rec l p) ((List.range (Qe d p)).drop k.1) k.2 with
 | .go s'=>e = .exit 2/\J=QCX d E w0 ac body (QD l) l s'.1 p
 | .stop s'=>e = .ret/\J=twF d E w0 ac body (QD l) l s'.1
set_option maxHeartbeats 1000000 in
theorem QiA(l:List Lay)(p:Nat)(hp:p<d.ps.n)(hn:d.ps.n<=1000)(hl:l.length<=1000)(hu:Q6 l p=false):K6 (λk:Nat×TJ=>Ho d E w0 ac body (QD l) l k.2.1 p (tnV d p) k.1) (λk=>k.1<=Qe d p) (λk=>Qe d p-k.1) (Zx d E w0 ac body rec l p) 632 QHN WC (vp prog d E w0 ac body rec l p) (λk=>hnd (vp prog d E w0 ac body rec l p k) 0) (QW (QI f103 0)):=by
 refine⟨λk g0 hk=>?_⟩;obtain⟨t,f,hq0⟩:=k;have hk:t<=Qe d p:=hk;obtain⟨ht1,ht4⟩:=Yr d p;have hlen:(l++[(⟨p,t⟩:Lay)]).length=l.length+1:=by rw[List.length_append,List.length_singleton]
 have hw1:i64.wrap (((l++[(⟨p,t⟩:Lay)]).length:Int)-1)=l.length:=(w64 (by omega) (by omega)).trans (by omega)
 have hpop:(i64.wrap (((l++[(⟨p,t⟩:Lay)]).length:Int)-1)).toNat=l.length:=by rw[hw1];exact Int.toNat_natCast _
 have hle:l.length<=(l++[(⟨p,t⟩:Lay)]).length:=by omega
 have hpb:t<Qe d p->Ws d p t=QK:=λh=>by unfold Ws;rw[if_pos h]
 have wt:t<Qe d p->i64.wrap ((t:Int)+1)=((t+1:Nat):Int):=λh=>(w64 (by omega) (by omega)).trans (by omega)
 have step:=λh:t<Qe d p=>jF (f:=KP d E rec l p) h ⟨f,hq0⟩;unfold vp;simp only
 have next:t<Qe d p->∀{s2:TJ},KP d E rec l p ⟨f,hq0⟩ t = .go s2->∀ e J,Zx d E w0 ac body rec l p (t+1,s2) e J->Zx d E w0 ac body rec l p (t,⟨f,hq0⟩) e J:=by
  intro h s2 he e J hr;unfold Zx at hr ⊢;simp only at hr ⊢;rw[step h,he];exact hr
 have last:Qe d p<=t->Zx d E w0 ac body rec l p (t,⟨f,hq0⟩) (.exit 2) (QCX d E w0 ac body (QD l) l f p):=by
  intro h;unfold Zx;simp only[W9 h,and_self]
 cases hr:rec (l++[⟨p,t⟩]) ⟨f,hq0⟩with
 | go s'=>
  obtain⟨f',hq1⟩:=s';simp only[XV];have et:=Qkt (Ws d p t) (Ws d p t) d E w0 ac body (QD l) (QD (l++[⟨p,t⟩])) l (l++[⟨p,t⟩]) (KA d E l ⟨p,t⟩) f p (tnV d p) t f' g0;refine Qh et ?_;clear et;refine QE (λb0=>?_) (λb0=>?_);have h:t<Qe d p:=by have:=qdt b0;omega
  rw[hpb h];have hw:=wt h;refine QG ?_ ?_;rotate_left;refine QE ?_ ?_<;>intro b1
  .exact Bool.noConfusion (show false=true from b1)
  refine QG ?_ ?_;rotate_left;refine QE (λb2=>?_) (λb2=>?_);have hv:KA d E l ⟨p,t⟩=false:=by simpa using b2
  have ho:KP d E rec l p ⟨f,hq0⟩ t = .go ⟨f,hq0⟩:=by unfold KP;rw[hv];rfl
  refine⟨(t+1,⟨f,hq0⟩),h,by show Qe d p-(t+1)<Qe d p-t;omega,next h ho,rfl,rfl,_,QMn d E w0 ac body (QD l) l f p (tnV d p) t (t+1),?_⟩
  rotate_left
  iterate 7 (refine QG ?_ ?_;rotate_left)
  refine QE ?_ ?_<;>intro b3
  .cases b3
  have hv:KA d E l ⟨p,t⟩=true:=by simpa using b2
  have ho:KP d E rec l p ⟨f,hq0⟩ t = .go ⟨f',hq1⟩:=by unfold KP;rw[hv];exact hr
  have hb:=jB l d.ps.n p t hu;have hq:=jV l ⟨p,t⟩;have hnx:=next h ho
  clear next last step hr ho
  generalize QD (l++[⟨p,t⟩])=u2 at hb ⊢;generalize l++[⟨p,t⟩]=l2 at hpop hle hq ⊢;generalize hu1:QD l=u1 at hb ⊢;refine⟨(t+1,⟨f',hq1⟩),h,by show Qe d p-(t+1)<Qe d p-t;omega,hnx,rfl,rfl,_,QWc d E w0 ac body u1 u2 u1 l l2 p (tnV d p) t (t+1) f',?_⟩
  rotate_left
  have h:Qe d p<=t:=by have:=qdf b0;omega
  refine⟨_,last h,rfl,rfl,_,QP0 d E w0 ac body (QD l) l f p,?_⟩
  rotate_left
  all_goals first|((with_reducible show _=true);(first|rfl|(refine KG.2 ?_;repeat' first|with_reducible refine QM ?_ ?_|exact tv|with_reducible exact qRr|with_reducible exact hlen|with_reducible exact hlen.symm|with_reducible exact Nat.le_of_eq hlen|with_reducible exact Z8 l ⟨p,t⟩|with_reducible exact WP l _ p t|exact rfl|refine aI ?_ ?_)|(rw[hw1];simp)|(simp;omega)))|(repeat' first|with_reducible refine QM ?_ ?_|exact tv|with_reducible exact qRr|with_reducible exact hw|with_reducible exact hpop|with_reducible exact hle|with_reducible exact hq|with_reducible exact hb|exact rfl|refine aI ?_ ?_)
 | stop s'=>
  obtain⟨f',hq1⟩:=s';simp only[XV];have et:=Qac (Ws d p t) (Ws d p t) d E w0 ac body (QD l) (QD (l++[⟨p,t⟩])) l (l++[⟨p,t⟩]) (KA d E l ⟨p,t⟩) f p (tnV d p) t f' g0;refine Qh et ?_;clear et;refine QE (λb0=>?_) (λb0=>?_);have h:t<Qe d p:=by have:=qdt b0;omega
  rw[hpb h];have hw:=wt h;refine QG ?_ ?_;rotate_left;refine QE ?_ ?_<;>intro b1
  .exact Bool.noConfusion (show false=true from b1)
  refine QG ?_ ?_;rotate_left;refine QE (λb2=>?_) (λb2=>?_);have hv:KA d E l ⟨p,t⟩=false:=by simpa using b2
  have ho:KP d E rec l p ⟨f,hq0⟩ t = .go ⟨f,hq0⟩:=by unfold KP;rw[hv];rfl
  refine⟨(t+1,⟨f,hq0⟩),h,by show Qe d p-(t+1)<Qe d p-t;omega,next h ho,rfl,rfl,_,QMn d E w0 ac body (QD l) l f p (tnV d p) t (t+1),?_⟩
  rotate_left
  iterate 7 (refine QG ?_ ?_;rotate_left)
  refine QE (λb3=>?_) (λb3=>?_);have hv:KA d E l ⟨p,t⟩=true:=by simpa using b2
  have ho:KP d E rec l p ⟨f,hq0⟩ t = .stop ⟨f',hq1⟩:=by unfold KP;rw[hv];exact hr
  have hrel:Zx d E w0 ac body rec l p (t,⟨f,hq0⟩) .ret (twF d E w0 ac body (QD l) l f'):=by
   unfold Zx;simp only[step h,ho,and_self]
  have hb:=jB l d.ps.n p t hu;have hq:=jV l ⟨p,t⟩;clear next last step hr ho
  generalize QD (l++[⟨p,t⟩])=u2 at hb ⊢;generalize l++[⟨p,t⟩]=l2 at hpop hle hq ⊢;generalize hu1:QD l=u1 at hb hrel ⊢;refine⟨_,hrel,rfl,rfl,_,QbA d E w0 ac body u2 u1 l l2 p f',?_⟩
  rotate_left
  .cases b3
  have h:Qe d p<=t:=by have:=qdf b0;omega
  refine⟨_,last h,rfl,rfl,_,QP0 d E w0 ac body (QD l) l f p,?_⟩
  rotate_left
  all_goals first|((with_reducible show _=true);(first|rfl|(refine KG.2 ?_;repeat' first|with_reducible refine QM ?_ ?_|exact tv|with_reducible exact qRr|with_reducible exact hlen|with_reducible exact hlen.symm|with_reducible exact Nat.le_of_eq hlen|with_reducible exact Z8 l ⟨p,t⟩|with_reducible exact WP l _ p t|exact rfl|refine aI ?_ ?_)|(rw[hw1];simp)|(simp;omega)))|(repeat' first|with_reducible refine QM ?_ ?_|exact tv|with_reducible exact qRr|with_reducible exact hw|with_reducible exact hpop|with_reducible exact hle|with_reducible exact hq|with_reducible exact hb|exact rfl|refine aI ?_ ?_)
def QDV(l:List Lay)(p:Nat):Prop:=∀ t,t<Qe d p->∀ s,QS prog 103 (uFC (XV d E w0 ac body (l++[⟨p,t⟩]) s (rec (l++[⟨p,t⟩]) s)))
theorem Qhl{d:Puz}{E:ECt}{w0:TwP}{ac body:Code}{rec:List Lay->TJ->Qi TJ}{l:List Lay}{p:Nat}(hd:Kb d)(hE:WfE E)(hl:l.length<=1000)(hL:∀ y∈l,KJ d y)(hp:p<d.ps.n)(IH:QDV d E w0 ac body rec l p)(k:Nat×TJ):(vp prog d E w0 ac body rec l p k).Sound:=by
 unfold vp Ws
 by_cases h:k.1<Qe d p
 .rw[if_pos h];have h4:=(Yr d p).2;exact QP ((Qm.add (QFf d E l ⟨p,k.1⟩ hd hE hl hL ⟨⟨by show(0:Int)<=p;omega,by show(p:Int)<_;omega⟩,by show(0:Int)<=k.1;omega,by show(k.1:Int)<=3;omega⟩)).add (IH k.1 h k.2))
 .rw[if_neg h];exact QP ((Qm.add (Jx (by kernel_rfl) _)).add (Jx (by kernel_rfl) _))
def QBw(l:List Lay)(p:Nat)(s:TJ):List (Prop×Ex×JSt):=
 [((inZ d E rec l p s).isGo=true,.exit 2,QCX d E w0 ac body (QD l) l (inZ d E rec l p s).s.1 p),((inZ d E rec l p s).isGo=false,.ret,twF d E w0 ac body (QD l) l (inZ d E rec l p s).s.1)]
theorem QiI{d:Puz}{E:ECt}{w0:TwP}{ac body:Code}{rec:List Lay->TJ->Qi TJ}{l:List Lay}(hd:Kb d)(hE:WfE E)(hl:l.length<=1000)(hL:∀ y∈l,KJ d y)(p:Nat)(s:TJ)(IH:p<d.ps.n->QDV d E w0 ac body rec l p)(G:Ctx)(hrd:G.rd=none)(hG:G.n<=632):
  Q0 (mkE prog (jT QK d l.length p)) G (QEv prog QK d E w0 ac body (QD l) l s.1 p (QBw d E w0 ac body rec l p s)) (QI f103 0):=by
 have hT:Qf (jT QK d l.length p):=Qm.add (Yf d l.length p);refine KO (body:=QW (QI f103 0)) (QP hT) hrd (by kernel_rfl) ?_
 refine JJ λhp=>?_;have hu:=QE7 hp.2;have hEnv:=Qhl (ac:=ac) (body:=body) hd hE hl hL hp.1 (IH hp.1);refine JG (E0:=mkE prog (jT QK d l.length p)) (E:=vp prog d E w0 ac body rec l p) (H:=λk=>hnd (vp prog d E w0 ac body rec l p k) 0) (n0:=632) (s0:=(0,s)) (λ_=>rfl) hEnv hG (λk _=>Qz (hEnv k) 0 G _ hrd) (λk _=>(by decide:632<=672)) ?_ (QiA d E w0 ac body rec l p hp.1 hd.n hl hu) (Nat.zero_le _) ?_
 .intro k e J hr;unfold Zx at hr;split at hr<;>(rw[hr.2];exact(by decide:632<=672))
 .intro e J hr;unfold Zx at hr;simp only[List.drop_zero]at hr;have hi:inZ d E rec l p s=KC (KP d E rec l p) (List.range (Qe d p)) s:=rfl;unfold QBw;rw[hi];cases hc:KC (KP d E rec l p) (List.range (Qe d p)) s with
  | go s'=>
   rw[hc]at hr;exact⟨_,qmc,rfl,hr.1.symm,hr.2.symm⟩
  | stop s'=>
   rw[hc]at hr;exact⟨_,List.mem_cons_of_mem _ qmc,rfl,hr.1.symm,hr.2.symm⟩
def Yd(l:List Lay)(k:Nat×TJ)(e:Ex)(J:JSt):Prop:=match KC (K3 d E rec l) ((List.range d.ps.n).drop k.1) k.2 with
 | .go s'=>e = .exit 0/\J=Gj d E w0 ac body (QD l) l s'.1
 | .stop s'=>e = .ret/\J=twF d E w0 ac body (QD l) l s'.1
set_option maxHeartbeats 1000000 in
theorem QdN(l:List Lay)(hn:d.ps.n<=1000):K6 (λk:Nat×TJ=>GS d E w0 ac body (QD l) l k.2.1 k.1) (λk=>k.1<=d.ps.n) (λk=>d.ps.n-k.1) (Yd d E w0 ac body rec l) 632 QNr WC (λk=>mkE prog (jT QK d l.length k.1)) (λk=>QEv prog QK d E w0 ac body (QD l) l k.2.1 k.1 (QBw d E w0 ac body rec l k.1 k.2)) (QI f103 0):=by
 refine⟨λk g0 hk=>?_⟩;obtain⟨p,f,hq0⟩:=k;have hk:p<=d.ps.n:=hk;have wp:p<d.ps.n->i64.wrap ((p:Int)+1)=((p+1:Nat):Int):=λh=>Vo h hn;have step:=λh:p<d.ps.n=>jF (f:=K3 d E rec l) h ⟨f,hq0⟩
 have next:p<d.ps.n->∀{s2:TJ},K3 d E rec l ⟨f,hq0⟩ p = .go s2->∀ e J,Yd d E w0 ac body rec l (p+1,s2) e J->Yd d E w0 ac body rec l (p,⟨f,hq0⟩) e J:=by
  intro h s2 he e J hr;unfold Yd at hr ⊢;simp only at hr ⊢;rw[step h,he];exact hr
 have stop:p<d.ps.n->∀{s2:TJ},K3 d E rec l ⟨f,hq0⟩ p = .stop s2->Yd d E w0 ac body rec l (p,⟨f,hq0⟩) .ret (twF d E w0 ac body (QD l) l s2.1):=by
  intro h s2 he;unfold Yd;simp only[step h,he,and_self]
 have last:d.ps.n<=p->Yd d E w0 ac body rec l (p,⟨f,hq0⟩) (.exit 0) (Gj d E w0 ac body (QD l) l f):=by
  intro h;unfold Yd;simp only[W9 h,and_self]
 have hpz:Q6 l p=false->K3 d E rec l ⟨f,hq0⟩ p=inZ d E rec l p ⟨f,hq0⟩:=λh=>by unfold K3;rw[h];rfl
 have hpu:Q6 l p=true->K3 d E rec l ⟨f,hq0⟩ p = .go ⟨f,hq0⟩:=λh=>by unfold K3;rw[h];rfl
 unfold QBw;simp only;cases hr:inZ d E rec l p ⟨f,hq0⟩with
 | go s'=>
  obtain⟨f',hq1⟩:=s';simp only[Qi.isGo,Qi.s,Bool.true_eq_false,Bool.false_eq_true];have et:=QVC QK d E w0 ac body (QD l) (QD l) l f p True False f' g0;refine Qh et ?_;clear et;refine QE (λb0=>?_) (λb0=>?_);have h:p<d.ps.n:=by have:=qdt b0;omega
  have hw:=wp h
  iterate 2 (refine QG ?_ ?_;rotate_left)
  refine QE (λb1=>?_) (λb1=>?_);have hub:Q6 l p=true:=XD.symm.trans b1;refine⟨(p+1,⟨f,hq0⟩),h,by show d.ps.n-(p+1)<d.ps.n-p;omega,next h (hpu hub),rfl,rfl,_,QPR d E w0 ac body (QD l) l f p (p+1),?_⟩
  rotate_left
  have hub:Q6 l p=false:=XD.symm.trans b1;have hu0:QD l p 0=0:=by unfold QD;rw[hub];rfl
  refine QG ?_ ?_;rotate_left
  iterate 143 refine Qt (by first|exact tv|exact⟨h,hu0⟩|with_reducible exact qRr|exact rfl) ?_
  refine Kq ?_ ?_;refine Qk λa0=>?_;refine Ql λg0=>?_;refine⟨(p+1,⟨f',hq1⟩),h,by show d.ps.n-(p+1)<d.ps.n-p;omega,next h ((hpz hub).trans hr),rfl,rfl,_,QhT d E w0 ac body (QD l) l p (p+1) f',?_⟩
  rotate_left
  refine Qk λa1=>?_;refine Ql λg1=>?_
  .exact a1.elim
  have h:d.ps.n<=p:=by have:=qdf b0;omega
  refine⟨_,last h,rfl,rfl,_,QWH d E w0 ac body (QD l) l f,?_⟩
  rotate_left
  all_goals first|((with_reducible show _=true);(first|(refine KG.2 ?_;repeat' first|exact tv|with_reducible exact qRr|exact rfl|refine aI ?_ ?_)|(simp;omega)))|(repeat' first|with_reducible refine QM ?_ ?_|exact tv|with_reducible exact qRr|with_reducible exact hw|exact rfl|refine aI ?_ ?_)
 | stop s'=>
  obtain⟨f',hq1⟩:=s';simp only[Qi.isGo,Qi.s,Bool.true_eq_false,Bool.false_eq_true];have et:=QVC QK d E w0 ac body (QD l) (QD l) l f p False True f' g0;refine Qh et ?_;clear et;refine QE (λb0=>?_) (λb0=>?_);have h:p<d.ps.n:=by have:=qdt b0;omega
  have hw:=wp h
  iterate 2 (refine QG ?_ ?_;rotate_left)
  refine QE (λb1=>?_) (λb1=>?_);have hub:Q6 l p=true:=XD.symm.trans b1;refine⟨(p+1,⟨f,hq0⟩),h,by show d.ps.n-(p+1)<d.ps.n-p;omega,next h (hpu hub),rfl,rfl,_,QPR d E w0 ac body (QD l) l f p (p+1),?_⟩
  rotate_left
  have hub:Q6 l p=false:=XD.symm.trans b1;have hu0:QD l p 0=0:=by unfold QD;rw[hub];rfl
  refine QG ?_ ?_;rotate_left
  iterate 143 refine Qt (by first|exact tv|exact⟨h,hu0⟩|with_reducible exact qRr|exact rfl) ?_
  refine Kq ?_ ?_;refine Qk λa0=>?_;refine Ql λg0=>?_
  .exact a0.elim
  refine Qk λa1=>?_;refine Ql λg1=>?_;refine⟨_,stop h ((hpz hub).trans hr),rfl,rfl,_,Qez d E w0 ac body (QD l) l f',?_⟩
  rotate_left
  have h:d.ps.n<=p:=by have:=qdf b0;omega
  refine⟨_,last h,rfl,rfl,_,QWH d E w0 ac body (QD l) l f,?_⟩
  rotate_left
  all_goals first|((with_reducible show _=true);(first|(refine KG.2 ?_;repeat' first|exact tv|with_reducible exact qRr|exact rfl|refine aI ?_ ?_)|(simp;omega)))|(repeat' first|with_reducible refine QM ?_ ?_|exact tv|with_reducible exact qRr|with_reducible exact hw|exact rfl|refine aI ?_ ?_)
abbrev Wp:Code:=(KE (QW (QI f21 0))).1
abbrev WM:Code:=(KE (QW (QI f21 0))).2
theorem QP4(f:Nat)(f':Nat):(twU d E w0 ac body u l f f').Ok:=by
 refine⟨(by decide:592<=632),rfl,rfl,?_,rfl,λ_ _=>rfl,λnid h=>?_⟩
 .intro q hq;simp only[UC.po,twU,twW,rwY,rwU,rwT,bdZ,List.mem_cons,List.not_mem_nil,or_false]at hq;rcases hq with rfl|rfl|rfl|rfl|rfl|rfl|rfl|rfl|rfl|rfl|rfl<;>refine⟨rfl,rfl,rfl,?_⟩<;>first|exact λ_=>rfl|exact λh=>absurd (show 632<592 from h) (by decide)|exact λh=>absurd (show 633<592 from h) (by decide)|exact λh=>absurd (show 634<592 from h) (by decide)|exact λh=>absurd (show 635<592 from h) (by decide)
 .have e0:=Km 592 632 0 nid (by decide)
  have e1:=Km 592 632 1 nid (by decide)
  have e2:=Km 592 632 2 nid (by decide)
  have e3:=Km 592 632 3 nid (by decide)
  simp only[UC.po,twU,twW,rwY,rwU,rwT,bdZ,H9,twT,KZ,Qg.val,List.cons_append,List.nil_append,List.map_cons,List.map_nil,Blk.mapId,AV.mapId,AV.mapIdL,Nat.add_zero]at e0 e1 e2 e3 ⊢;rw[e0,e1,e2,e3];rfl
theorem QPU(f:Nat)(f':Nat):(twV d E w0 ac body u l f f').Ok:=by
 refine⟨(by decide:592<=632),rfl,rfl,?_,rfl,λ_ _=>rfl,λnid h=>?_⟩
 .intro q hq;simp only[UC.po,twV,twW,rwY,rwU,rwT,bdZ,List.mem_cons,List.not_mem_nil,or_false]at hq;rcases hq with rfl|rfl|rfl|rfl|rfl|rfl|rfl|rfl|rfl|rfl|rfl<;>refine⟨rfl,rfl,rfl,?_⟩<;>first|exact λ_=>rfl|exact λh=>absurd (show 632<592 from h) (by decide)|exact λh=>absurd (show 633<592 from h) (by decide)|exact λh=>absurd (show 634<592 from h) (by decide)|exact λh=>absurd (show 635<592 from h) (by decide)
 .have e0:=Km 592 632 0 nid (by decide)
  have e1:=Km 592 632 1 nid (by decide)
  have e2:=Km 592 632 2 nid (by decide)
  have e3:=Km 592 632 3 nid (by decide)
  simp only[UC.po,twV,twW,rwY,rwU,rwT,bdZ,H9,twT,KZ,Qg.val,List.cons_append,List.nil_append,List.map_cons,List.map_nil,Blk.mapId,AV.mapId,AV.mapIdL,Nat.add_zero]at e0 e1 e2 e3 ⊢;rw[e0,e1,e2,e3];rfl
def QBa(l v:List Lay)(p q:Int)(z:Nat)(vb:Bool)(z':Nat):Tab:=Qc (Qc QV 63 (KT pb (swU l p q v))) 62 (KT pb (iqU d E v z vb z'))
abbrev twM(P : Program)(T : Tab): Hnd := { hnd (mkE P T) 5 with loop := λ_ _ _=>.fail "a loop" }
abbrev QOd:Nat×Blk:=(200,.cells 0 152 (List.append (waf d) ([.map 201,.slz 600 0 l.length cO])))
abbrev QR2:Nat×Blk:=(288,.cells 0 152 (List.append (waf d) ([.map 289,.slz 824 0 f' cO])))
abbrev QNz:Nat×Blk:=(0,.frz (wae) d.ps.n λi=>QA.enc (d.ps.get i))
abbrev QRe(d:Puz)(f':Nat)(l:List Lay)(u:Nat->Nat->Int)(w0:TwP):List (Nat×Blk):=[(QOd d l),(201,.mp E.1 E.2),(568,.cells 0 114 [.slz 608 0 d.ps.n cO]),(497,.lp LoopState.done (some (Code.exit 4)) (twT d w0) (Array.mk [31]) (KE (QW (QI f21 0))).1 (KE (QW (QI f21 0))).2),(120,.cells 0 36 [.slz 872 0 (w0.o.length+1) cO]),(QR2 d f'),(289,.mp E.1 E.2),(QNz d),(600,.rowz true 49 [.int .i64,.int .i64] l.length λi=>QA.enc (l.getD i (Lay.mk (0:Int) (0:Int)))),(608,.rowz true 4 [CK.bool] d.ps.n u),(296,.cellsR 0 90 [.ptr 288 0 0]),(400,.cellsR 0 3 [vi (w0.p:Int)]),(432,.cellsR 0 3 [vi (w0.q:Int)]),(456,.cellsR 0 90 [.ptr 200 0 0]),(464,.cellsR 0 96 [.nils]),(872,.rowz true 89 kB (w0.o.length+1) (KQ w0.o.length (λi=>QA.enc (w0.o.getD i (Tw.mk (0:Int) (0:Int)))) (KD [[vi (w0.q:Int),vi (w0.p:Int)]] 0)))]
abbrev QVD(d:Puz)(f':Nat)(l:List Lay)(u:Nat->Nat->Int)(w0:TwP):List (Nat×Blk):=[(QOd d l),(201,.mp E.1 E.2),(568,.cells 0 114 [.slz 608 0 d.ps.n cO]),(497,.lp LoopState.ready none (twT d w0) (Array.mk [31]) (KE (QW (QI f21 0))).1 (KE (QW (QI f21 0))).2),(120,.cells 0 36 [.slz 616 0 w0.o.length cO]),(QR2 d f'),(289,.mp E.1 E.2),(QNz d),(600,.rowz true 49 kB l.length λi=>QA.enc (l.getD i (Lay.mk (0:Int) (0:Int)))),(608,.rowz true 4 [CK.bool] d.ps.n u),(296,.cellsR 0 90 [.ptr 288 0 0]),(400,.cellsR 0 3 [.int false .i64 (w0.p:Int)]),(432,.cellsR 0 3 [vi (w0.q:Int)]),(456,.cellsR 0 90 [.ptr 200 0 0]),(464,.cellsR 0 96 [.nils]),(616,.rowz true 89 [.int .i64,.int .i64] w0.o.length λi=>QA.enc (w0.o.getD i (Tw.mk (0:Int) (0:Int))))]
theorem Qkh(l v:List Lay)(f:Nat)(vb:Bool)(f':Nat):(Vv (mkE prog (QBa pb d E l v w0.p w0.q f vb f')) (twM prog (QBa pb d E l v w0.p w0.q f vb f')) f103 QJ2 (H9 d E w0 (KE (QW (QI f21
  0))).1 (KE (QW (QI f21 0))).2 u l f).hp 632 λv h _=>Z4 WC v h) = .br ((l.length:Int)==(d.ps.n:Int)) (.need (pb ([0=0,l.length=l.length,Cap.of
  0=Cap.of 0,(w0.p:Int)=(w0.p:Int),(w0.q:Int)=(w0.q:Int),l.length<=l.length,QB 2 l.length (λi=>QA.enc (l.getD i (Lay.mk (0:Int) (0:Int)))) λi=>
  QA.enc (l.getD i (Lay.mk (0:Int) (0:Int)))])) (.need (pb ([0=0,0=0,0=0,v.length=v.length,Cap.of 0=Cap.of 0,d.pK.length=d.pK.length,d.pK.aK =
  d.pK.aK,d.pK.oK=d.pK.oK,d.pK.dK.lo=d.pK.dK.lo,d.pK.dK.hi=d.pK.dK.hi,d.wide=d.wide,d.high=d.high,d.turn=d.turn,0=0,d.ps.n =
  d.ps.n,Cap.of 0=Cap.of 0,0=0,f=f,Cap.of 0=Cap.of 0,E.1=E.1,E.2=E.2,v.length<=v.length,QB 2 v.length (λi=>QA.enc (v.getD i (Lay.mk (0:Int) (0 :
  Int)))) λi=>QA.enc (v.getD i (Lay.mk (0:Int) (0:Int))),d.ps.n<=d.ps.n,QB 28 d.ps.n (λi=>QA.enc (d.ps.get i)) λi=>QA.enc (d.ps.get i)])) (.br (vb)
  (.need (decide (w0.o.length<=w0.o.length)&&(true&&decide ((w0.o.length+1+(w0.o.length+1) / 4+192)*16<=281474976710656/\w0.o.length+1<=9223372036854775807)))
  (.leaf (.bool true false) ((QRe E d f' l u w0)))) (.leaf (.bool true true) ((QVD E d f' l u w0)))))) (.fail ("a loop")) := by kernel_rfl
abbrev QFT:List Prop:=(waa d++[cO=cO,0=0])
abbrev QVk(d:Puz)(l:List Lay):List Prop:=((wb4 E l)++wag l++(wbo d))
abbrev QM1:List Prop:=([Array.mk [31]=Array.mk [(31:Tmp)]]++wba++[w0.g 0=w0.g 0])
abbrev QAG:List Prop:=[0=0,0=0,0=0,0=0]
abbrev QTq:List Prop:=([w0.g 10=w0.g 10]++wan d w0++(([true=true,(w0.q:Int)=(w0.q:Int)]++wb3++[0=0])++wap w0))
theorem Qle(l v:List Lay)(f f':Nat):QF 632 [(.bool true false)] ((QRe E d f' l u w0)) (KX (twV d E w0 (KE (QW (QI f21 0))).1 (KE (QW (QI f21 0))).2 u l f f'))=(some ([false=false]++(QFT d)++(QVk E d l)++[QB 1 d.ps.n u u,LoopState.done=LoopState.done,some (Code.exit 4)=some (Code.exit 4)]++(QM1 w0)++QAG++[w0.g 3=w0.g 3] ++ QAG++QAG++[w0.g 8=w0.g 8,w0.g 9=w0.g 9]++(QTq d w0)++(wbf w0++[0=0,w0.o.length+1=w0.o2.length,cO=cO,w0.o2.length<=w0.o.length+1,QB 2 w0.o2.length (KQ w0.o.length (λi=>QA.enc (w0.o.getD i (Tw.mk (0:Int) (0:Int)))) (KD [[vi (w0.q:Int),vi (w0.p:Int)]] 0)) λi=>QA.enc (w0.o2.getD i (Tw.mk (0:Int) (0:Int)))])++(QFT d)++[f'=f',cO=cO,E.1=E.1,E.2=E.2])):=by kernel_rfl
theorem QfS(l v:List Lay)(f f':Nat):QF 632 [(.bool true true)] ((QVD E d f' l u w0)) (KX (twU d E w0 (KE (QW (QI f21 0))).1 (KE (QW (QI f21 0))).2 u l f f'))=(some ([true=true]++(QFT d)++(QVk E d l)++([QB 1 d.ps.n u u]++wai)++(QM1 w0)++QAG++[w0.g 3=w0.g 3]++QAG++QAG ++ [w0.g 8=w0.g 8,w0.g 9=w0.g 9]++(QTq d w0)++((wbf w0++[0=0,w0.o.length=w0.o.length,cO=cO])++was w0)++(QFT d)++[f'=f',cO=cO,E.1=E.1,E.2=E.2])):=by kernel_rfl
def twA(p q:Nat)(l:List Lay)(s:TJ):Qi TJ:=cond (V9 d E (l.map (swS p q))) (.stop ⟨iqZ d E (l.map (swS p q)) s.1,trivial⟩) (.go ⟨iqZ d E (l.map (swS p q)) s.1,trivial⟩)
abbrev twY:List Lay->TJ->Qi TJ:=twA d E w0.p w0.q
theorem QRi(T:Tab)(hT:Qf T)(G:Ctx)(hrd:G.rd=none):Q0 (mkE prog T) G (twM prog T) (Qn f103):=
 KO (body:=QI f103 0) (QP hT) hrd (by kernel_rfl) (λ_ _ _ _ _ _ _ h _ _=>h.elim)
theorem QcU(l:List Tw)(x:Tw):QB 2 (l++[x]).length (KQ l.length (λi=>QA.enc (l.getD i ⟨0,0⟩)) (KD [[.int false .i64 x.a,.int false .i64 x.b]] 0)) λi=>QA.enc ((l++[x]).getD i ⟨0,0⟩):=by
 intro i hi;rw[List.length_append,List.length_singleton]at hi;show eqF 2 0 _ (QA.enc ((l++[x]).getD i ⟨0,0⟩))
 by_cases h:i<l.length
 .have e:(l++[x]).getD i ⟨0,0⟩=l.getD i ⟨0,0⟩:=by
   rw[List.getD_eq_getElem?_getD,List.getD_eq_getElem?_getD,List.getElem?_append_left h]
  rw[e];refine⟨?_,?_,trivial⟩<;>(rw[X4,if_pos h])
 .obtain rfl:i=l.length:=by omega
  have e:(l++[x]).getD l.length ⟨0,0⟩=x:=by
   rw[List.getD_eq_getElem?_getD,List.getElem?_append_right (qlr _)];simp
  rw[e];refine⟨?_,?_,trivial⟩<;>(rw[X4,if_neg h,Nat.sub_self];rfl)
theorem QXZ{d:Puz}{p q:Nat}(hp:p<d.ps.n)(hq:q<d.ps.n){l:List Lay}(hL:∀ y∈l,KJ d y):∀ y∈l.map (swS p q),KJ d y:=by
 intro y hy;obtain⟨x,hx,rfl⟩:=List.mem_map.1 hy;obtain⟨h1,h2⟩:=hL x hx;unfold swS;cases (x.piece==(p:Int))
 .cases (x.piece==(q:Int))
  .exact⟨h1,h2⟩
  .exact⟨⟨by show(0:Int)<=p;omega,by show(p:Int)<_;omega⟩,h2⟩
 .exact⟨⟨by show(0:Int)<=q;omega,by show(q:Int)<_;omega⟩,h2⟩
set_option maxHeartbeats 1000000 in
theorem Qih{d:Puz}(hd:Kb d){E:ECt}(hE:WfE E){w0:TwP}(hw:w0.o2=w0.o++[⟨w0.q,w0.p⟩])(hol:w0.o.length<=1000000)(hp:w0.p<d.ps.n)(hq:w0.q<d.ps.n)(hpos:0<d.ps.n)(l:List Lay)(s:TJ)(hk:l.length=d.ps.n)(hL:∀ y∈l,KJ d y):QS prog 103 (uFC (XV d E w0 Wp WM l s (twY d E w0 l s))):=by
 have hll:l.length<=1000:=by rw[hk];exact hd.n
 have hvl:(l.map (swS w0.p w0.q)).length<=1000:=by rw[List.length_map];exact hll
 have hT:Qf (QBa QK d E l (l.map (swS w0.p w0.q)) w0.p w0.q s.1 (V9 d E (l.map (swS w0.p w0.q))) (iqZ d E (l.map (swS w0.p w0.q)) s.1)):=(Qm.add (QhG l w0.p w0.q (by omega) hll)).add (Qaq hd hE hvl (QXZ hp hq hL) s.1)
 have et:=Qkh QK d E w0 (QD l) l (l.map (swS w0.p w0.q)) s.1 (V9 d E (l.map (swS w0.p w0.q))) (iqZ d E (l.map (swS w0.p w0.q)) s.1);have hlen:((l.length:Int)==(d.ps.n:Int))=true:=by rw[hk];simp
 have ho2:w0.o2.length=w0.o.length+1:=by rw[hw];simp
 have hr:=QcU w0.o ⟨w0.q,w0.p⟩;rw[<-hw]at hr;unfold twY twA;cases h0:V9 d E (l.map (swS w0.p w0.q))with
 | true=>
  rw[h0]at hT et;simp only[cond_true,XV];refine K0 (E:=mkE prog (QBa QK d E l (l.map (swS w0.p w0.q)) w0.p w0.q s.1 true (iqZ d E (l.map (swS w0.p w0.q)) s.1))) (QP hT) func103 (by kernel_rfl) (by kernel_rfl) (QPU ..) (λG hG _=>QRi _ hT G hG) ⟨?_⟩
  refine Qh et ?_;clear et;refine QE ?_ ?_<;>intro b0
  iterate 2 (refine QG ?_ ?_;rotate_left)
  refine QE (λb1=>?_) (λb1=>?_);refine QG ?_ ?_;rotate_left;refine⟨rfl,rfl,_,Qle d E w0 (QD l) l (l.map (swS w0.p w0.q)) s.1 (iqZ d E (l.map (swS w0.p w0.q)) s.1),?_⟩
  rotate_left
  .cases b1
  .exact Bool.noConfusion (hlen.symm.trans b0)
  all_goals first|((with_reducible show _=true);(first|(refine KG.2 ?_;repeat' first|with_reducible refine QM ?_ ?_|exact tv|with_reducible exact qRr|exact rfl|refine aI ?_ ?_)|(simp;omega)))|(repeat' first|with_reducible refine QM ?_ ?_|exact tv|with_reducible exact qRr|with_reducible exact hr|exact ho2.symm|exact Nat.le_of_eq ho2|exact rfl|refine aI ?_ ?_)
 | false=>
  rw[h0]at hT et;simp only[cond_false,XV];refine K0 (E:=mkE prog (QBa QK d E l (l.map (swS w0.p w0.q)) w0.p w0.q s.1 false (iqZ d E (l.map (swS w0.p w0.q)) s.1))) (QP hT) func103 (by kernel_rfl) (by kernel_rfl) (QP4 ..) (λG hG _=>QRi _ hT G hG) ⟨?_⟩
  refine Qh et ?_;clear et;refine QE ?_ ?_<;>intro b0
  iterate 2 (refine QG ?_ ?_;rotate_left)
  refine QE ?_ ?_<;>intro b1
  .cases b1
  refine⟨rfl,rfl,_,QfS d E w0 (QD l) l (l.map (swS w0.p w0.q)) s.1 (iqZ d E (l.map (swS w0.p w0.q)) s.1),?_⟩
  rotate_left
  .exact Bool.noConfusion (hlen.symm.trans b0)
  all_goals first|((with_reducible show _=true);(first|(refine KG.2 ?_;repeat' first|with_reducible refine QM ?_ ?_|exact tv|with_reducible exact qRr|exact rfl|refine aI ?_ ?_)|(simp;omega)))|(repeat' first|with_reducible refine QM ?_ ?_|exact tv|with_reducible exact qRr|exact rfl|refine aI ?_ ?_)
theorem QON{d:Puz}{E:ECt}{w0:TwP}{ac body:Code}{rec:List Lay->TJ->Qi TJ}{l:List Lay}(hd:Kb d)(hE:WfE E)(hl:l.length<=1000)(hL:∀ y∈l,KJ d y)(s:TJ)(IH:∀ p,p<d.ps.n->QDV d E w0 ac body rec l p){X:List (Prop×Ex×JSt)}(hX:∀ e J,Yd d E w0 ac body rec l (0,s) e J->∃ y∈X,y.1/\y.2.1=e/\y.2.2=J)(G:Ctx)(hrd:G.rd=none)(hG:G.n=632):
  Q0 (mkE prog QV) G (twX prog (GS d E w0 ac body (QD l) l s.1 0) X) (Qn f103):=by
 refine KO (body:=QI f103 0) (QP Qm) hrd (by kernel_rfl) ?_
 have hEnv:∀ k:Nat×TJ,(mkE prog (jT QK d l.length k.1)).Sound:=λk=>QP (Qm.add (Yf d l.length k.1));refine JG (E0:=mkE prog QV) (E:=λk:Nat×TJ=>mkE prog (jT QK d l.length k.1)) (H:=λk=>QEv prog QK d E w0 ac body (QD l) l k.2.1 k.1 (QBw d E w0 ac body rec l k.1 k.2)) (n0:=632) (s0:=(0,s)) (λ_=>rfl) hEnv (by omega) (λk _=>QiI hd hE hl hL k.1 k.2 (IH k.1) G hrd (by omega)) (λk _=>(by decide:632<=672)) ?_ (QdN d E w0 ac body rec l hd.n) (Nat.zero_le _) hX
 intro k e J hr;unfold Yd at hr;split at hr<;>(rw[hr.2];exact(by decide:632<=672))
set_option maxHeartbeats 1000000 in
theorem QeL{d:Puz}{E:ECt}{w0:TwP}(hd:Kb d)(hE:WfE E){l:List Lay}(hk:l.length+(k+1)=d.ps.n)(hL:∀ y∈l,KJ d y)(IH:∀ p,p<d.ps.n->QDV d E w0 Wp WM (onY d E (twY d E w0) k) l p)(s:TJ):QS prog 103 (uFC (XV d E w0 Wp WM l s (onY d E (twY d E w0) (k+1) l s))):=by
 have hdn:=hd.n;have hr0:onY d E (twY d E w0) (k+1) l s=KC (K3 d E (onY d E (twY d E w0) k) l) (List.range d.ps.n) s:=rfl;rw[hr0];have hne:((l.length:Int)==(d.ps.n:Int))=false:=by rw[beq_eq_false_iff_ne];omega
 obtain⟨f,hq0⟩:=s;cases hc:KC (K3 d E (onY d E (twY d E w0) k) l) (List.range d.ps.n) ⟨f,hq0⟩with
 | go s'=>
  obtain⟨f',hq1⟩:=s';simp only[XV];have et:=QTZ d E w0 (QD l) (QD l) l f True False f';refine K0 (E:=mkE prog QV) (QP Qm) func103 (by kernel_rfl) (by kernel_rfl) (QP4 ..) (QON hd hE (by omega) hL ⟨f,hq0⟩ IH (X:=[(True,.exit 0,Gj d E w0 Wp WM (QD l) l f'),(False,.ret,twF d E w0 Wp WM (QD l) l f')]) ?_) ⟨?_⟩
  .intro e J hr;unfold Yd at hr;simp only[List.drop_zero,hc]at hr;exact⟨_,qmc,trivial,hr.1.symm,hr.2.symm⟩
  refine Qh et ?_;clear et;refine QE ?_ ?_<;>intro b0
  .exact Bool.noConfusion (hne.symm.trans b0)
  iterate 139 refine Qt (by first|exact tv|with_reducible exact qRr|exact rfl) ?_
  refine Kq ?_ ?_;refine Qk λa0=>?_;refine Ql λg0=>?_;refine⟨rfl,rfl,_,QdM d E w0 (QD l) (QD l) l f f',?_⟩
  rotate_left
  refine Qk λa1=>?_;refine Ql λg1=>?_
  .exact a1.elim
  all_goals (repeat' first|with_reducible refine QM ?_ ?_|exact tv|with_reducible exact qRr|exact rfl|refine aI ?_ ?_)
 | stop s'=>
  obtain⟨f',hq1⟩:=s';simp only[XV];have et:=QTZ d E w0 (QD l) (QD l) l f False True f';refine K0 (E:=mkE prog QV) (QP Qm) func103 (by kernel_rfl) (by kernel_rfl) (QPU ..) (QON hd hE (by omega) hL ⟨f,hq0⟩ IH (X:=[(False,.exit 0,Gj d E w0 Wp WM (QD l) l f'),(True,.ret,twF d E w0 Wp WM (QD l) l f')]) ?_) ⟨?_⟩
  .intro e J hr;unfold Yd at hr;simp only[List.drop_zero,hc]at hr;exact⟨_,List.mem_cons_of_mem _ qmc,trivial,hr.1.symm,hr.2.symm⟩
  refine Qh et ?_;clear et;refine QE ?_ ?_<;>intro b0
  .exact Bool.noConfusion (hne.symm.trans b0)
  iterate 139 refine Qt (by first|exact tv|with_reducible exact qRr|exact rfl) ?_
  refine Kq ?_ ?_;refine Qk λa0=>?_;refine Ql λg0=>?_
  .exact a0.elim
  refine Qk λa1=>?_;refine Ql λg1=>?_;refine⟨rfl,rfl,_,Qd2 d E w0 (QD l) (QD l) l f f',?_⟩
  rotate_left
  all_goals (repeat' first|with_reducible refine QM ?_ ?_|exact tv|with_reducible exact qRr|exact rfl|refine aI ?_ ?_)
theorem Qd9{d:Puz}{E:ECt}{w0:TwP}(hd:Kb d)(hE:WfE E)(hw:w0.o2=w0.o++[⟨w0.q,w0.p⟩])(hol:w0.o.length<=1000000)(hp:w0.p<d.ps.n)(hq:w0.q<d.ps.n)(hpos:0<d.ps.n)(k:Nat):∀(l:List Lay) (s:TJ),l.length+k=d.ps.n->(∀ y∈l,KJ d y)->QS prog 103 (uFC (XV d E w0 Wp WM l s (onY d E (twY d E w0) k l s))):=by
 induction k with
 | zero=>exact λl s hk hL=>Qih hd hE hw hol hp hq hpos l s hk hL
 | succ k ih=>
  intro l s hk hL;refine QeL hd hE hk hL ?_ s;intro p hp t ht s;exact ih _ s (QC6 l _ hk) (QEa hp ht hL)
def toS:List (Nat×AV):=[(1,.ptr 112 0 0),(2,.ptr 120 0 0),(4,.ptr 200 0 0),(5,.ptr 296 0 0),(21,.int false .i64 d.ps.n),(22,.int false .i64 p)]
def toW(o:List Tw):List (Nat×Blk):=[bdL d 392,(201,.mp E.1 E.2),rwY 392 [],bdZ d 384 z,(289,.mp E.1 E.2),(120,.cells 0 36 [.slz 408 0 o.length (.of 0)]),rwT 408 o]
def toR:List (Nat×Blk):=[(296,.cells 0 90 [.ptr 288 0 0]),(112,.cells 0 28 (KZ d))]++Qg.blk 0 d.ps
def toJ(o:List Tw):JSt:=⟨48,toS d p,toW d E z o++toR d,416⟩
def toF:JSt:=⟨48,[(2,.ptr 120 0 0)],[(120,.cells 0 36 [.slz 408 0 o.length (.of 0)]),rwT 408 o],416⟩
def tiJ(p q:Nat)(z:Nat)(o:List Tw):JSt:=⟨48,toS d p++[(6,.ptr 400 0 0),(25,.int false .i64 p),(26,.int false .i64 q)],toW d E z o++(400,.cells 0 3 [.int false .i64 p])::toR d,416⟩
def vo:List Nat:=[200,201,120,288,289,296,112]
def QQl:Ex->List Nat
 | .normal=>[1,2,4,5,21,22]
 | .exit _=>[2]
 | .ret=>[]
def QJC:Ex->List Nat
 | .normal=>[1,2,4,5,21,22,6,25,26]
 | .exit _=>[1,2,4,5,21,22]
 | .ret=>[]
def QB2(U:UC):Tab:=Qc QV 103 (KT pb U)
abbrev waU(o:List Tw):List Prop:=[o.length<=o.length,QB 2 o.length (λi=>QA.enc (o.getD i (Tw.mk (0:Int) (0:Int)))) λi=>QA.enc (o.getD i (Tw.mk (0:Int) (0:Int)))]
abbrev QTw(d:Puz)(g0:Nat->Value)(o:List Tw)(p:Nat)(q:Nat)(u:Nat->Nat->Int)(z:Nat):List Prop:=((wbN)++waa d++(((wce E)++wam++(wbo d++[QB 1 d.ps.n (λx x_1=>(0:Int)) u]))++wai++(([Array.mk [31]=Array.mk [31]]++wba++(([g0 0=g0 0,0=0,0=0,0=0,0=0,g0 (0+1+1+1)=g0 3]++wcm++[g0 (0+1+1+1+1+1+1+1+1)=g0 8,g0 (0+1+1+1+1+1+1+1+1+1)=g0 9,g0 (0+1+1+1+1+1+1+1+1+1+1)=g0 10,g0 (0+1+1+1+1+1+1+1+1+1+1+1)=g0 11,g0 (0+1+1+1+1+1+1+1+1+1+1+1+1)=g0 12,g0 (0+1+1+1+1+1+1+1+1+1+1+1+1+1)=g0 13,g0 (0+1+1+1+1+1+1+1+1+1+1+1+1+1+1)=g0 14,g0 (0+1+1+1+1+1+1+1+1+1+1+1+1+1+1+1)=g0 15,g0 (0+1+1+1+1+1+1+1+1+1+1+1+1+1+1+1+1)=g0 16,g0 (0+1+1+1+1+1+1+1+1+1+1+1+1+1+1+1+1+1)=g0 17,g0 (0+1+1+1+1+1+1+1+1+1+1+1+1+1+1+1+1+1+1)=g0 18,g0 (0+1+1+1+1+1+1+1+1+1+1+1+1+1+1+1+1+1+1+1)=g0 19,g0 (0+1+1+1+1+1+1+1+1+1+1+1+1+1+1+1+1+1+1+1+1)=g0 20])++wb6 d p++([g0 (0+1+1+1+1+1+1+1+1+1+1+1+1+1+1+1+1+1+1+1+1+1+1+1)=g0 23,g0 (0+1+1+1+1+1+1+1+1+1+1+1+1+1+1+1+1+1+1+1+1+1+1+1+1)=g0 24,(p:Int)=(p:Int),(q:Int)=(q:Int),true=true,(q:Int)=(q:Int),0=0,0=0]++wcg++[g0 (0+1+1+1+1+1+1+1+1+1+1+1+1+1+1+1+1+1+1+1+1+1+1+1+1+1+1+1+1+1+1+1)=g0 31,g0 (0+1+1+1+1+1+1+1+1+1+1+1+1+1+1+1+1+1+1+1+1+1+1+1+1+1+1+1+1+1+1+1+1)=g0 32,g0 (0+1+1+1+1+1+1+1+1+1+1+1+1+1+1+1+1+1+1+1+1+1+1+1+1+1+1+1+1+1+1+1+1+1)=g0 33,g0 (0+1+1+1+1+1+1+1+1+1+1+1+1+1+1+1+1+1+1+1+1+1+1+1+1+1+1+1+1+1+1+1+1+1+1)=g0 34,g0 (0+1+1+1+1+1+1+1+1+1+1+1+1+1+1+1+1+1+1+1+1+1+1+1+1+1+1+1+1+1+1+1+1+1+1+1)=g0 35,g0 (0+1+1+1+1+1+1+1+1+1+1+1+1+1+1+1+1+1+1+1+1+1+1+1+1+1+1+1+1+1+1+1+1+1+1+1+1)=g0 36,g0 (0+1+1+1+1+1+1+1+1+1+1+1+1+1+1+1+1+1+1+1+1+1+1+1+1+1+1+1+1+1+1+1+1+1+1+1+1+1)=g0 37,g0 (0+1+1+1+1+1+1+1+1+1+1+1+1+1+1+1+1+1+1+1+1+1+1+1+1+1+1+1+1+1+1+1+1+1+1+1+1+1+1)=g0 38,g0 (0+1+1+1+1+1+1+1+1+1+1+1+1+1+1+1+1+1+1+1+1+1+1+1+1+1+1+1+1+1+1+1+1+1+1+1+1+1+1+1)=g0 39,g0 (0+1+1+1+1+1+1+1+1+1+1+1+1+1+1+1+1+1+1+1+1+1+1+1+1+1+1+1+1+1+1+1+1+1+1+1+1+1+1+1+1)=g0 40,g0 (0+1+1+1+1+1+1+1+1+1+1+1+1+1+1+1+1+1+1+1+1+1+1+1+1+1+1+1+1+1+1+1+1+1+1+1+1+1+1+1+1+1)=g0 41,g0 (0+1+1+1+1+1+1+1+1+1+1+1+1+1+1+1+1+1+1+1+1+1+1+1+1+1+1+1+1+1+1+1+1+1+1+1+1+1+1+1+1+1+1)=g0 42,g0 (0+1+1+1+1+1+1+1+1+1+1+1+1+1+1+1+1+1+1+1+1+1+1+1+1+1+1+1+1+1+1+1+1+1+1+1+1+1+1+1+1+1+1+1)=g0 43,g0 (0+1+1+1+1+1+1+1+1+1+1+1+1+1+1+1+1+1+1+1+1+1+1+1+1+1+1+1+1+1+1+1+1+1+1+1+1+1+1+1+1+1+1+1+1)=g0 44,g0 (0+1+1+1+1+1+1+1+1+1+1+1+1+1+1+1+1+1+1+1+1+1+1+1+1+1+1+1+1+1+1+1+1+1+1+1+1+1+1+1+1+1+1+1+1+1)=g0 45,g0 (0+1+1+1+1+1+1+1+1+1+1+1+1+1+1+1+1+1+1+1+1+1+1+1+1+1+1+1+1+1+1+1+1+1+1+1+1+1+1+1+1+1+1+1+1+1+1)=g0 46,g0 (0+1+1+1+1+1+1+1+1+1+1+1+1+1+1+1+1+1+1+1+1+1+1+1+1+1+1+1+1+1+1+1+1+1+1+1+1+1+1+1+1+1+1+1+1+1+1+1)=g0 47,0=0,o.length=o.length,cO=cO])))++waU o))++waa d++(([cO=cO,0=0,z=z,cO=cO,E.1=E.1,E.2=E.2,Fn.func 103=Fn.func 103]++wbN++[0=0,0=0,(q:Int)=(q:Int),(p:Int)=(p:Int),0=0,0=0])++wad d))
abbrev wbj:List AV:=[.ptr 112 0 0,.ptr 120 0 0,.ptr 200 0 0,.ptr 296 0 0]
abbrev QQm(q:Nat):List AV:=(.nilp::.ptr 48 0 0::List.append (wbj) ([vi (d.ps.n:Int),vi (p:Int),.ptr 400 0 0,vi (p:Int),.int false .i64 (i64.wrap ((q:Int)+1))]))
abbrev QTG:Nat×Blk:=(200,.cells 0 152 (List.append (waf d) ([.map 201,.slz 616 0 0 cO])))
abbrev QL6:Nat×Blk:=(288,.cells 0 152 (List.append (waf d) ([.map 289,.slz 619 0 z' cO])))
abbrev QFL:Nat×Blk:=(296,.cells 0 90 [.ptr 288 0 0])
abbrev QGU:Nat×Blk:=(112,.cells 0 28 (waf d))
abbrev QEy:Nat×Blk:=(0,.frz (wae) d.ps.n λi=>QA.enc (d.ps.get i))
abbrev QVS:Nat×Blk:=(616,.rowz true 49 kB 0 λi=>QA.enc ([].getD i (Lay.mk (0:Int) (0:Int))))
abbrev QLe(d:Puz)(o:List Tw)(p:Nat)(z':Nat):List (Nat×Blk):=[(QTG d),(201,.mp E.1 E.2),(120,.cells 0 36 [.slz 618 0 o.length cO]),(QL6 d z'),(289,.mp E.1 E.2),QFL,(QGU d),(400,.cells 0 3 [vi (p:Int)]),(QEy d),QVS,(618,.rowz true 89 kB o.length λi=>QA.enc (o.getD i (Tw.mk (0:Int) (0:Int))))]
abbrev QVo:List AV:=(.ptr 2 0 0::.ptr 48 0 0::List.append (wbj) ([vi (d.ps.n:Int),vi (p:Int)]))
abbrev QMV:Nat×Blk:=(200,.cells 0 152 (List.append (waf d) ([.map 201,.slz 392 0 0 cO])))
abbrev QSh:Nat×Blk:=(392,.rowz true 49 kB 0 λi=>QA.enc ([].getD i (Lay.mk (0:Int) (0:Int))))
abbrev Hf(d:Puz)(o:List Tw)(z:Nat):List (Nat×Blk):=[(QMV d),(201,.mp E.1 E.2),(120,.cells 0 36 [.slz 408 0 o.length cO]),(288,.cells 0 152 (vi d.pK.length::vi d.pK.aK::.int false .i64 d.pK.oK::vi d.pK.dK.lo::vi d.pK.dK.hi::vi d.wide::vi d.high::List.append (wbS d) ([.slz 384 0 z cO]))),(289,.mp E.1 E.2),QFL,(QGU d),(QEy d),QSh,(408,.rowz true 89 kB o.length λi=>QA.enc (o.getD i (Tw.mk (0:Int) (0:Int))))]
theorem QjP(p q z:Nat)(o o2:List Tw)(z':Nat)(g0:Nat->Value):exec (mkE prog (QB2 pb (twU d E ⟨o,o2,p,q,g0⟩ (KE (QW (QI f21 0))).1 (KE (QW (QI f21 0))).2 u [] z z'))) (hnd (mkE prog (QB2 pb (twU d E ⟨o,o2,p,q,g0⟩ (KE (QW (QI f21 0))).1 (KE (QW (QI f21 0))).2 u [] z z'))) 8) (QW (QI f21 0)) (JSt.inst (JSt.dfrs (tiJ d E p q z o) 368) g0) (HG vo QJC) = .br (decide ((q:Int)<(p:Int))) (.need (decide ((d.ps.n:Int)=(d.ps.n:Int))&&decide ((0:Int)<=(d.ps.n:Int)/\(d.ps.n:Int)<=17179869184)) (.need (pb ((QTw E d g0 o p q u z))) (.leaf (.tup (QQm d p q)) ((QLe E d o p z'))))) (.leaf (.tup (QVo d p)) ((Hf E d o z))):=by kernel_rfl
abbrev QNN(d:Puz)(o2:List Tw)(p:Nat)(z':Nat):List (Nat×Blk):=[(QTG d),(201,.mp E.1 E.2),(120,.cells 0 36 [.slz 618 0 o2.length cO]),(QL6 d z'),(289,.mp E.1 E.2),QFL,(QGU d),(400,.cells 0 3 [vi (p:Int)]),(QEy d),QVS,(618,.rowz true 89 kB o2.length λi=>QA.enc (o2.getD i (Tw.mk (0:Int) (0:Int))))]
theorem QaQ(p q z:Nat)(o o2:List Tw)(z':Nat)(g0:Nat->Value):exec (mkE prog (QB2 pb (twV d E ⟨o,o2,p,q,g0⟩ (KE (QW (QI f21 0))).1 (KE (QW (QI f21 0))).2 u [] z z'))) (hnd (mkE prog (QB2 pb (twV d E ⟨o,o2,p,q,g0⟩ (KE (QW (QI f21 0))).1 (KE (QW (QI f21 0))).2 u [] z z'))) 8) (QW (QI f21 0)) (JSt.inst (JSt.dfrs (tiJ d E p q z o) 368) g0) (HG vo QJC) = .br (decide ((q:Int)<(p:Int))) (.need (decide ((d.ps.n:Int)=(d.ps.n:Int))&&decide ((0:Int)<=(d.ps.n:Int)/\(d.ps.n:Int)<=17179869184)) (.need (pb ((QTw E d g0 o p q u z))) (.leaf (.tup (QQm d p q)) ((QNN E d o2 p z'))))) (.leaf (.tup (QVo d p)) ((Hf E d o z))):=by kernel_rfl
abbrev QQT(q:Nat):List AV:=(List.append (wbj) ([vi (d.ps.n:Int),vi (p:Int),.ptr 400 0 0,vi (p:Int),.int false .i64 (i64.wrap ((q:Int)+1))]))
abbrev QJE:List Prop:=[0=0,0=0,0=0,0=0,0=0]
abbrev QU6(q:Nat)(q':Nat):List Prop:=([0=0,0=0,0=0]++wb6 d p++[0=0,0=0,(p:Int)=(p:Int),i64.wrap ((q:Int)+1)=(q':Int),d.pK.length=d.pK.length])
abbrev WT:List Prop:=([d.pK.aK=d.pK.aK]++waC d++[0=0,d.ps.n=d.ps.n,cO=cO])
abbrev QLL(d:Puz):List Prop:=([0=0,0=0,cO=cO,E.1=E.1,E.2=E.2]++wam++[d.pK.length=d.pK.length])
abbrev QTJ:List Prop:=([0=0,o.length=o.length,cO=cO]++waU o)
theorem QlS(p q q' z':Nat)(o:List Tw):QF 376 (QQT d p q) ((QLe E d o p z')) (tiJ d E p q' z' o)=(some (QJE++(QU6 d p q q')++(WT d)++(QLL E d)++(WT d)++[0=0,z'=z',cO=cO, E.1=E.1,E.2=E.2]++(QTJ o)++[(p:Int)=(p:Int),0=0,0=0,d.pK.length=d.pK.length]++(WT d)++(wad d))):=by kernel_rfl
abbrev QTE:List AV:=(List.append (wbj) ([vi (d.ps.n:Int),vi (p:Int)]))
abbrev QRx(d:Puz)(o:List Tw)(p:Nat)(z:Nat):List Prop:=(((wcm)++wb6 d p)++waa d++((wce E)++wam)++waa d++([cO=cO,0=0,z=z,cO=cO,E.1=E.1,E.2=E.2,0=0,o.length=o.length,cO=cO]++waU o++[0=0,0=0])++waa d++([cO=cO]++wad d))
theorem QZP(o:List Tw):QF 376 (QTE d p) ((Hf E d o z)) (toJ d E p z o)=(some (QRx E d o p z)):=by kernel_rfl
theorem QW0(p q q' z':Nat)(o2:List Tw):QF 376 (QQT d p q) ((QNN E d o2 p z')) (tiJ d E p q' z' o2)=(some (QJE++(QU6 d p q q')++(WT d)++(QLL E d)++(WT d)++[0=0,z'=z',cO=cO,E.1=E.1,E.2=E.2,0=0,o2.length=o2.length,cO=cO,o2.length<=o2.length,QB 2 o2.length (λi=>QA.enc (o2.getD i (Tw.mk (0:Int) (0:Int)))) λi=>QA.enc (o2.getD i (Tw.mk (0:Int) (0:Int))),(p:Int)=(p:Int),0=0,0=0,d.pK.length=d.pK.length]++(WT d)++(wad d))):=by kernel_rfl
theorem QXo(o:List Tw):QF 376 (QTE d p) ((Hf E d o z)) (toJ d E p z o)=(some (QRx E d o p z)):=by kernel_rfl
abbrev toH(P:Program)(d:Puz)(E:ECt)(p z:Nat)(o:List Tw)(X:List (Prop×Ex×JSt)):Hnd:={ hnd (mkE P QV) 1 with loop:=λ_=>Ks (p<d.ps.n) (QGk 376 vo (tiJ d E p (0:Nat) z o) X) }
abbrev QNu(d:Puz)(o':List Tw)(z':Nat):List (Nat×Blk):=[(QMV d),(201,.mp E.1 E.2),(120,.cells 0 36 [.slz 408 0 o'.length cO]),(288,.cells 0 152 (vi d.pK.length::vi d.pK.aK::.int false .i64 d.pK.oK::vi d.pK.dK.lo::vi d.pK.dK.hi::vi d.wide::vi d.high::List.append (wbS d) ([.slz 384 0 z' cO]))),(289,.mp E.1 E.2),QFL,(QGU d),(QEy d),QSh,(408,.rowz true 89 kB o'.length λi=>QA.enc (o'.getD i (Tw.mk (0:Int) (0:Int))))]
theorem Qe9(o:List Tw)(z':Nat)(o':List Tw)(g0:Nat->Value):exec (mkE prog QV) (toH prog d E p z o [(True,.exit 2,(toJ d E p z' o').dfrs 368)]) (QI f21 0) (JSt.inst (JSt.dfrs (toJ d E p z o) 368) g0) (HG vo QQl) = .br (decide ((p:Int)<(d.ps.n:Int))) (.ak [p<d.ps.n] (.ak (rz 8) (.ak ((wb6 d p++[0=0,0=0,(p:Int)=(p:Int),(0:Int)=0])++waa d++((wce E)++wam)++waa d++([cO=cO,0=0,z=z,cO=cO,E.1=E.1,E.2=E.2,0=0,o.length=o.length,cO=cO]++waU o++[(p:Int)=(p:Int),0=0,0=0])++waa d++([cO=cO]++wad d)) (.asm (True) (.all (λ(g0:Nat->Value)=>.leaf (.tup (.nilp::.ptr 48 0 0::List.append (wbj) ([vi (d.ps.n:Int),vi (i64.wrap ((p:Int)+1))]))) ((QNu E d o' z')))))))) (.leaf (.tup [.ptr 0 0 0,.ptr 48 0 0,.ptr 120 0 0]) ((Hf E d o z))):=by kernel_rfl
theorem QbH(p' z':Nat)(p:Nat)(o':List Tw):QF 376 (List.append (wbj) ([vi (d.ps.n:Int),vi (i64.wrap ((p:Int)+1))])) ((QNu E d o' z')) (toJ d E p' z' o')=(some (QJE++([0=0,0=0,0=0]++wbq d p p')++(WT d)++(QLL E d)++(WT d)++[0=0,z'=z',cO=cO,E.1=E.1,E.2=E.2,0=0,o'.length=o'.length,cO=cO,o'.length<=o'.length,QB 2 o'.length (λi=>QA.enc (o'.getD i (Tw.mk (0:Int) (0:Int)))) λi=>QA.enc (o'.getD i (Tw.mk (0:Int) (0:Int))),0=0,0=0,d.pK.length=d.pK.length]++(WT d)++(wad d))):=by kernel_rfl
theorem Qc1(d:Puz)(E:ECt)(p:Nat):QF 376 [.ptr 120 0 0] ((Hf E d o z)) (toF o)=(some ([0=0,0=0]++(QTJ o))):=by kernel_rfl
def tiZ(p q:Nat)(s:Nat×List Tw):Nat×List Tw:=match onY d E (twA d E p q) d.ps.n [] ⟨s.1,trivial⟩with
 | .go z=>(z.1,s.2)
 | .stop z=>(z.1,s.2++[⟨q,p⟩])
def XG(p k:Nat)(s:Nat×List Tw):Nat×List Tw:=((List.range p).drop k).foldl (λs q=>tiZ d E p q s) s
def HO(k:Nat)(s:Nat×List Tw):Nat×List Tw:=((List.range d.ps.n).drop k).foldl (λs p=>XG d E p 0 s) s
theorem QRu{σ:Type}{f:σ->Nat->σ}{n:Nat}(h:k<n)(s:σ):((List.range n).drop k).foldl f s=((List.range n).drop (k+1)).foldl f (f s k):=by
 have:(List.range n).drop k=k::(List.range n).drop (k+1):=by
  rw[List.drop_eq_getElem_cons (by simpa using h)]
  simp
 rw[this,List.foldl_cons]
theorem QOU{σ:Type}{f:σ->Nat->σ}{n:Nat}(h:n<=k)(s:σ):((List.range n).drop k).foldl f s=s:=by
 rw[List.drop_eq_nil_of_le (by simpa using h),List.foldl_nil]
theorem QWU(p q:Nat)(s:Nat×List Tw):(tiZ d E p q s).2.length<=s.2.length+1:=by
 unfold tiZ;split
 .exact Nat.le_succ _
 .rw[List.length_append,List.length_singleton];exact qlr _
def tiU(p q z:Nat)(o:List Tw)(g:Nat->Value):UC:=XV d E ⟨o,o++[⟨q,p⟩],p,q,g⟩ Wp WM [] ⟨z,trivial⟩ (onY d E (twA d E p q) d.ps.n [] ⟨z,trivial⟩)
theorem QiM{d:Puz}(hd:Kb d){E:ECt}(hE:WfE E){p q z:Nat}{o:List Tw}(hp:p<d.ps.n)(g:Nat->Value)(e1:o.length<=1000000)(e2:q<d.ps.n)(e3:0<d.ps.n):QS prog 103 (uFC (tiU d E p q z o g)):=by
 have hl:([]:List Lay).length+d.ps.n=d.ps.n:=by simp
 have hc:∀ y∈([]:List Lay),KJ d y:=λc hc=>by cases hc
 have h:=Qd9 (w0:=⟨o,o++[⟨q,p⟩],p,q,g⟩) hd hE rfl e1 hp e2 e3 d.ps.n [] ⟨z,trivial⟩ hl hc;unfold tiU;exact h
open Classical in
def jp(P:Program)(d:Puz)(E:ECt)(p:Nat)(k:Nat×Nat×List Tw)(g:Nat->Value):Env:=mkE P (QB2 (if k.1<p then QK else λ_=>false) (tiU d E p k.1 k.2.1 k.2.2 g))
theorem Qbi{d:Puz}(hd:Kb d){E:ECt}(hE:WfE E){p:Nat}(hp:p<d.ps.n)(k:Nat×Nat×List Tw)(g:Nat->Value)(hk:k.2.2.length<=1000*p+k.1):(jp prog d E p k g).Sound:=by
 unfold jp;have hn:=hd.n;obtain⟨q,z,o⟩:=k;have hk:o.length<=1000*p+q:=hk
 by_cases h:q<p
 .have e1:o.length<=1000000:=by omega
  have e2:q<d.ps.n:=by omega
  have e3:0<d.ps.n:=by omega
  rw[if_pos (show(q,z,o).1<p from h)];exact QP (Qm.add (QiM hd hE hp g e1 e2 e3))
 .rw[if_neg h];exact QP (Qm.add (Jx (by kernel_rfl) _))
def GT(k:Nat×Nat×List Tw)(e:Ex)(J:JSt):Prop:=e = .exit 2/\J=toJ d E p (XG d E p k.1 k.2).1 (XG d E p k.1 k.2).2
set_option maxHeartbeats 1000000 in
theorem QXH(hp:p<d.ps.n)(hn:d.ps.n<=1000):QEn (λk:Nat×Nat×List Tw=>tiJ d E p k.1 k.2.1 k.2.2) (λk=>k.1<=p/\k.2.2.length<=1000*p+k.1) (λk=>p-k.1) (GT d E p) 376 368 QJC vo (jp prog d E p) (λk g=>hnd (jp prog d E p k g) 8) (QW (QI f21 0)):=by
 refine⟨λk g0 hk=>?_⟩;obtain⟨q,z,o⟩:=k;obtain⟨hk,hol⟩:=hk;have hk:q<=p:=hk;have hol:o.length<=1000*p+q:=hol;have hl2:(o++[(⟨q,p⟩:Tw)]).length<=1000*p+(q+1):=by rw[List.length_append,List.length_singleton];omega
 have hl1:o.length<=1000*p+(q+1):=by omega
 have hz:∀ k,QB 1 k (λ_ _=>0) (QD []):=λk i _=>⟨rfl,trivial⟩;have hw:q<p->i64.wrap ((q:Int)+1)=((q+1:Nat):Int):=λh=>Vo h (by omega)
 have hpb:q<p->(if q<p then QK else λ_=>false)=QK:=λh=>if_pos h
 have next:q<p->∀ e J,GT d E p (q+1,tiZ d E p q (z,o)) e J->GT d E p (q,z,o) e J:=by
  intro h e J hr;unfold GT XG at hr ⊢;rw[QRu h];exact hr
 have last:p<=q->GT d E p (q,z,o) (.exit 2) (toJ d E p z o):=by
  intro h;unfold GT XG;simp only[QOU h,and_self]
 unfold jp tiU;simp only;cases hr:onY d E (twA d E p q) d.ps.n [] ⟨z,trivial⟩with
 | go s=>
  have hs:tiZ d E p q (z,o)=(s.1,o):=by unfold tiZ;simp only[hr]
  rw[hs]at next
  simp only[XV];have et:=QjP (if q<p then QK else λ_=>false) d E (QD []) p q z o (o++[⟨q,p⟩]) s.1 g0
  refine Qh et ?_;clear et;refine QE (λb0=>?_) (λb0=>?_);have h:q<p:=by have:=qdt b0;omega
  rw[hpb h];have hw:=hw h
  iterate 2 (refine QG ?_ ?_;rotate_left)
  refine⟨(q+1,s.1,o),⟨h,hl1⟩,by show p-(q+1)<p-q;omega,next h,rfl,rfl,_,QlS d E p q (q+1) s.1 o,?_⟩
  rotate_left
  have h:p<=q:=by have:=qdf b0;omega
  refine⟨_,last h,rfl,rfl,_,QZP d E p z o,?_⟩
  rotate_left
  all_goals first|((with_reducible show _=true);(first|rfl|(refine KG.2 ?_;repeat' first|with_reducible refine QM ?_ ?_|exact tv|with_reducible exact qRr|with_reducible exact hz _|exact rfl|refine aI ?_ ?_)|(simp;omega)))|(repeat' first|with_reducible refine QM ?_ ?_|exact tv|with_reducible exact qRr|with_reducible exact hw|exact rfl|refine aI ?_ ?_)
 | stop s=>
  have hs:tiZ d E p q (z,o)=(s.1,o++[⟨q,p⟩]):=by unfold tiZ;simp only[hr]
  rw[hs]at next
  simp only[XV];generalize o++[(⟨q,p⟩:Tw)]=o2 at next hl2 ⊢
  clear hs hr;have et:=QaQ (if q<p then QK else λ_=>false) d E (QD []) p q z o o2 s.1 g0
  refine Qh et ?_;clear et;refine QE (λb0=>?_) (λb0=>?_);have h:q<p:=by have:=qdt b0;omega
  rw[hpb h];have hw:=hw h
  iterate 2 (refine QG ?_ ?_;rotate_left)
  refine⟨(q+1,s.1,o2),⟨h,hl2⟩,by show p-(q+1)<p-q;omega,next h,rfl,rfl,_,QW0 d E p q (q+1) s.1 o2,?_⟩
  rotate_left
  have h:p<=q:=by have:=qdf b0;omega
  refine⟨_,last h,rfl,rfl,_,QXo d E p z o,?_⟩
  rotate_left
  all_goals first|((with_reducible show _=true);(first|rfl|(refine KG.2 ?_;repeat' first|with_reducible refine QM ?_ ?_|exact tv|with_reducible exact qRr|with_reducible exact hz _|exact rfl|refine aI ?_ ?_)|(simp;omega)))|(repeat' first|with_reducible refine QM ?_ ?_|exact tv|with_reducible exact qRr|with_reducible exact hw|exact rfl|refine aI ?_ ?_)
abbrev mkN(P:Program)(C:Tab):Env:=⟨P,C,vE P,false,λ_=>false,true,false,true⟩
theorem QVa{C:Tab}(hC:Qf C):(mkN prog C).Sound:={ c:=hC,m:=QCL prog,mixed:=QA8 }
def rwP(id n:Nat)(g:Nat->Nat->Int):Nat×Blk:=(id,.rowz true 89 kB n g)
theorem QWj(n:Nat)(g:Nat->Nat->Int):QF 8 [.nils] [] (Kk 8 (.slz 0 0 n cO) [rwP 0 n g])=( some [n=(0:Nat),n=(0:Nat)]):=by kernel_rfl
theorem Qjw(m n:Nat)(h g:Nat->Nat->Int):QF 8 [.slz 48 0 m cO] [rwP 48 m h] (Kk 8 (.slz 0 0 n cO) [rwP 0 n g])=( some [0=0,m=n,cO=cO,n<=m,QB (2:Nat) n h g]):=by kernel_rfl
def QCN:WF ((Rw Tw)×Unit):=λ|(L,_)=>(decide (L.n<=1000000),.slz 0 0 L.n (.of 0),[rwP 0 L.n λi=>QA.enc (L.get i)])
def QSk:FC:=wFC QCN
theorem Qks(L:(Rw Tw)):Kg (mkN prog QV) (hnd (mkN prog QV) 1) f106 (QZ.vals 0 ((L,()):(Rw Tw)×Unit)) (QZ.blks 0 ((L,()):(Rw Tw)×Unit)) 8=QC.need (decide (L.n<=L.n)) (QC.both (QC.asm (L.n=(0:Nat)) (QC.leaf (AV.nils) ([]))) (QC.need (true&&(decide (L.n<=L.n)&&decide (((0:Nat)+L.n+((0:Nat)+L.n) / (4:Nat)+(192:Nat))*(16:Nat)<=(281474976710656:Nat)/\(0:Nat)+L.n<=(9223372036854775807:Nat)))) (QC.leaf (AV.slz (48:Nat) (0:Nat) ((0:Nat)+L.n) cO) ([((48:Nat),Blk.rowz true (89:Nat) [CK.int i64,CK.int i64] ((0:Nat)+L.n) (KQ (0:Nat) (λx x_1=>(0:Int)) λi=>QA.enc (L.get i)))])))):=by kernel_rfl
theorem Qgd:JL (mkN prog QV) (Qn f106) 8 QCN (λx_=>(hnd (mkN prog QV) 1)):=by
 refine⟨?_⟩;rintro⟨L,⟨⟩⟩ hp G h1 h2;exact Qz (QVa Qm) 1 G _ h1
theorem QaB:JH (mkN prog QV) f106 8 QCN (λx_=>(hnd (mkN prog QV) 1)):=by
 refine⟨?_⟩;rintro⟨L,⟨⟩⟩ hp;refine⟨⟨rfl,by simp[QCN,rwP,Blk.own,Blk.all],rfl⟩,⟨?_⟩⟩
 rw[Qks L];simp only[QCN]at hp;have hn:L.n<=1000000:=qdt hp;have hj:QB 2 L.n (KQ 0 (λ_ _=>0) λi=>QA.enc (L.get i)) λi=>QA.enc (L.get i):=QMQ _ _ _ _;refine QG ?_ ?_;rotate_left;refine Kq ?_ ?_;refine Qk λa0=>?_
 .refine⟨rfl,rfl,_,QWj L.n λi=>QA.enc (L.get i),?_⟩;rw[a0]
  repeat' first|with_reducible refine QM ?_ ?_|exact tv|with_reducible exact qRr|exact rfl|refine aI ?_ ?_
 refine QG ?_ ?_;rotate_left
 .refine⟨rfl,rfl,_,Qjw (0+L.n) L.n (KQ 0 (λ_ _=>0) λi=>QA.enc (L.get i)) λi=>QA.enc (L.get i),?_⟩;rw[Nat.zero_add]
  repeat' first|with_reducible refine QM ?_ ?_|exact tv|with_reducible exact qRr|with_reducible exact hj|exact rfl|refine aI ?_ ?_
 all_goals first|(simp;done)|(simp;omega)
theorem Qbb:QS prog 106 QSk:=
 JY (QVa Qm) func106 (by kernel_rfl) (by kernel_rfl) (by decide) Qgd QaB
