/- - -/
import Derived.Test.YtekbmehgcofnkaaGreatMzh
open Go.Proofs.Tryz
open Go.IntKind (i64)
set_option maxRecDepth 100000
namespace Go.Proofs.YtekbmehgcofnkaaGreat
open Go.SX Go.SX.Told
variable (L:List Jn)(d:Puz)(x:Jn)
def Xp(E:ECt)(w0:List Jn)(ac body:Code)(rec:List Lay->LJ->Qd LJ)(l:List Lay)(k:Nat×LJ)(e:Ex)(J:JSt):Prop:=match Q5 (K3 d E rec l) ((List.range d.ps.n).drop k.1) k.2 with
 | .go s'=>e = .exit 0/\J=G3 d E w0 ac body (QD l) l s'.1
 | .stop s'=>e = .ret/\J=faF d E w0 ac body (QD l) l s'.1
set_option maxHeartbeats 1000000 in
theorem Qdu(E:ECt)(w0:List Jn)(ac body:Code)(rec:List Lay->LJ->Qd LJ)(l:List Lay)(hn:d.ps.n<=1000):JW (λk:Nat×LJ=>HD d E w0 ac body (QD l) l k.2.1 k.1) (λk=>k.1<=d.ps.n) (λk=>d.ps.n-k.1) (Xp d E w0 ac body rec l) 520 QPt WO (λk=>mkE prog (Wl QQ d l.length k.1)) (λk=>QER prog QQ d E w0 ac body (QD l) l k.2.1 k.1 (QBh d E w0 ac body rec l k.1 k.2)) (QH f103 0):=by
 refine⟨λk g0 hk=>?_⟩;obtain⟨p,f,hq0⟩:=k;have hk:p<=d.ps.n:=hk;have wp:p<d.ps.n->i64.wrap ((p:Int)+1)=((p+1:Nat):Int):=λh=>Ja h hn;have step:=λh:p<d.ps.n=>qL (f:=K3 d E rec l) h ⟨f,hq0⟩
 have next:p<d.ps.n->∀{s2:LJ},K3 d E rec l ⟨f,hq0⟩ p = .go s2->∀ e J,Xp d E w0 ac body rec l (p+1,s2) e J->Xp d E w0 ac body rec l (p,⟨f,hq0⟩) e J:=by
  intro h s2 he e J hr;unfold Xp at hr ⊢;simp only at hr ⊢;rw[step h,he];exact hr
 have stop:p<d.ps.n->∀{s2:LJ},K3 d E rec l ⟨f,hq0⟩ p = .stop s2->Xp d E w0 ac body rec l (p,⟨f,hq0⟩) .ret (faF d E w0 ac body (QD l) l s2.1):=by
  intro h s2 he;unfold Xp;simp only[step h,he,and_self]
 have last:d.ps.n<=p->Xp d E w0 ac body rec l (p,⟨f,hq0⟩) (.exit 0) (G3 d E w0 ac body (QD l) l f):=by
  intro h;unfold Xp;simp only[Wp h,and_self]
 have hpz:Q6 l p=false->K3 d E rec l ⟨f,hq0⟩ p=inZ d E rec l p ⟨f,hq0⟩:=λh=>by unfold K3;rw[h];rfl
 have hpu:Q6 l p=true->K3 d E rec l ⟨f,hq0⟩ p = .go ⟨f,hq0⟩:=λh=>by unfold K3;rw[h];rfl
 unfold QBh;simp only;cases hr:inZ d E rec l p ⟨f,hq0⟩with
 | go s'=>
  obtain⟨f',hq1⟩:=s';simp only[Qd.isGo,Qd.s,Bool.true_eq_false,Bool.false_eq_true];have et:=QL6 QQ d E w0 ac body (QD l) (QD l) l f p True False f' g0;refine Qf et ?_;clear et;refine QE (λb0=>?_) (λb0=>?_);have h:p<d.ps.n:=by have:=qdt b0;omega
  have hw:=wp h
  iterate 2 (refine QG ?_ ?_;rotate_left)
  refine QE (λb1=>?_) (λb1=>?_);have hub:Q6 l p=true:=Vi.symm.trans b1;refine⟨(p+1,⟨f,hq0⟩),h,by show d.ps.n-(p+1)<d.ps.n-p;omega,next h (hpu hub),rfl,rfl,_,QKX d E w0 ac body (QD l) l f p (p+1),?_⟩
  rotate_left
  have hub:Q6 l p=false:=Vi.symm.trans b1;have hu0:QD l p 0=0:=by unfold QD;rw[hub];rfl
  refine QG ?_ ?_;rotate_left
  iterate 127 refine Qu (by first|exact tv|exact⟨h,hu0⟩|with_reducible exact qRr|exact rfl) ?_
  refine Kh ?_ ?_;refine Qg λa0=>?_;refine Qj λg0=>?_;refine⟨(p+1,⟨f',hq1⟩),h,by show d.ps.n-(p+1)<d.ps.n-p;omega,next h ((hpz hub).trans hr),rfl,rfl,_,Qhi d E w0 ac body (QD l) l p (p+1) f',?_⟩
  rotate_left
  refine Qg λa1=>?_;refine Qj λg1=>?_
  .exact a1.elim
  have h:d.ps.n<=p:=by have:=qdf b0;omega
  refine⟨_,last h,rfl,rfl,_,QLK d E w0 ac body (QD l) l f,?_⟩
  rotate_left
  all_goals first|((with_reducible show _=true);(first|(refine KI.2 ?_;repeat' first|exact tv|with_reducible exact qRr|exact rfl|refine aI ?_ ?_)|(simp;omega)))|(repeat' first|with_reducible refine QL ?_ ?_|exact tv|with_reducible exact qRr|with_reducible exact hw|exact rfl|refine aI ?_ ?_)
 | stop s'=>
  obtain⟨f',hq1⟩:=s';simp only[Qd.isGo,Qd.s,Bool.true_eq_false,Bool.false_eq_true];have et:=QL6 QQ d E w0 ac body (QD l) (QD l) l f p False True f' g0;refine Qf et ?_;clear et;refine QE (λb0=>?_) (λb0=>?_);have h:p<d.ps.n:=by have:=qdt b0;omega
  have hw:=wp h
  iterate 2 (refine QG ?_ ?_;rotate_left)
  refine QE (λb1=>?_) (λb1=>?_);have hub:Q6 l p=true:=Vi.symm.trans b1;refine⟨(p+1,⟨f,hq0⟩),h,by show d.ps.n-(p+1)<d.ps.n-p;omega,next h (hpu hub),rfl,rfl,_,QKX d E w0 ac body (QD l) l f p (p+1),?_⟩
  rotate_left
  have hub:Q6 l p=false:=Vi.symm.trans b1;have hu0:QD l p 0=0:=by unfold QD;rw[hub];rfl
  refine QG ?_ ?_;rotate_left
  iterate 127 refine Qu (by first|exact tv|exact⟨h,hu0⟩|with_reducible exact qRr|exact rfl) ?_
  refine Kh ?_ ?_;refine Qg λa0=>?_;refine Qj λg0=>?_
  .exact a0.elim
  refine Qg λa1=>?_;refine Qj λg1=>?_;refine⟨_,stop h ((hpz hub).trans hr),rfl,rfl,_,QjL d E w0 ac body (QD l) l f',?_⟩
  rotate_left
  have h:d.ps.n<=p:=by have:=qdf b0;omega
  refine⟨_,last h,rfl,rfl,_,QLK d E w0 ac body (QD l) l f,?_⟩
  rotate_left
  all_goals first|((with_reducible show _=true);(first|(refine KI.2 ?_;repeat' first|exact tv|with_reducible exact qRr|exact rfl|refine aI ?_ ?_)|(simp;omega)))|(repeat' first|with_reducible refine QL ?_ ?_|exact tv|with_reducible exact qRr|with_reducible exact hw|exact rfl|refine aI ?_ ?_)
noncomputable abbrev VZ:Code:=(QN f43 0).1
noncomputable abbrev VQ:Code:=(QN f43 0).2
theorem QRc(E:ECt)(w0:List Jn)(ac body:Code)(u:Nat->Nat->Int)(l:List Lay)(f:List Jn)(f':List Jn):(faU d E w0 ac body u l f f').Ok:=by
 refine⟨(by decide:488<=520),rfl,rfl,?_,rfl,λ_ _=>rfl,λnid h=>?_⟩
 .intro q hq;simp only[UC.po,faU,faW,rwY,rwU,rwJ,List.mem_cons,List.not_mem_nil,or_false]at hq;rcases hq with rfl|rfl|rfl|rfl|rfl|rfl|rfl|rfl|rfl|rfl|rfl<;>refine⟨rfl,rfl,rfl,?_⟩<;>first|exact λ_=>rfl|exact λh=>absurd (show 520<488 from h) (by decide)|exact λh=>absurd (show 521<488 from h) (by decide)|exact λh=>absurd (show 522<488 from h) (by decide)|exact λh=>absurd (show 523<488 from h) (by decide)
 .have e0:=Kp 488 520 0 nid (by decide)
  have e1:=Kp 488 520 1 nid (by decide)
  have e2:=Kp 488 520 2 nid (by decide)
  simp only[UC.po,faU,faW,rwY,rwU,rwJ,GU,faT,KS,Qi.val,List.cons_append,List.nil_append,List.map_cons,List.map_nil,Blk.mapId,AV.mapId,AV.mapIdL,Nat.add_zero]at e0 e1 e2 ⊢;rw[e0,e1,e2];rfl
theorem QK4(E:ECt)(w0:List Jn)(ac body:Code)(u:Nat->Nat->Int)(l:List Lay)(f:List Jn)(f':List Jn):(faV d E w0 ac body u l f f').Ok:=by
 refine⟨(by decide:488<=520),rfl,rfl,?_,rfl,λ_ _=>rfl,λnid h=>?_⟩
 .intro q hq;simp only[UC.po,faV,faW,rwY,rwU,rwJ,List.mem_cons,List.not_mem_nil,or_false]at hq;rcases hq with rfl|rfl|rfl|rfl|rfl|rfl|rfl|rfl|rfl|rfl|rfl<;>refine⟨rfl,rfl,rfl,?_⟩<;>first|exact λ_=>rfl|exact λh=>absurd (show 520<488 from h) (by decide)|exact λh=>absurd (show 521<488 from h) (by decide)|exact λh=>absurd (show 522<488 from h) (by decide)|exact λh=>absurd (show 523<488 from h) (by decide)
 .have e0:=Kp 488 520 0 nid (by decide)
  have e1:=Kp 488 520 1 nid (by decide)
  have e2:=Kp 488 520 2 nid (by decide)
  simp only[UC.po,faV,faW,rwY,rwU,rwJ,GU,faT,KS,Qi.val,List.cons_append,List.nil_append,List.map_cons,List.map_nil,Blk.mapId,AV.mapId,AV.mapIdL,Nat.add_zero]at e0 e1 e2 ⊢;rw[e0,e1,e2];rfl
theorem QCc{k n:Nat}(h:k<n)(hn:n<=1000000000):i64.wrap ((k:Int)+1)=((k+1:Nat):Int):=(w64 (by omega) (by omega)).trans (by omega)
def jiR(k:Nat)(e:Ex)(J:JSt):Prop:=(e = .ret/\(QP (λi=>eqJ x (atJ L i)) (L.length-k) k).isSome=true/\J=Yf (Ku (QP (λi=>eqJ x (atJ L i)) (L.length-k) k)))∨(e = .exit 0/\QP (λi=>eqJ x (atJ L i)) (L.length-k) k=none/\J=W0)
theorem Qhf(hn:L.length<=1000000000):JP (jiJ L x) (λk=>k<=L.length) (λk=>L.length-k) (jiR L x) 24 QFJ [] (mkE prog QT) (λ_=>hnd (mkE prog QT) 2) (QH f135 0):=by
 refine⟨λk g0 hk=>Qf (QdI L x k g0) ?_⟩;have hk:k<=L.length:=hk;have hit:∀(h:k<L.length),eqJ x (atJ L k)=true->jiR L x k .ret (Yf k):=λh hs=>.inl ⟨rfl,by rw[(JK h).1 hs];rfl,by rw[(JK h).1 hs];rfl⟩
 refine QE (λb0=>?_) (λb0=>?_);have h:k<L.length:=by have:=qdt b0;omega
 have hf:=JK (p:=(λi=>eqJ x (atJ L i))) h
 iterate 2 (refine QG ?_ ?_;rotate_left)
 refine QE ?_ ?_<;>intro b1
 .refine⟨_,hit h b1,rfl,rfl,_,QYQ k k,⟨rfl,trivial⟩⟩
 have hb:eqJ x (atJ L k)=false:=b1;refine⟨k+1,h,by show L.length-(k+1)<L.length-k;omega,λe J h=>by unfold jiR at h ⊢;rw[hf.2 hb];exact h,rfl,rfl,_,Qje L x k (k+1),?_⟩
 rotate_left
 .have h:L.length<=k:=by have:=qdf b0;omega
  exact⟨_,.inr ⟨rfl,by rw[show L.length-k=0 by omega];rfl,rfl⟩,rfl,rfl,_,Qg3,trivial⟩
 all_goals first|((with_reducible show _=true);(first|rfl|(simp;omega)))|(repeat' first|with_reducible refine QL ?_ ?_|exact tv|exact qRr|exact QCc h hn|refine aI ?_ ?_)
def jiX:List (Prop×Ex×JSt):=[((JD L x).isSome=true,.ret,Yf (Ku (JD L x))),(JD L x=none,.exit 0,W0)]
theorem Qc7(hn:L.length<=1000000000)(G:Ctx)(hrd:G.rd=none)(hG:G.n=24):Qw (mkE prog QT) G (jiH prog L x (jiX L x)) (Qk f135):=by
 refine KN (body:=QH f135 0) (QO Qh) hrd (by kernel_rfl) ?_
 refine Jq (n0:=24) (QO Qh) (by omega) (λs hs=>Qv (QO Qh) 2 G _ hrd) (λs hs=>(by decide:24<=24)) ?_ (Qhf L x hn) (s0:=0) (Nat.zero_le _) ?_
 .rintro s e J (⟨_,_,rfl⟩|⟨_,_,rfl⟩)<;>exact(by decide:24<=24)
 .rintro e J (⟨rfl,h,rfl⟩|⟨rfl,h,rfl⟩)
  .exact⟨_,qmc,h,rfl,rfl⟩
  .exact⟨_,List.mem_cons_of_mem _ qmc,h,rfl,rfl⟩
theorem QWO(v:Int):(jiU L x v).Ok:=⟨(by decide:0<=24),rfl,rfl,λq hq=>(by cases hq),rfl,λ_ _=>rfl,λ_ _=>rfl⟩
theorem QXr(hn:L.length<=1000000000):QR prog 135 (uFC (jiU L x (Ku (JD L x)))):=by
 refine K7 (E:=mkE prog QT) (QO Qh) func135 (by kernel_rfl) (by kernel_rfl) (QWO ..) (λG h1 h2=>Qc7 L x hn G h1 (by rw[h2];rfl)) ⟨?_⟩
 have et:=Qb4 L x ((JD L x).isSome=true) (JD L x=none) (Ku (JD L x)) (Ku (JD L x));refine Qf et ?_;clear et
 iterate 14 refine Qu (by first|exact tv|with_reducible exact qRr|exact rfl) ?_
 refine Kh ?_ ?_;refine Qg λa0=>?_;refine Qj λg0=>?_;refine⟨rfl,rfl,_,Qbk L x (Ku (JD L x)) (Ku (JD L x)),?_⟩
 rotate_left
 refine Qg λa1=>?_;refine Qj λg1=>?_
 .refine⟨rfl,rfl,_,QeV L x (Ku (JD L x)),?_⟩;rw[a1]
  repeat' first|exact tv|exact rfl|refine aI ?_ ?_
 all_goals (repeat' first|exact tv|exact rfl|refine aI ?_ ?_)
theorem Qck(o:List Jn)(i:Nat)(y:Jn)(n:Nat)(hi:i<o.length):QB 4 n (λk=>bif decide (k=i)then Ki [.int false .i64 y.a,.int false .i64 y.i,.int false .i64 y.b,.int false .i64 y.j] 0 (QA.enc (o.getD i (⟨0,0,0,0⟩:Jn)))else QA.enc (o.getD k (⟨0,0,0,0⟩:Jn))) λk=>QA.enc ((o.set i y).getD k (⟨0,0,0,0⟩:Jn)):=by
 intro k _
 by_cases h:k=i
 .subst h;have e:(o.set k y).getD k ⟨0,0,0,0⟩=y:=by rw[List.getD_eq_getElem?_getD,List.getElem?_set_self hi];rfl
  show eqF 4 0 _ (QA.enc ((o.set k y).getD k (⟨0,0,0,0⟩:Jn)));rw[e];simp only[decide_true,cond_true];exact⟨rfl,rfl,rfl,rfl,trivial⟩
 .have e:(o.set i y).getD k ⟨0,0,0,0⟩=o.getD k ⟨0,0,0,0⟩:=by rw[List.getD_eq_getElem?_getD,List.getD_eq_getElem?_getD,List.getElem?_set_ne (λe=>h e.symm)]
  show eqF 4 0 _ (QA.enc ((o.set i y).getD k (⟨0,0,0,0⟩:Jn)));rw[e];simp only[h,decide_false,cond_false];exact⟨rfl,rfl,rfl,rfl,trivial⟩
def QDJ(n:Nat)(k:List Jn×Nat×Nat)(e:Ex)(J:JSt):Prop:=e = .exit 0/\J=dlE (Jm x (n-k.2.2) k.1 k.2.1 k.2.2).1 (Jm x (n-k.2.2) k.1 k.2.1 k.2.2).2
theorem QXg(n:Nat)(hn:n<=1000000000):JW (λk:List Jn×Nat×Nat=>dlJ x k.1 k.2.1 k.2.2) (λk=>k.1.length=n/\k.2.1<k.2.2/\k.2.2<=n) (λk=>n-k.2.2) (QDJ x n) 24 QTb [] (λ_=>mkE prog QT) (λ_=>hnd (mkE prog QT) 2) (QH f92 0):=by
 refine⟨λk g0 hk=>?_⟩;obtain⟨o,i,j⟩:=k;obtain⟨hlen,hij,hj⟩:=hk;simp only at hlen hij hj;have et:=QcK x o i j g0;refine Qf et ?_;clear et;refine QE (λb0=>?_) (λb0=>?_);have h:j<n:=by have:=qdt b0;omega
 have hw:=QCc h hn;have hwi:=QCc (show i<n by omega) hn
 have hm:n-j=(n-(j+1))+1:=by omega
 iterate 2 (refine QG ?_ ?_;rotate_left)
 refine QE ?_ ?_<;>intro b1
 iterate 2 (refine QG ?_ ?_;rotate_left)
 .have hb0:(!eqJ x (atJ o j))=true:=b1;have hb:eqJ x (atJ o j)=false:=by simpa using hb0
  refine⟨(o.set i (atJ o j),i+1,j+1),⟨by rw[List.length_set];exact hlen,Nat.succ_lt_succ hij,h⟩,by show n-(j+1)<n-j;omega,λe J hr=>?_,rfl,rfl,_,QhZ x o (o.set i (atJ o j)) i j (i+1) (j+1),?_⟩
  .unfold QDJ at hr ⊢;simp only at hr ⊢;rw[hm,Jm,hb];exact hr
  .have hl:o.length=(o.set i (atJ o j)).length:=by rw[List.length_set]
   have hs:=Qck o i (atJ o j) (o.set i (atJ o j)).length (by omega)
   repeat' first|with_reducible refine QL ?_ ?_|exact tv|with_reducible exact qRr|exact hw|exact hwi|exact hl|exact Nat.le_of_eq hl.symm|exact hs|exact rfl|refine aI ?_ ?_
 .have hb0:(!eqJ x (atJ o j))=false:=b1;have hb:eqJ x (atJ o j)=true:=by simpa using hb0
  refine⟨(o,i,j+1),⟨hlen,Nat.lt_succ_of_lt hij,h⟩,by show n-(j+1)<n-j;omega,λe J hr=>?_,rfl,rfl,_,QeG x o i j (j+1),?_⟩
  .unfold QDJ at hr ⊢;simp only at hr ⊢;rw[hm,Jm,hb];exact hr
  .repeat' first|with_reducible refine QL ?_ ?_|exact tv|with_reducible exact qRr|exact hw|exact rfl|refine aI ?_ ?_
 have h:n<=j:=by have:=qdf b0;omega
 refine⟨_,(by unfold QDJ;simp only[show n-j=0 by omega,Jm,and_self]),rfl,rfl,_,QaP o i,?_⟩
 rotate_left
 all_goals first|((with_reducible show _=true);(first|rfl|(simp;omega)))|(repeat' first|with_reducible refine QL ?_ ?_|exact tv|with_reducible exact qRr|exact rfl|refine aI ?_ ?_)
theorem QZP(pb:List Prop->Bool)(L:List Jn)(x:Jn)(v:Int)(hT:Qc (jN pb L x v))(i0:Nat)(hL:L.length<=1000000000)(G:Ctx)(hrd:G.rd=none)(hG:G.n=24):Qw (mkE prog (jN pb L x v)) G (dlH prog pb L x v i0 [(True,.exit 0,dlE (Jm x (L.length-(i0+1)) L i0 (i0+1)).1 (Jm x (L.length-(i0+1)) L i0 (i0+1)).2)]) (Qk f92):=by
 refine KN (body:=QH f92 0) (QO hT) hrd (by kernel_rfl) ?_
 refine Jh λhi=>?_;refine Jo (E0:=mkE prog (jN pb L x v)) (E:=λ_:List Jn×Nat×Nat=>mkE prog QT) (H:=λ_=>hnd (mkE prog QT) 2) (n0:=24) (s0:=(L,i0,i0+1)) (λ_=>rfl) (λ_=>QO Qh) (by omega) (λk _=>Qv (QO Qh) 2 G _ hrd) (λk _=>(by decide:24<=40)) ?_ (QXg x L.length hL) ⟨rfl,Nat.lt_succ_self _,hi⟩ ?_
 .rintro k e J ⟨_,rfl⟩;exact(by decide:24<=40)
 .rintro e J ⟨rfl,rfl⟩;exact⟨_,qmc,trivial,rfl,rfl⟩
theorem Qjb(w:List Jn):(WA L x w).Ok:=by
 refine⟨(by decide:0<=24),rfl,rfl,?_,rfl,λnid h=>?_,λnid h=>?_⟩
 .intro q hq;simp only[UC.po,WA,rwJ,List.mem_cons,List.not_mem_nil,or_false]at hq;subst hq;exact⟨rfl,rfl,rfl,λh=>absurd (show 24<0 from h) (by decide)⟩
 .have e0:=Kp 0 24 0 nid (by decide)
  simp only[UC.va,WA,AV.mapId,Nat.add_zero]at e0 ⊢;rw[e0]
 .have e0:=Kp 0 24 0 nid (by decide)
  simp only[UC.po,WA,rwJ,List.map_cons,List.map_nil,Blk.mapId,Nat.add_zero]at e0 ⊢;rw[e0]
theorem Qgz(o w:List Jn)(i m:Nat)(hw:o.take i=w)(hi:i<=o.length):QB 4 w.length (λk=>bif decide (0+i<=k/\k<0+i+m)then λ_=>0 else QA.enc (o.getD k (⟨0,0,0,0⟩:Jn))) λk=>QA.enc (w.getD k (⟨0,0,0,0⟩:Jn)):=by
 intro k hk;have hl:w.length=i:=by rw[<-hw,List.length_take];omega
 have e:w.getD k ⟨0,0,0,0⟩=o.getD k ⟨0,0,0,0⟩:=by
  rw[<-hw,List.getD_eq_getElem?_getD,List.getD_eq_getElem?_getD,List.getElem?_take,if_pos (by omega)]
 show eqF 4 0 _ (QA.enc (w.getD k (⟨0,0,0,0⟩:Jn)));rw[e];simp only[show decide (0+i<=k/\k<0+i+m)=false from decide_eq_false (by omega),cond_false]
 exact⟨rfl,rfl,rfl,rfl,trivial⟩
theorem QeS(hL:L.length<=1000000000):QR prog 92 (uFC (WA L x (J7 x L))):=by
 have hT:Qc (jN QQ L x (Ku (JD L x))):=Qh.add (QXr L x hL);refine K7 (c:=Qk f92) (E:=mkE prog (jN QQ L x (Ku (JD L x)))) (QO hT) func92 (by kernel_rfl) (by kernel_rfl) (Qjb ..) (λG h1 h2=>QZP QQ L x _ hT ((JD L x).getD 0) hL G h1 (by rw[h2];rfl)) ⟨?_⟩
 have et:=QYc QQ L x (Ku (JD L x)) ((JD L x).getD 0) (Jm x (L.length-((JD L x).getD 0+1)) L ((JD L x).getD 0) ((JD L x).getD 0+1)).1 (Jm x (L.length-((JD L x).getD 0+1)) L ((JD L x).getD 0) ((JD L x).getD 0+1)).2 (J7 x L);obtain⟨q,hf⟩:∃ q,JD L x=q:=⟨_,rfl⟩;cases q with
 | none=>
  have hv:Ku (JD L x) = -1:=by rw[hf];rfl
  rw[QYf hf]at et ⊢;refine Qf et ?_;clear et;refine QG ?_ ?_;rotate_left;refine QE (λb0=>?_) (λb0=>?_);refine⟨rfl,rfl,_,Qfm L x L,?_⟩
  rotate_left
  .rw[hv]at b0;cases b0
  all_goals first|((with_reducible show _=true);(first|(refine KI.2 ?_;repeat' first|with_reducible refine QL ?_ ?_|exact tv|with_reducible exact qRr|exact rfl|refine aI ?_ ?_)|(simp;omega)))|(repeat' first|with_reducible refine QL ?_ ?_|exact tv|with_reducible exact qRr|exact rfl|refine aI ?_ ?_)
 | some i=>
  obtain⟨h1,h2,h3,h4⟩:=Qdz hf;have hv:Ku (JD L x)=i:=by rw[hf];rfl
  have hg:(JD L x).getD 0=i:=by rw[hf];rfl
  rw[hg]at et ⊢;generalize Jm x (L.length-(i+1)) L i (i+1)=D at et h2 h3 h4 ⊢;generalize J7 x L=w at et h4 ⊢;have hw:=QCc h1 hL;have hlw:w.length=D.2:=by rw[<-h4,List.length_take];omega
  refine Qf et ?_;clear et;refine QG ?_ ?_;rotate_left;refine QE ?_ ?_<;>intro b0
  .rw[hv]at b0;simp at b0
  iterate 15 refine Qu (by first|with_reducible rfl|exact h1|exact hv|(rw[hv];exact hw)|exact qlr _|with_reducible exact qRr|exact trivial|exact rfl) ?_
  refine Qg λa0=>?_;refine Qj λg0=>?_
  iterate 3 (refine QG ?_ ?_;rotate_left)
  .refine⟨rfl,rfl,_,QWF L x D.1 D.2 w,?_⟩;have hs:=Qgz D.1 w D.2 (D.1.length-D.2) h4 (by omega)
   have hle:w.length<=D.1.length:=by omega
   repeat' first|with_reducible refine QL ?_ ?_|exact tv|with_reducible exact qRr|exact hlw.symm|exact hlw|exact hle|exact hs|exact rfl|refine aI ?_ ?_
  all_goals first|(refine KI.2 ?_;repeat' first|with_reducible refine QL ?_ ?_|exact tv|with_reducible exact qRr|exact rfl|refine aI ?_ ?_)|(simp;omega)
end Go.Proofs.YtekbmehgcofnkaaGreat
namespace Go.SX
open Go Go.RowKit Go.Proofs.YtekbmehgcofnkaaGreat
def Qew(all:List Nat)(blks:List Blk)(args:List AV):Option Jn:=match args with
 | [_,.fn _ [.ptr b _ _]]=>(match look (Vy id all blks) b with
  | some (.cells _ _ [.int _ _ a,.int _ _ i,.int _ _ c,.int _ _ j])=>some ⟨a,i,c,j⟩
  | _=>none)
 | _=>none
def QIg(F:Jn->FC):FC:=λargs nid all=>(all,λblks=>match Qew all blks args with
 | some x=>(F x args nid all).2 blks
 | none=>none)
theorem QY7{P:Program}{f:FuncId}{U:Jn->UC}(h:∀ x,QR P f (uFC (U x))):QR P f (QIg λx=>KM QQ (U x)):=by
 refine⟨(h ⟨0,0,0,0⟩).1,λargs nid all r w lk blks eff hH ha hv he hp=>?_⟩;simp only[QIg]at hv he;split at he<;>(try (cases he;done))
 rename_i x hx;exact(h x).2 args nid all r w lk blks eff hH ha hv he hp
end Go.SX
namespace Go.Proofs.YtekbmehgcofnkaaGreat
open Go.SX Go.SX.Told
def Qp(fn:Func):Code×Code:=match K5 (QN fn 0).2 with
 | .rangeFunc _ _ ac body::_=>(ac,body)
 | _=>(.skip,.skip)
variable (d:Puz)(M:ECt)(w0:List Jn)(l:List Lay)(ac body:Code)(S S':List Nat)(c:Nat)(f:List Jn)(R:Jn->List Jn)(g0:Nat->Value)
def mtT:List AV:=[.agg (KS d),.ptr 112 0 0,.nils,.int true .i64 0,.ptr 200 0 0,.int true .i64 0,.ptr 296 0 0,.ptr 328 0 0,.slz 496 0 l.length (.of 0),.tup [],.tup [.ptr 200 0 0,.int true .i64 0],.agg (KS d),.tup [.ptr 200 0 0,.int true .i64 0],.ptr 200 0 0,.int true .i64 0,.int true .i64 0,.bool true false,.tup [],.ptr 200 0 0,.slz 288 0 w0.length (.of 0),.ptr 200 0 0,.mth (.func 91) [.ptr 200 0 0],.ptr 200 0 0,.fn (.func 102) [.ptr 352 0 0,.ptr 360 0 0],.slz 496 0 l.length (.of 0),.mth (.func 91) [.ptr 200 0 0],.slz 496 0 l.length (.of 0),.fn (.func 133) [.ptr 696 0 0,.ptr 688 0 0],.tup [],.tup [],.tup [],.tup [],.tup [],.tup [],.tup [],.tup []]
def mtW(a:Nat)(f:List Jn):List (Nat×Blk):=[(729,.lp .ready none (mtT d w0 l) #[28] ac body),(296,.cells 0 64 [.slz a 0 f.length (.of 0)]),rwJ true a f]
def mtR:List (Nat×Blk):=[(696,.cellsR 0 42 [.slz 496 0 l.length (.of 0)]),(688,.cellsR 0 90 [.ptr 200 0 0]),QAa 496 l,(200,.cellsR 0 152 (KS d++[.map 201,.slz 496 0 l.length (.of 0)]))]++Qi.blk 0 d.ps
def mlS:List (Nat×AV):=[(0,.yld 729),(1,.ptr 696 0 0),(2,.ptr 688 0 0),(9,.slz 496 0 l.length (.of 0)),(10,.int false .i64 l.length),(11,.int false .i64 c)]
def mlJ(M:ECt)(S:List Nat)(c:Nat)(f:List Jn):JSt:=⟨83,mlS l c++[(4,.int false .i64 c),(25,.ptr 816 808 0)],[(816,.itm [.map 808] 187 M.2 S M.2),(808,.mp M.1 M.2)]++mtW d w0 l ac body 776 f++mtR d l,832⟩
def mlE:JSt:=⟨83,mlS l c,mtW d w0 l ac body 776 f++mtR d l,784⟩
def QQo:Ex->List Nat
 | .normal=>[0,1,2,9,10,11,4,25]
 | .exit _=>[0,1,2,9,10,11]
 | .ret=>[]
def QGF(pb:List Prop->Bool)(f:List Jn)(R:Jn->List Jn):Tab:=Qa QT 92 (QIg λx=>KM pb (WA f x (R x)))
noncomputable abbrev Vf(w0:List Jn):Nat×Blk:=
  (729,.lp LoopState.ready none (mtT d w0 l) (Array.mk [28]) (Qp f43).1 (Qp f43).2)
noncomputable abbrev qA:Nat×Blk:=
  (296,.cells 0 64 [.slz 776 0 f.length cO])
noncomputable abbrev Vv:Nat×Blk:=
  (200,.cellsR 0 152 (List.append (waf d) ([.map 201,.slz 496 0 l.length cO])))
noncomputable abbrev Vo:Nat×Blk:=
  (696,.cellsR 0 42 [.slz 496 0 l.length cO])
noncomputable abbrev Ve:Nat×Blk:=
  (688,.cellsR 0 90 [.ptr 200 0 0])
noncomputable abbrev Vp:Nat×Blk:=
  (496,.frz kB l.length λi=>QA.enc (l.getD i (Lay.mk (0:Int) (0:Int))))
noncomputable abbrev Vh:Nat×Blk:=
  (0,.frz (wae) d.ps.n λi=>QA.enc (d.ps.get i))
abbrev Z2:List CK:=
  (waH)
noncomputable abbrev qY:Nat×Blk:=
  (776,.rowz true 67 Z2 f.length λi=>QA.enc (f.getD i (Jn.mk (0:Int) (0:Int) (0:Int) (0:Int))))
abbrev wa6(l:List Lay):List AV:=[.ptr 696 0 0,.ptr 688 0 0,.slz 496 0 l.length cO,vi (l.length:Int)]
noncomputable abbrev jq(l:List Lay):List AV:=
  (.nilp::.ptr 83 0 0::.yld 729::List.append (wa6 l) ([vi (c:Int),vi (c:Int),.ptr 816 808 0]))
noncomputable abbrev wak(M:ECt)(S:List Nat)(g0:Nat->Value)(l:List Lay):List Prop:=[(l.getD (intV (QJ M.1 (S ++ [(M.1.getD (nxI g0) noE).3])).2).toNat (Lay.mk (0:Int) (0:Int))).piece=(l.getD (intV (QJ M.1 (S++[(M.1.getD (nxI g0) noE).3])).2).toNat (Lay.mk (0:Int) (0:Int))).piece,onS (l.getD (intV (QJ M.1 (S++[(M.1.getD (nxI g0) noE).3])).2).toNat (Lay.mk (0:Int) (0:Int))) ((i64.wrap (QS (QJ M.1 (S++[(M.1.getD (nxI g0) noE).3])) 0+2)).tmod (4:Int))=onS (l.getD (intV (QJ M.1 (S++[(M.1.getD (nxI g0) noE).3])).2).toNat (Lay.mk (0:Int) (0:Int))) ((i64.wrap (QS (QJ M.1 (S ++ [(M.1.getD (nxI g0) noE).3])) 0+2)).tmod (4:Int))]
noncomputable abbrev wb0(f:List Jn):List Prop:=[0=0,f.length=f.length,cO=cO,Fn.func 93=Fn.func 93,0=0,0=0]
theorem QZS(pb:List Prop->Bool)(d:Puz)(w0:List Jn)(l:List Lay)(M:ECt)(S:List Nat)(c:Nat)(f:List Jn)(R:Jn->List Jn)(g:Nat->Value):exec (mkE prog (QGF pb f R)) (hnd (mkE prog (QGF pb f R)) 3) (QU (QH f133 0)) (JSt.inst (mlJ d w0 l (Qp f43).1 (Qp f43).2 M S c f) g) (Q9 [729,296,200] QQo) = .ask (QBs M.1 M.2 M.2) (.both (.asm (Y7 M.1 S) (.leaf (.tup [.ptr 2 0 0,.ptr 83 0 0,.yld 729,.ptr 696 0 0,.ptr 688 0 0,.slz 496 0 l.length cO,vi (l.length:Int),vi (c:Int)]) ([(Vf d l w0),(qA f),(Vv d l),(Vo l),Ve,(Vp l),(Vh d),(qY f)]))) (.all (λ(g0:Nat->Value)=>.asm (Hf M.1 S (nxI g0)) (.need (decide (M.2=M.2)&&Xl M.1 (S++[(M.1.getD (nxI g0) noE).3])&&wf1 i64 i64 M.1) (.br (QS (QJ M.1 (S ++ [(M.1.getD (nxI g0) noE).3])) 0==1) (.need (!decide (d.wide=0)) (.br ((intV (QJ M.1 (S++[(M.1.getD (nxI g0) noE).3])).2).tmod d.wide==0) (.leaf (.tup (jq c l)) ([(Vf d l w0),(qA f),(Vv d l),(Vo l),Ve,(Vp l),(816,.itm [.map 808] 187 M.2 (S++[(M.fst.getD (nxI g0) noE).born]) M.2),(Vh d),(qY f),(808,.mp M.1 M.2)])) (.br (decide (intV (QJ M.1 (S++[(M.1.getD (nxI g0) noE).3])).2≥(l.length:Int))) (.leaf (.tup (jq c l)) ([(Vf d l w0),(qA f),(Vv d l),(Vo l),Ve, (Vp l),(816,.itm [.map 808] 187 M.2 (S++[(M.fst.getD (nxI g0) noE).born]) M.2),(Vh d),(qY f),(808,.mp M.1 M.2)])) (.need (decide ((0:Int)<=(c:Int)/\(c:Int)<(l.length:Int))&&decide (l.length<=l.length)) (.need (decide (c<l.length)) (.need (true&&(true&&true)&&decide (((0:Int)<=(l.getD c (Lay.mk (0:Int) (0:Int))).turn/\(l.getD c (Lay.mk (0:Int) (0:Int))).turn<=3)/\(0:Int)<=QS (QJ M.1 (S++[(M.1.getD (nxI g0) noE).3])) 0/\QS (QJ M.1 (S++[(M.1.getD (nxI g0) noE).3])) 0<=3)) (.need (decide ((0:Int)<=intV (QJ M.1 (S++[(M.1.getD (nxI g0) noE).3])).2/\intV (QJ M.1 (S++[(M.1.getD (nxI g0) noE).3])).2<(l.length:Int))&&decide (l.length<=l.length)) (.need (decide ((intV (QJ M.1 (S++[(M.1.getD (nxI g0) noE).3])).2).toNat<l.length)) (.need (true&&(true&&true)&&decide (((0:Int)<=(l.getD (intV (QJ M.1 (S++[(M.1.getD (nxI g0) noE).3])).2).toNat (Lay.mk (0:Int) (0:Int))).turn/\(l.getD (intV (QJ M.1 (S++[(M.1.getD (nxI g0) noE).3])).2).toNat (Lay.mk (0:Int) (0:Int))).turn<=3)/\(0:Int)<=(i64.wrap (QS (QJ M.1 (S++[(M.1.getD (nxI g0) noE).3])) 0+2)).tmod (4:Int)/\(i64.wrap (QS (QJ M.1 (S++[(M.1.getD (nxI g0) noE).3])) 0+2)).tmod (4:Int)<=3)) (.br (decide ((l.getD (intV (QJ M.1 (S++[(M.1.getD (nxI g0) noE).3])).2).toNat (Lay.mk (0:Int) (0:Int))).piece<(l.getD c (Lay.mk (0:Int) (0:Int))).piece)) (.need (pb ([0=0,f.length=f.length,cO=cO,Fn.func 93=Fn.func 93,0=0,0=0,f.length<=f.length,QB 4 f.length (λi=>QA.enc (f.getD i (Jn.mk (0:Int) (0:Int) (0:Int) (0:Int)))) λi=>QA.enc (f.getD i (Jn.mk (0:Int) (0:Int) (0:Int) (0:Int))),(l.getD (intV (QJ M.1 (S ++ [(M.1.getD (nxI g0) noE).3])).2).toNat (Lay.mk (0:Int) (0:Int))).piece=(l.getD (intV (QJ M.1 (S++[(M.1.getD (nxI g0) noE).3])).2).toNat (Lay.mk (0:Int) (0:Int))).piece,onS (l.getD (intV (QJ M.1 (S++[(M.1.getD (nxI g0) noE).3])).2).toNat (Lay.mk (0:Int) (0:Int))) ((i64.wrap (QS (QJ M.1 (S++[(M.1.getD (nxI g0) noE).3])) 0+2)).tmod (4:Int))=onS (l.getD (intV (QJ M.1 (S++[(M.1.getD (nxI g0) noE).3])).2).toNat (Lay.mk (0:Int) (0:Int))) ((i64.wrap (QS (QJ M.1 (S ++ [(M.1.getD (nxI g0) noE).3])) 0+2)).tmod (4:Int)),(l.getD c (Lay.mk (0:Int) (0:Int))).piece=(l.getD c (Lay.mk (0:Int) (0:Int))).piece,onS (l.getD c (Lay.mk (0:Int) (0:Int))) (QS (QJ M.1 (S++[(M.1.getD (nxI g0) noE).3])) 0)=onS (l.getD c (Lay.mk (0:Int) (0:Int))) (QS (QJ M.1 (S++[(M.1.getD (nxI g0) noE).3])) 0)])) (.leaf (.tup (jq c l)) ([(Vf d l w0),(296,.cells 0 64 [.slz 1360 0 (R (Jn.mk (Lay.mk ((λi=>QA.enc (l.getD i (Lay.mk (0:Int) (0:Int)))) ((intV (QJ M.fst (S ++ [(M.fst.getD (nxI g0) noE).born])).val).toNat+0) 0) ((λi=>QA.enc (l.getD i (Lay.mk (0:Int) (0:Int)))) ((intV (QJ M.fst (S++[(M.fst.getD (nxI g0) noE).born])).val).toNat+0) (0+1))).piece (onS (Lay.mk ((λi=>QA.enc (l.getD i (Lay.mk (0:Int) (0:Int)))) ((intV (QJ M.fst (S++[(M.fst.getD (nxI g0) noE).born])).val).toNat+0) 0) ((λi=>QA.enc (l.getD i (Lay.mk (0:Int) (0:Int)))) ((intV (QJ M.fst (S++[(M.fst.getD (nxI g0) noE).born])).val).toNat+0) (0+1))) ((i64.wrap (QS (QJ M.fst (S++[(M.fst.getD (nxI g0) noE).born])) 0+2)).tmod (4:Int))) (Lay.mk ((λi=>QA.enc (l.getD i (Lay.mk (0:Int) (0:Int)))) ((c:Int).toNat+0) 0) ((λi=>QA.enc (l.getD i (Lay.mk (0:Int) (0:Int)))) ((c:Int).toNat+0) (0+1))).piece (onS (Lay.mk ((λi=>QA.enc (l.getD i (Lay.mk (0:Int) (0:Int)))) ((c:Int).toNat+0) 0) ((λi=>QA.enc (l.getD i (Lay.mk (0:Int) (0:Int)))) ((c:Int).toNat+0) (0+1))) (QS (QJ M.fst (S++[(M.fst.getD (nxI g0) noE).born])) 0)))).length cO]),(Vv d l),(Vo l),Ve,(Vp l),(816,.itm [.map 808] 187 M.2 (S++[(M.fst.getD (nxI g0) noE).born]) M.2),(Vh d),(1360,.rowz true 67 Z2 (R (Jn.mk (Lay.mk ((λi=>QA.enc (l.getD i (Lay.mk (0:Int) (0:Int)))) ((intV (QJ M.fst (S++[(M.fst.getD (nxI g0) noE).born])).val).toNat+0) 0) ((λi=>QA.enc (l.getD i (Lay.mk (0:Int) (0:Int)))) ((intV (QJ M.fst (S++[(M.fst.getD (nxI g0) noE).born])).val).toNat+0) (0+1))).piece (onS (Lay.mk ((λi=>QA.enc (l.getD i (Lay.mk (0:Int) (0:Int)))) ((intV (QJ M.fst (S++[(M.fst.getD (nxI g0) noE).born])).val).toNat+0) 0) ((λi=>QA.enc (l.getD i (Lay.mk (0:Int) (0:Int)))) ((intV (QJ M.fst (S++[(M.fst.getD (nxI g0) noE).born])).val).toNat+0) (0+1))) ((i64.wrap (QS (QJ M.fst (S++[(M.fst.getD (nxI g0) noE).born])) 0+2)).tmod (4:Int))) (Lay.mk ((λi=>QA.enc (l.getD i (Lay.mk (0:Int) (0:Int)))) ((c:Int).toNat+0) 0) ((λi=>QA.enc (l.getD i (Lay.mk (0:Int) (0:Int)))) ((c:Int).toNat+0) (0+1))).piece (onS (Lay.mk ((λi=>QA.enc (l.getD i (Lay.mk (0:Int) (0:Int)))) ((c:Int).toNat+0) 0) ((λi=>QA.enc (l.getD i (Lay.mk (0:Int) (0:Int)))) ((c:Int).toNat+0) (0+1))) (QS (QJ M.fst (S++[(M.fst.getD (nxI g0) noE).born])) 0)))).length λi=>QA.enc ((R (Jn.mk (Lay.mk ((λi=>QA.enc (l.getD i (Lay.mk (0:Int) (0:Int)))) ((intV (QJ M.fst (S++[(M.fst.getD (nxI g0) noE).born])).val).toNat+0) 0) ((λi=>QA.enc (l.getD i (Lay.mk (0:Int) (0:Int)))) ((intV (QJ M.fst (S ++ [(M.fst.getD (nxI g0) noE).born])).val).toNat+0) (0+1))).piece (onS (Lay.mk ((λi=>QA.enc (l.getD i (Lay.mk (0:Int) (0:Int)))) ((intV (QJ M.fst (S++[(M.fst.getD (nxI g0) noE).born])).val).toNat+0) 0) ((λi=>QA.enc (l.getD i (Lay.mk (0:Int) (0:Int)))) ((intV (QJ M.fst (S++[(M.fst.getD (nxI g0) noE).born])).val).toNat+0) (0+1))) ((i64.wrap (QS (QJ M.fst (S++[(M.fst.getD (nxI g0) noE).born])) 0+2)).tmod (4:Int))) (Lay.mk ((λi=>QA.enc (l.getD i (Lay.mk (0:Int) (0:Int)))) ((c:Int).toNat+0) 0) ((λi=>QA.enc (l.getD i (Lay.mk (0:Int) (0:Int)))) ((c:Int).toNat+0) (0+1))).piece (onS (Lay.mk ((λi=>QA.enc (l.getD i (Lay.mk (0:Int) (0:Int)))) ((c:Int).toNat+0) 0) ((λi=>QA.enc (l.getD i (Lay.mk (0:Int) (0:Int)))) ((c:Int).toNat+0) (0+1))) (QS (QJ M.fst (S++[(M.fst.getD (nxI g0) noE).born])) 0)))).getD i (Jn.mk (0:Int) (0:Int) (0:Int) (0:Int)))),(808,.mp M.1 M.2)]))) (.need (pb ([0=0,f.length=f.length,cO=cO,Fn.func 93=Fn.func 93,0=0,0=0,f.length<=f.length,QB 4 f.length (λi=>QA.enc (f.getD i (Jn.mk (0:Int) (0:Int) (0:Int) (0:Int)))) λi=>QA.enc (f.getD i (Jn.mk (0:Int) (0:Int) (0:Int) (0:Int))),(l.getD c (Lay.mk (0:Int) (0:Int))).piece=(l.getD c (Lay.mk (0:Int) (0:Int))).piece,onS (l.getD c (Lay.mk (0:Int) (0:Int))) (QS (QJ M.1 (S++[(M.1.getD (nxI g0) noE).3])) 0)=onS (l.getD c (Lay.mk (0:Int) (0:Int))) (QS (QJ M.1 (S++[(M.1.getD (nxI g0) noE).3])) 0),(l.getD (intV (QJ M.1 (S++[(M.1.getD (nxI g0) noE).3])).2).toNat (Lay.mk (0:Int) (0:Int))).piece=(l.getD (intV (QJ M.1 (S++[(M.1.getD (nxI g0) noE).3])).2).toNat (Lay.mk (0:Int) (0:Int))).piece,onS (l.getD (intV (QJ M.1 (S++[(M.1.getD (nxI g0) noE).3])).2).toNat (Lay.mk (0:Int) (0:Int))) ((i64.wrap (QS (QJ M.1 (S++[(M.1.getD (nxI g0) noE).3])) 0+2)).tmod (4:Int))=onS (l.getD (intV (QJ M.1 (S++[(M.1.getD (nxI g0) noE).3])).2).toNat (Lay.mk (0:Int) (0:Int))) ((i64.wrap (QS (QJ M.1 (S ++ [(M.1.getD (nxI g0) noE).3])) 0+2)).tmod (4:Int))])) (.leaf (.tup (jq c l)) ([(Vf d l w0),(296,.cells 0 64 [.slz 1328 0 (R (Jn.mk (Lay.mk ((λi=>QA.enc (l.getD i (Lay.mk (0:Int) (0:Int)))) ((c:Int).toNat+0) 0) ((λi=>QA.enc (l.getD i (Lay.mk (0:Int) (0:Int)))) ((c:Int).toNat+0) (0+1))).piece (onS (Lay.mk ((λi=>QA.enc (l.getD i (Lay.mk (0:Int) (0:Int)))) ((c:Int).toNat+0) 0) ((λi=>QA.enc (l.getD i (Lay.mk (0:Int) (0:Int)))) ((c:Int).toNat+0) (0+1))) (QS (QJ M.fst (S++[(M.fst.getD (nxI g0) noE).born])) 0)) (Lay.mk ((λi=>QA.enc (l.getD i (Lay.mk (0:Int) (0:Int)))) ((intV (QJ M.fst (S++[(M.fst.getD (nxI g0) noE).born])).val).toNat+0) 0) ((λi=>QA.enc (l.getD i (Lay.mk (0:Int) (0:Int)))) ((intV (QJ M.fst (S++[(M.fst.getD (nxI g0) noE).born])).val).toNat+0) (0+1))).piece (onS (Lay.mk ((λi=>QA.enc (l.getD i (Lay.mk (0:Int) (0:Int)))) ((intV (QJ M.fst (S++[(M.fst.getD (nxI g0) noE).born])).val).toNat+0) 0) ((λi=>QA.enc (l.getD i (Lay.mk (0:Int) (0:Int)))) ((intV (QJ M.fst (S++[(M.fst.getD (nxI g0) noE).born])).val).toNat+0) (0+1))) ((i64.wrap (QS (QJ M.fst (S ++ [(M.fst.getD (nxI g0) noE).born])) 0+2)).tmod (4:Int))))).length cO]),(Vv d l),(Vo l),Ve,(Vp l),(816,.itm [.map 808] 187 M.2 (S++[(M.fst.getD (nxI g0) noE).born]) M.2),(Vh d),(1328,.rowz true 67 Z2 (R (Jn.mk (Lay.mk ((λi=>QA.enc (l.getD i (Lay.mk (0:Int) (0:Int)))) ((c:Int).toNat+0) 0) ((λi=>QA.enc (l.getD i (Lay.mk (0:Int) (0:Int)))) ((c:Int).toNat+0) (0+1))).piece (onS (Lay.mk ((λi=>QA.enc (l.getD i (Lay.mk (0:Int) (0:Int)))) ((c:Int).toNat+0) 0) ((λi=>QA.enc (l.getD i (Lay.mk (0:Int) (0:Int)))) ((c:Int).toNat+0) (0+1))) (QS (QJ M.fst (S++[(M.fst.getD (nxI g0) noE).born])) 0)) (Lay.mk ((λi=>QA.enc (l.getD i (Lay.mk (0:Int) (0:Int)))) ((intV (QJ M.fst (S++[(M.fst.getD (nxI g0) noE).born])).val).toNat+0) 0) ((λi=>QA.enc (l.getD i (Lay.mk (0:Int) (0:Int)))) ((intV (QJ M.fst (S++[(M.fst.getD (nxI g0) noE).born])).val).toNat+0) (0+1))).piece (onS (Lay.mk ((λi=>QA.enc (l.getD i (Lay.mk (0:Int) (0:Int)))) ((intV (QJ M.fst (S++[(M.fst.getD (nxI g0) noE).born])).val).toNat+0) 0) ((λi=>QA.enc (l.getD i (Lay.mk (0:Int) (0:Int)))) ((intV (QJ M.fst (S++[(M.fst.getD (nxI g0) noE).born])).val).toNat+0) (0+1))) ((i64.wrap (QS (QJ M.fst (S++[(M.fst.getD (nxI g0) noE).born])) 0+2)).tmod (4:Int))))).length λi=>QA.enc ((R (Jn.mk (Lay.mk ((λi=>QA.enc (l.getD i (Lay.mk (0:Int) (0:Int)))) ((c:Int).toNat+0) 0) ((λi=>QA.enc (l.getD i (Lay.mk (0:Int) (0:Int)))) ((c:Int).toNat+0) (0+1))).piece (onS (Lay.mk ((λi=>QA.enc (l.getD i (Lay.mk (0:Int) (0:Int)))) ((c:Int).toNat+0) 0) ((λi=>QA.enc (l.getD i (Lay.mk (0:Int) (0:Int)))) ((c:Int).toNat+0) (0+1))) (QS (QJ M.fst (S++[(M.fst.getD (nxI g0) noE).born])) 0)) (Lay.mk ((λi=>QA.enc (l.getD i (Lay.mk (0:Int) (0:Int)))) ((intV (QJ M.fst (S ++ [(M.fst.getD (nxI g0) noE).born])).val).toNat+0) 0) ((λi=>QA.enc (l.getD i (Lay.mk (0:Int) (0:Int)))) ((intV (QJ M.fst (S++[(M.fst.getD (nxI g0) noE).born])).val).toNat+0) (0+1))).piece (onS (Lay.mk ((λi=>QA.enc (l.getD i (Lay.mk (0:Int) (0:Int)))) ((intV (QJ M.fst (S++[(M.fst.getD (nxI g0) noE).born])).val).toNat+0) 0) ((λi=>QA.enc (l.getD i (Lay.mk (0:Int) (0:Int)))) ((intV (QJ M.fst (S++[(M.fst.getD (nxI g0) noE).born])).val).toNat+0) (0+1))) ((i64.wrap (QS (QJ M.fst (S++[(M.fst.getD (nxI g0) noE).born])) 0+2)).tmod (4:Int))))).getD i (Jn.mk (0:Int) (0:Int) (0:Int) (0:Int)))),(808,.mp M.1 M.2)]))))))))))))) (.br (decide (intV (QJ M.1 (S++[(M.1.getD (nxI g0) noE).3])).2≥(l.length:Int))) (.leaf (.tup (jq c l)) ([(Vf d l w0),(qA f),(Vv d l),(Vo l),Ve,(Vp l),(816,.itm [.map 808] 187 M.2 (S++[(M.fst.getD (nxI g0) noE).born]) M.2),(Vh d),(qY f),(808,.mp M.1 M.2)])) (.need (decide ((0:Int)<=(c:Int)/\(c:Int)<(l.length:Int))&&decide (l.length<=l.length)) (.need (decide (c<l.length)) (.need (true&&(true&&true)&&decide (((0:Int)<=(l.getD c (Lay.mk (0:Int) (0:Int))).turn/\(l.getD c (Lay.mk (0:Int) (0:Int))).turn<=3)/\(0:Int)<=QS (QJ M.1 (S++[(M.1.getD (nxI g0) noE).3])) 0/\QS (QJ M.1 (S++[(M.1.getD (nxI g0) noE).3])) 0<=3)) (.need (decide ((0:Int)<=intV (QJ M.1 (S++[(M.1.getD (nxI g0) noE).3])).2/\intV (QJ M.1 (S++[(M.1.getD (nxI g0) noE).3])).2<(l.length:Int))&&decide (l.length<=l.length)) (.need (decide ((intV (QJ M.1 (S++[(M.1.getD (nxI g0) noE).3])).2).toNat<l.length)) (.need (true&&(true&&true)&&decide (((0:Int)<=(l.getD (intV (QJ M.1 (S++[(M.1.getD (nxI g0) noE).3])).2).toNat (Lay.mk (0:Int) (0:Int))).turn/\(l.getD (intV (QJ M.1 (S++[(M.1.getD (nxI g0) noE).3])).2).toNat (Lay.mk (0:Int) (0:Int))).turn<=3)/\(0:Int)<=(i64.wrap (QS (QJ M.1 (S++[(M.1.getD (nxI g0) noE).3])) 0+2)).tmod (4:Int)/\(i64.wrap (QS (QJ M.1 (S++[(M.1.getD (nxI g0) noE).3])) 0+2)).tmod (4:Int)<=3)) (.br (decide ((l.getD (intV (QJ M.1 (S++[(M.1.getD (nxI g0) noE).3])).2).toNat (Lay.mk (0:Int) (0:Int))).piece<(l.getD c (Lay.mk (0:Int) (0:Int))).piece)) (.need (pb ([0=0,f.length=f.length,cO=cO,Fn.func 93=Fn.func 93,0=0,0=0,f.length<=f.length,QB 4 f.length (λi=>QA.enc (f.getD i (Jn.mk (0:Int) (0:Int) (0:Int) (0:Int)))) λi=>QA.enc (f.getD i (Jn.mk (0:Int) (0:Int) (0:Int) (0:Int))),(l.getD (intV (QJ M.1 (S++[(M.1.getD (nxI g0) noE).3])).2).toNat (Lay.mk (0:Int) (0:Int))).piece=(l.getD (intV (QJ M.1 (S++[(M.1.getD (nxI g0) noE).3])).2).toNat (Lay.mk (0:Int) (0:Int))).piece,onS (l.getD (intV (QJ M.1 (S++[(M.1.getD (nxI g0) noE).3])).2).toNat (Lay.mk (0:Int) (0:Int))) ((i64.wrap (QS (QJ M.1 (S++[(M.1.getD (nxI g0) noE).3])) 0+2)).tmod (4:Int))=onS (l.getD (intV (QJ M.1 (S++[(M.1.getD (nxI g0) noE).3])).2).toNat (Lay.mk (0:Int) (0:Int))) ((i64.wrap (QS (QJ M.1 (S++[(M.1.getD (nxI g0) noE).3])) 0+2)).tmod (4:Int)),(l.getD c (Lay.mk (0:Int) (0:Int))).piece=(l.getD c (Lay.mk (0:Int) (0:Int))).piece,onS (l.getD c (Lay.mk (0:Int) (0:Int))) (QS (QJ M.1 (S++[(M.1.getD (nxI g0) noE).3])) 0)=onS (l.getD c (Lay.mk (0:Int) (0:Int))) (QS (QJ M.1 (S ++ [(M.1.getD (nxI g0) noE).3])) 0)])) (.leaf (.tup (jq c l)) ([(Vf d l w0),(296,.cells 0 64 [.slz 1296 0 (R (Jn.mk (Lay.mk ((λi=>QA.enc (l.getD i (Lay.mk (0:Int) (0:Int)))) ((intV (QJ M.fst (S++[(M.fst.getD (nxI g0) noE).born])).val).toNat+0) 0) ((λi=>QA.enc (l.getD i (Lay.mk (0:Int) (0:Int)))) ((intV (QJ M.fst (S ++ [(M.fst.getD (nxI g0) noE).born])).val).toNat+0) (0+1))).piece (onS (Lay.mk ((λi=>QA.enc (l.getD i (Lay.mk (0:Int) (0:Int)))) ((intV (QJ M.fst (S++[(M.fst.getD (nxI g0) noE).born])).val).toNat+0) 0) ((λi=>QA.enc (l.getD i (Lay.mk (0:Int) (0:Int)))) ((intV (QJ M.fst (S++[(M.fst.getD (nxI g0) noE).born])).val).toNat+0) (0+1))) ((i64.wrap (QS (QJ M.fst (S++[(M.fst.getD (nxI g0) noE).born])) 0+2)).tmod (4:Int))) (Lay.mk ((λi=>QA.enc (l.getD i (Lay.mk (0:Int) (0:Int)))) ((c:Int).toNat+0) 0) ((λi=>QA.enc (l.getD i (Lay.mk (0:Int) (0:Int)))) ((c:Int).toNat+0) (0+1))).piece (onS (Lay.mk ((λi=>QA.enc (l.getD i (Lay.mk (0:Int) (0:Int)))) ((c:Int).toNat+0) 0) ((λi=>QA.enc (l.getD i (Lay.mk (0:Int) (0:Int)))) ((c:Int).toNat+0) (0+1))) (QS (QJ M.fst (S++[(M.fst.getD (nxI g0) noE).born])) 0)))).length cO]),(Vv d l),(Vo l),Ve,(Vp l),(816,.itm [.map 808] 187 M.2 (S++[(M.fst.getD (nxI g0) noE).born]) M.2),(Vh d),(1296,.rowz true 67 Z2 (R (Jn.mk (Lay.mk ((λi=>QA.enc (l.getD i (Lay.mk (0:Int) (0:Int)))) ((intV (QJ M.fst (S++[(M.fst.getD (nxI g0) noE).born])).val).toNat+0) 0) ((λi=>QA.enc (l.getD i (Lay.mk (0:Int) (0:Int)))) ((intV (QJ M.fst (S++[(M.fst.getD (nxI g0) noE).born])).val).toNat+0) (0+1))).piece (onS (Lay.mk ((λi=>QA.enc (l.getD i (Lay.mk (0:Int) (0:Int)))) ((intV (QJ M.fst (S++[(M.fst.getD (nxI g0) noE).born])).val).toNat+0) 0) ((λi=>QA.enc (l.getD i (Lay.mk (0:Int) (0:Int)))) ((intV (QJ M.fst (S++[(M.fst.getD (nxI g0) noE).born])).val).toNat+0) (0+1))) ((i64.wrap (QS (QJ M.fst (S++[(M.fst.getD (nxI g0) noE).born])) 0+2)).tmod (4:Int))) (Lay.mk ((λi=>QA.enc (l.getD i (Lay.mk (0:Int) (0:Int)))) ((c:Int).toNat+0) 0) ((λi=>QA.enc (l.getD i (Lay.mk (0:Int) (0:Int)))) ((c:Int).toNat+0) (0+1))).piece (onS (Lay.mk ((λi=>QA.enc (l.getD i (Lay.mk (0:Int) (0:Int)))) ((c:Int).toNat+0) 0) ((λi=>QA.enc (l.getD i (Lay.mk (0:Int) (0:Int)))) ((c:Int).toNat+0) (0+1))) (QS (QJ M.fst (S++[(M.fst.getD (nxI g0) noE).born])) 0)))).length λi=>QA.enc ((R (Jn.mk (Lay.mk ((λi=>QA.enc (l.getD i (Lay.mk (0:Int) (0:Int)))) ((intV (QJ M.fst (S++[(M.fst.getD (nxI g0) noE).born])).val).toNat+0) 0) ((λi=>QA.enc (l.getD i (Lay.mk (0:Int) (0:Int)))) ((intV (QJ M.fst (S ++ [(M.fst.getD (nxI g0) noE).born])).val).toNat+0) (0+1))).piece (onS (Lay.mk ((λi=>QA.enc (l.getD i (Lay.mk (0:Int) (0:Int)))) ((intV (QJ M.fst (S++[(M.fst.getD (nxI g0) noE).born])).val).toNat+0) 0) ((λi=>QA.enc (l.getD i (Lay.mk (0:Int) (0:Int)))) ((intV (QJ M.fst (S++[(M.fst.getD (nxI g0) noE).born])).val).toNat+0) (0+1))) ((i64.wrap (QS (QJ M.fst (S++[(M.fst.getD (nxI g0) noE).born])) 0+2)).tmod (4:Int))) (Lay.mk ((λi=>QA.enc (l.getD i (Lay.mk (0:Int) (0:Int)))) ((c:Int).toNat+0) 0) ((λi=>QA.enc (l.getD i (Lay.mk (0:Int) (0:Int)))) ((c:Int).toNat+0) (0+1))).piece (onS (Lay.mk ((λi=>QA.enc (l.getD i (Lay.mk (0:Int) (0:Int)))) ((c:Int).toNat+0) 0) ((λi=>QA.enc (l.getD i (Lay.mk (0:Int) (0:Int)))) ((c:Int).toNat+0) (0+1))) (QS (QJ M.fst (S++[(M.fst.getD (nxI g0) noE).born])) 0)))).getD i (Jn.mk (0:Int) (0:Int) (0:Int) (0:Int)))),(808,.mp M.1 M.2)]))) (.need (pb ([0=0,f.length=f.length,cO=cO,Fn.func 93=Fn.func 93,0=0,0=0,f.length<=f.length,QB 4 f.length (λi=>QA.enc (f.getD i (Jn.mk (0:Int) (0:Int) (0:Int) (0:Int)))) λi=>QA.enc (f.getD i (Jn.mk (0:Int) (0:Int) (0:Int) (0:Int))),(l.getD c (Lay.mk (0:Int) (0:Int))).piece=(l.getD c (Lay.mk (0:Int) (0:Int))).piece,onS (l.getD c (Lay.mk (0:Int) (0:Int))) (QS (QJ M.1 (S++[(M.1.getD (nxI g0) noE).3])) 0)=onS (l.getD c (Lay.mk (0:Int) (0:Int))) (QS (QJ M.1 (S++[(M.1.getD (nxI g0) noE).3])) 0),(l.getD (intV (QJ M.1 (S++[(M.1.getD (nxI g0) noE).3])).2).toNat (Lay.mk (0:Int) (0:Int))).piece=(l.getD (intV (QJ M.1 (S++[(M.1.getD (nxI g0) noE).3])).2).toNat (Lay.mk (0:Int) (0:Int))).piece,onS (l.getD (intV (QJ M.1 (S++[(M.1.getD (nxI g0) noE).3])).2).toNat (Lay.mk (0:Int) (0:Int))) ((i64.wrap (QS (QJ M.1 (S++[(M.1.getD (nxI g0) noE).3])) 0+2)).tmod (4:Int))=onS (l.getD (intV (QJ M.1 (S++[(M.1.getD (nxI g0) noE).3])).2).toNat (Lay.mk (0:Int) (0:Int))) ((i64.wrap (QS (QJ M.1 (S ++ [(M.1.getD (nxI g0) noE).3])) 0+2)).tmod (4:Int))])) (.leaf (.tup (jq c l)) ([(Vf d l w0),(296,.cells 0 64 [.slz 1264 0 (R (Jn.mk (Lay.mk ((λi=>QA.enc (l.getD i (Lay.mk (0:Int) (0:Int)))) ((c:Int).toNat+0) 0) ((λi=>QA.enc (l.getD i (Lay.mk (0:Int) (0:Int)))) ((c:Int).toNat+0) (0+1))).piece (onS (Lay.mk ((λi=>QA.enc (l.getD i (Lay.mk (0:Int) (0:Int)))) ((c:Int).toNat+0) 0) ((λi=>QA.enc (l.getD i (Lay.mk (0:Int) (0:Int)))) ((c:Int).toNat+0) (0+1))) (QS (QJ M.fst (S++[(M.fst.getD (nxI g0) noE).born])) 0)) (Lay.mk ((λi=>QA.enc (l.getD i (Lay.mk (0:Int) (0:Int)))) ((intV (QJ M.fst (S++[(M.fst.getD (nxI g0) noE).born])).val).toNat+0) 0) ((λi=>QA.enc (l.getD i (Lay.mk (0:Int) (0:Int)))) ((intV (QJ M.fst (S++[(M.fst.getD (nxI g0) noE).born])).val).toNat+0) (0+1))).piece (onS (Lay.mk ((λi=>QA.enc (l.getD i (Lay.mk (0:Int) (0:Int)))) ((intV (QJ M.fst (S++[(M.fst.getD (nxI g0) noE).born])).val).toNat+0) 0) ((λi=>QA.enc (l.getD i (Lay.mk (0:Int) (0:Int)))) ((intV (QJ M.fst (S++[(M.fst.getD (nxI g0) noE).born])).val).toNat+0) (0+1))) ((i64.wrap (QS (QJ M.fst (S ++ [(M.fst.getD (nxI g0) noE).born])) 0+2)).tmod (4:Int))))).length cO]),(Vv d l),(Vo l),Ve,(Vp l),(816,.itm [.map 808] 187 M.2 (S++[(M.fst.getD (nxI g0) noE).born]) M.2),(Vh d),(1264,.rowz true 67 Z2 (R (Jn.mk (Lay.mk ((λi=>QA.enc (l.getD i (Lay.mk (0:Int) (0:Int)))) ((c:Int).toNat+0) 0) ((λi=>QA.enc (l.getD i (Lay.mk (0:Int) (0:Int)))) ((c:Int).toNat+0) (0+1))).piece (onS (Lay.mk ((λi=>QA.enc (l.getD i (Lay.mk (0:Int) (0:Int)))) ((c:Int).toNat+0) 0) ((λi=>QA.enc (l.getD i (Lay.mk (0:Int) (0:Int)))) ((c:Int).toNat+0) (0+1))) (QS (QJ M.fst (S++[(M.fst.getD (nxI g0) noE).born])) 0)) (Lay.mk ((λi=>QA.enc (l.getD i (Lay.mk (0:Int) (0:Int)))) ((intV (QJ M.fst (S++[(M.fst.getD (nxI g0) noE).born])).val).toNat+0) 0) ((λi=>QA.enc (l.getD i (Lay.mk (0:Int) (0:Int)))) ((intV (QJ M.fst (S++[(M.fst.getD (nxI g0) noE).born])).val).toNat+0) (0+1))).piece (onS (Lay.mk ((λi=>QA.enc (l.getD i (Lay.mk (0:Int) (0:Int)))) ((intV (QJ M.fst (S++[(M.fst.getD (nxI g0) noE).born])).val).toNat+0) 0) ((λi=>QA.enc (l.getD i (Lay.mk (0:Int) (0:Int)))) ((intV (QJ M.fst (S++[(M.fst.getD (nxI g0) noE).born])).val).toNat+0) (0+1))) ((i64.wrap (QS (QJ M.fst (S++[(M.fst.getD (nxI g0) noE).born])) 0+2)).tmod (4:Int))))).length λi=>QA.enc ((R (Jn.mk (Lay.mk ((λi=>QA.enc (l.getD i (Lay.mk (0:Int) (0:Int)))) ((c:Int).toNat+0) 0) ((λi=>QA.enc (l.getD i (Lay.mk (0:Int) (0:Int)))) ((c:Int).toNat+0) (0+1))).piece (onS (Lay.mk ((λi=>QA.enc (l.getD i (Lay.mk (0:Int) (0:Int)))) ((c:Int).toNat+0) 0) ((λi=>QA.enc (l.getD i (Lay.mk (0:Int) (0:Int)))) ((c:Int).toNat+0) (0+1))) (QS (QJ M.fst (S++[(M.fst.getD (nxI g0) noE).born])) 0)) (Lay.mk ((λi=>QA.enc (l.getD i (Lay.mk (0:Int) (0:Int)))) ((intV (QJ M.fst (S ++ [(M.fst.getD (nxI g0) noE).born])).val).toNat+0) 0) ((λi=>QA.enc (l.getD i (Lay.mk (0:Int) (0:Int)))) ((intV (QJ M.fst (S++[(M.fst.getD (nxI g0) noE).born])).val).toNat+0) (0+1))).piece (onS (Lay.mk ((λi=>QA.enc (l.getD i (Lay.mk (0:Int) (0:Int)))) ((intV (QJ M.fst (S++[(M.fst.getD (nxI g0) noE).born])).val).toNat+0) 0) ((λi=>QA.enc (l.getD i (Lay.mk (0:Int) (0:Int)))) ((intV (QJ M.fst (S++[(M.fst.getD (nxI g0) noE).born])).val).toNat+0) (0+1))) ((i64.wrap (QS (QJ M.fst (S++[(M.fst.getD (nxI g0) noE).born])) 0+2)).tmod (4:Int))))).getD i (Jn.mk (0:Int) (0:Int) (0:Int) (0:Int)))),(808,.mp M.1 M.2)])))))))))))))))):=by kernel_rfl
abbrev QBf:List Prop:=
  [0=0,0=0,0=0,0=0]
abbrev QID:List Prop:=
  (waa d++[cO=cO,0=0])
abbrev wa4:List Prop:=[Array.mk [28]=Array.mk [(28:Tmp)],(Qp f43).1=(Qp f43).1,(Qp f43).2=(Qp f43).2]
abbrev wbU(l:List Lay):List Prop:=[0=0,0=0,0=0,l.length=l.length,cO=cO]
abbrev wbY(l:List Lay):List Prop:=[l.length=l.length,cO=cO,0=0,0=0,(0:Int)=0]
theorem QVv :QF 752 [.yld 729,.ptr 696 0 0,.ptr 688 0 0,.slz 496 0 l.length cO,vi (l.length:Int),vi (c:Int)] ([(Vf d l w0),(qA f),(Vv d l), (Vo l),Ve,(Vp l),(Vh d),(qY f)]) (mlE d w0 l (Qp f43).1 (Qp f43).2 c f)=(some (QBf++[0=0,l.length=l.length,cO=cO, (l.length:Int)=(l.length:Int),(c:Int)=(c:Int),LoopState.ready=LoopState.ready,(none:Option Code)=none,Array.mk [28]=Array.mk [(28:Tmp)],(Qp f43).1=(Qp f43).1,(Qp f43).2=(Qp f43).2]++(QID d)++[0=0,(0:Int)=0,0=0,0=0,(0:Int)=0]++QBf++[0=0,l.length=l.length,cO=cO,0=0,0=0,(0:Int)=0]++(QID d)++[0=0,(0:Int)=0,0=0,0=0,(0:Int)=0,(0:Int)=0,false=false,0=0,0=0,0=0, w0.length=w0.length,cO=cO,0=0,0=0,Fn.func (91:FuncId)=Fn.func (91:FuncId)]++QBf++[Fn.func (102:FuncId)=Fn.func (102:FuncId)]++QBf++[0=0,l.length=l.length,cO=cO,Fn.func (91:FuncId)=Fn.func (91:FuncId),0=0,0=0,0=0,l.length=l.length,cO=cO,Fn.func (133:FuncId)=Fn.func (133:FuncId)]++QBf++[0=0,f.length=f.length,cO=cO,f.length<=f.length,QB 4 f.length (λi=>QA.enc (f.getD i (Jn.mk (0:Int) (0:Int) (0:Int) (0:Int)))) λi=>QA.enc (f.getD i (Jn.mk (0:Int) (0:Int) (0:Int) (0:Int))),0=0,l.length=l.length,cO=cO,0=0,0=0,l.length<=l.length,QB 2 l.length (λi=>QA.enc (l.getD i (Lay.mk (0:Int) (0:Int)))) λi=>QA.enc (l.getD i (Lay.mk (0:Int) (0:Int)))]++(QID d)++[l.length=l.length,cO=cO,d.ps.n<=d.ps.n,QB 28 d.ps.n (λi=>QA.enc (d.ps.get i)) λi=>QA.enc (d.ps.get i)])):=by kernel_rfl
noncomputable abbrev jR(l:List Lay):List AV:=
  (.yld 729::List.append (wa6 l) ([vi (c:Int),vi (c:Int),.ptr 816 808 0]))
noncomputable abbrev vS:Nat×Blk:=
  (816,.itm [.map 808] 187 M.2 (S++[(M.fst.getD (nxI g0) noE).born]) M.2)
abbrev waB(l:List Lay)(w0:List Jn):List Prop:=([cO=cO]++wbE++((wbR w0++[0=0,0=0,0=0,0=0])++wbO++([0=0,l.length=l.length,cO=cO,Fn.func (91:FuncId)=Fn.func (91:FuncId)]++wbU l++[Fn.func (133:FuncId)=Fn.func (133:FuncId),0=0,0=0,0=0,0=0])))
abbrev wbD(c:Nat)(l:List Lay):List Prop:=[(l.length:Int)=(l.length:Int),(c:Int)=(c:Int),(c:Int)=(c:Int)]
abbrev QJc(d:Puz)(f:List Jn)(g0:Nat->Value)(l:List Lay)(w0:List Jn):List Prop:=
  (((([0=0,0=0]++wbU l)++wbD c l++[808=808,0=0,M.2=M.2,S++[(M.1.getD (nxI g0) noE).3]=S',M.2=M.2,M.1=M.1,M.2=M.2])++wai++(wa4))++waa d++(wbQ++(wbY l))++waa d++(((waB l w0++[0=0,f.length=f.length,cO=cO])++wah f++[0=0,l.length=l.length,Cap.of
  0=cO,0=0,0=0])++wag l)++waa d++([cO=cO,0=0,l.length=l.length,cO=cO]++wad d))
theorem QYg(M:ECt)(S S':List Nat)(c:Nat)(f:List Jn)(g0:Nat->Value):QF 752 (jR c l) ([(Vf d l w0),(qA f),(Vv d l),(Vo l),Ve,(Vp l),(vS M S g0),(Vh d),(qY f),(808,.mp M.1 M.2)]) (mlJ d w0 l (Qp f43).1 (Qp f43).2 M S' c f)=(some (QJc M S S' c d f g0 l w0)):=by kernel_rfl
theorem QiZ(M:ECt)(S S':List Nat)(c:Nat)(f:List Jn)(g0:Nat->Value):QF 752 (jR c l) ([(Vf d l w0),(qA f),(Vv d l),(Vo l),Ve,(Vp l),(vS M S g0),(Vh d),(qY f),(808,.mp M.1 M.2)]) (mlJ d w0 l (Qp f43).1 (Qp f43).2 M S' c f)=(some (QJc M S S' c d f g0 l w0)):=by kernel_rfl
theorem QVy(M:ECt)(S S':List Nat)(c:Nat)(f:List Jn)(g0:Nat->Value):QF 752 (jR c l) ([(Vf d l w0),(qA f),(Vv d l),(Vo l),Ve,(Vp l),(vS M S g0),(Vh d),(qY f),(808,.mp M.1 M.2)]) (mlJ d w0 l (Qp f43).1 (Qp f43).2 M S' c f)=(some (QJc M S S' c d f g0 l w0)):=by kernel_rfl
noncomputable abbrev Zj(l:List Lay):Jn:=
  (Jn.mk (Lay.mk ((λi=>QA.enc (l.getD i (Lay.mk (0:Int) (0:Int)))) ((intV (QJ M.fst (S++[(M.fst.getD (nxI g0) noE).born])).val).toNat+0) 0) ((λi=>QA.enc
  (l.getD i (Lay.mk (0:Int) (0:Int)))) ((intV (QJ M.fst (S++[(M.fst.getD (nxI g0) noE).born])).val).toNat+0) (0+1))).piece (onS (Lay.mk ((λi=>QA.enc (l.getD i
  (Lay.mk (0:Int) (0:Int)))) ((intV (QJ M.fst (S++[(M.fst.getD (nxI g0) noE).born])).val).toNat+0) 0) ((λi=>QA.enc (l.getD i (Lay.mk (0:Int) (0:Int)))) ((intV
  (QJ M.fst (S++[(M.fst.getD (nxI g0) noE).born])).val).toNat+0) (0+1))) ((i64.wrap (QS (QJ M.fst (S++[(M.fst.getD (nxI g0) noE).born])) 0+2)).tmod (4:Int)))
  (Lay.mk ((λi=>QA.enc (l.getD i (Lay.mk (0:Int) (0:Int)))) ((c:Int).toNat+0) 0) ((λi=>QA.enc (l.getD i (Lay.mk (0:Int) (0:Int)))) ((c:Int).toNat+0) (0 +
  1))).piece (onS (Lay.mk ((λi=>QA.enc (l.getD i (Lay.mk (0:Int) (0:Int)))) ((c:Int).toNat+0) 0) ((λi=>QA.enc (l.getD i (Lay.mk (0:Int) (0:Int)))) ((c :
  Int).toNat+0) (0+1))) (QS (QJ M.fst (S++[(M.fst.getD (nxI g0) noE).born])) 0)))
abbrev QL7(S:List Nat)(S':List Nat)(c:Nat)(d:Puz)(f':List Jn)(g0:Nat->Value)(l:List Lay)(w0:List Jn):List Prop:=
  (((([0=0,0=0]++wbU l)++wbD c l++[808=808,0=0,M.2=M.2,S++[(M.1.getD (nxI g0) noE).3]=S',M.2=M.2,M.1=M.1,M.2=M.2])++wai++(wa4))++waa d++(wbQ++(wbY l))++waa d++((waB l w0++[0=0,(R (Zj M S c g0 l)).length=f'.length,cO=cO,f'.length<=(R (Zj M S c g0
  l)).length,QB 4 f'.length (λi=>QA.enc ((R (Zj M S c g0 l)).getD i (Jn.mk (0:Int) (0:Int) (0:Int) (0:Int)))) λi=>QA.enc (f'.getD i (Jn.mk (0:Int) (0 :
  Int) (0:Int) (0:Int))),0=0,l.length=l.length,cO=cO,0=0,0=0])++wag l)++waa d++([cO=cO,0=0,l.length=l.length,cO
  = cO]++wad d))
theorem QVa(M:ECt)(S S':List Nat)(c:Nat)(f f':List Jn)(R:Jn->List Jn)(g0:Nat->Value):QF 752 (jR c l) ([(Vf d l w0),(296,.cells 0 64 [.slz 1360 0 (R (Zj M S c g0 l)).length cO]),(Vv d l),(Vo l),Ve,(Vp l),(vS M S g0),(Vh d), (1360,.rowz true 67 Z2 (R (Zj M S c g0 l)).length λi=>QA.enc ((R (Zj M S c g0 l)).getD i (Jn.mk (0:Int) (0:Int) (0:Int) (0:Int)))),(808,.mp M.1 M.2)]) (mlJ d w0 l (Qp f43).1 (Qp f43).2 M S' c f')=(some (QL7 M R S S' c d f' g0 l w0)):=by kernel_rfl
noncomputable abbrev Zq(l:List Lay):Jn:=
  (Jn.mk (Lay.mk ((λi=>QA.enc (l.getD i (Lay.mk (0:Int) (0:Int)))) ((c:Int).toNat+0) 0) ((λi=>QA.enc (l.getD i (Lay.mk (0:Int) (0:Int)))) ((c:Int).toNat +
  0) (0+1))).piece (onS (Lay.mk ((λi=>QA.enc (l.getD i (Lay.mk (0:Int) (0:Int)))) ((c:Int).toNat+0) 0) ((λi=>QA.enc (l.getD i (Lay.mk (0:Int) (0:Int))))
  ((c:Int).toNat+0) (0+1))) (QS (QJ M.fst (S++[(M.fst.getD (nxI g0) noE).born])) 0)) (Lay.mk ((λi=>QA.enc (l.getD i (Lay.mk (0:Int) (0:Int)))) ((intV (QJ
  M.fst (S++[(M.fst.getD (nxI g0) noE).born])).val).toNat+0) 0) ((λi=>QA.enc (l.getD i (Lay.mk (0:Int) (0:Int)))) ((intV (QJ M.fst (S++[(M.fst.getD (nxI g0)
  noE).born])).val).toNat+0) (0+1))).piece (onS (Lay.mk ((λi=>QA.enc (l.getD i (Lay.mk (0:Int) (0:Int)))) ((intV (QJ M.fst (S++[(M.fst.getD (nxI g0)
  noE).born])).val).toNat+0) 0) ((λi=>QA.enc (l.getD i (Lay.mk (0:Int) (0:Int)))) ((intV (QJ M.fst (S++[(M.fst.getD (nxI g0) noE).born])).val).toNat+0) (0+1)))
  ((i64.wrap (QS (QJ M.fst (S++[(M.fst.getD (nxI g0) noE).born])) 0+2)).tmod (4:Int))))
abbrev QTt(S:List Nat)(S':List Nat)(c:Nat)(d:Puz)(f':List Jn)(g0:Nat->Value)(l:List Lay)(w0:List Jn):List Prop:=
  (((([0=0,0=0]++wbU l)++wbD c l++[808=808,0=0,M.2=M.2,S++[(M.1.getD (nxI g0) noE).3]=S',M.2=M.2,M.1=M.1,M.2=M.2])++wai++(wa4))++waa d++(wbQ++(wbY l))++waa d++((waB l w0++[0=0,(R (Zq M S c g0 l)).length=f'.length,cO=cO,f'.length<=(R (Zq M S c g0
  l)).length,QB 4 f'.length (λi=>QA.enc ((R (Zq M S c g0 l)).getD i (Jn.mk (0:Int) (0:Int) (0:Int) (0:Int)))) λi=>QA.enc (f'.getD i (Jn.mk (0:Int) (0 :
  Int) (0:Int) (0:Int))),0=0,l.length=l.length,cO=cO,0=0,0=0])++wag l)++waa d++([cO=cO,0=0,l.length=l.length,cO
  = cO]++wad d))
theorem QXM(M:ECt)(S S':List Nat)(c:Nat)(f f':List Jn)(R:Jn->List Jn)(g0:Nat->Value):QF 752 (jR c l) ([(Vf d l w0),(296,.cells 0 64 [.slz 1328 0 (R (Zq M S c g0 l)).length cO]),(Vv d l),(Vo l),Ve,(Vp l),(vS M S g0),(Vh d), (1328,.rowz true 67 Z2 (R (Zq M S c g0 l)).length λi=>QA.enc ((R (Zq M S c g0 l)).getD i (Jn.mk (0:Int) (0:Int) (0:Int) (0:Int)))),(808,.mp M.1 M.2)]) (mlJ d w0 l (Qp f43).1 (Qp f43).2 M S' c f')=(some (QTt M R S S' c d f' g0 l w0)):=by kernel_rfl
theorem Qgj(M:ECt)(S S':List Nat)(c:Nat)(f f':List Jn)(R:Jn->List Jn)(g0:Nat->Value):QF 752 (jR c l) ([(Vf d l w0),(296,.cells 0 64 [.slz 1296 0 (R (Zj M S c g0 l)).length cO]),(Vv d l),(Vo l),Ve,(Vp l),(vS M S g0),(Vh d), (1296,.rowz true 67 Z2 (R (Zj M S c g0 l)).length λi=>QA.enc ((R (Zj M S c g0 l)).getD i (Jn.mk (0:Int) (0:Int) (0:Int) (0:Int)))),(808,.mp M.1 M.2)]) (mlJ d w0 l (Qp f43).1 (Qp f43).2 M S' c f')=(some (QL7 M R S S' c d f' g0 l w0)):=by kernel_rfl
theorem QVm(M:ECt)(S S':List Nat)(c:Nat)(f f':List Jn)(R:Jn->List Jn)(g0:Nat->Value):QF 752 (jR c l) ([(Vf d l w0),(296,.cells 0 64 [.slz 1264 0 (R (Zq M S c g0 l)).length cO]),(Vv d l),(Vo l),Ve,(Vp l),(vS M S g0),(Vh d), (1264,.rowz true 67 Z2 (R (Zq M S c g0 l)).length λi=>QA.enc ((R (Zq M S c g0 l)).getD i (Jn.mk (0:Int) (0:Int) (0:Int) (0:Int)))),(808,.mp M.1 M.2)]) (mlJ d w0 l (Qp f43).1 (Qp f43).2 M S' c f')=(some (QTt M R S S' c d f' g0 l w0)):=by kernel_rfl
