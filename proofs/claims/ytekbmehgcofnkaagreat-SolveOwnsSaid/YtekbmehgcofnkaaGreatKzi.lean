/- - -/
import Derived.Test.YtekbmehgcofnkaaGreatKzh
set_option linter.all false
noncomputable section
open Go.Proofs.Tryz
open Go.IntKind (i64)
set_option maxRecDepth 100000
namespace Go.Proofs.YtekbmehgcofnkaaGreat
open Go.SX Go.SX.Told
variable (L:List Jn)(d:Puz)(x:Jn)
def YS(E:ECt)(w0:List Jn)(ac body:Code)(rec:List Lay->LJ->QZ LJ)(l:List Lay)(k:Nat×LJ)(e:Ex)(J:JSt):Prop:=match Qw (Km d E rec l) ((List.range d.ps.n).drop k.1) k.2 with
 | .go s'=>e = .exit 0/\J=zu d E w0 ac body (QD l) l s'.1
 | .stop s'=>e = .ret/\J=faF d E w0 ac body (QD l) l s'.1
set_option maxHeartbeats 1000000 in
theorem Qa3(E:ECt)(w0:List Jn)(ac body:Code)(rec:List Lay->LJ->QZ LJ)(l:List Lay)(hn:d.ps.n<=1000):Jf (λk:Nat×LJ=>GR d E w0 ac body (QD l) l k.2.1 k.1) (λk=>k.1<=d.ps.n) (λk=>d.ps.n-k.1) (YS d E w0 ac body rec l) 520 QPc Zd (λk=>mkE prog (qG QP d l.length k.1)) (λk=>QB0 prog QP d E w0 ac body (QD l) l k.2.1 k.1 (QAm d E w0 ac body rec l k.1 k.2)) (QH f103 0):=by
 refine⟨λk g0 hk=>?_⟩;obtain⟨p,f,hq0⟩:=k;have hk:p<=d.ps.n:=hk;have wp:p<d.ps.n->i64.wrap ((p:Int)+1)=((p+1:Nat):Int):=λh=>Vj h hn;have step:=λh:p<d.ps.n=>Wc (f:=Km d E rec l) h ⟨f,hq0⟩
 have next:p<d.ps.n->∀{s2:LJ},Km d E rec l ⟨f,hq0⟩ p = .go s2->∀ e J,YS d E w0 ac body rec l (p+1,s2) e J->YS d E w0 ac body rec l (p,⟨f,hq0⟩) e J:=by
  intro h s2 he e J hr;unfold YS at hr ⊢;simp only at hr ⊢;rw[step h,he];exact hr
 have stop:p<d.ps.n->∀{s2:LJ},Km d E rec l ⟨f,hq0⟩ p = .stop s2->YS d E w0 ac body rec l (p,⟨f,hq0⟩) .ret (faF d E w0 ac body (QD l) l s2.1):=by
  intro h s2 he;unfold YS;simp only[step h,he,and_self]
 have last:d.ps.n<=p->YS d E w0 ac body rec l (p,⟨f,hq0⟩) (.exit 0) (zu d E w0 ac body (QD l) l f):=by
  intro h;unfold YS;simp only[WH h,and_self]
 have hpz:KI l p=false->Km d E rec l ⟨f,hq0⟩ p=inZ d E rec l p ⟨f,hq0⟩:=λh=>by unfold Km;rw[h];rfl
 have hpu:KI l p=true->Km d E rec l ⟨f,hq0⟩ p = .go ⟨f,hq0⟩:=λh=>by unfold Km;rw[h];rfl
 unfold QAm;simp only;cases hr:inZ d E rec l p ⟨f,hq0⟩with
 | go s'=>
  obtain⟨f',hq1⟩:=s';simp only[QZ.isGo,QZ.s,Bool.true_eq_false,Bool.false_eq_true];have et:=QPR QP d E w0 ac body (QD l) (QD l) l f p True False f' g0;refine Qe et ?_;clear et;refine QF (λb0=>?_) (λb0=>?_);have h:p<d.ps.n:=by have:=qdt b0;omega
  have hw:=wp h
  iterate 2 (refine QG ?_ ?_;rotate_left)
  refine QF (λb1=>?_) (λb1=>?_);have hub:KI l p=true:=VR.symm.trans b1;refine⟨(p+1,⟨f,hq0⟩),h,by show d.ps.n-(p+1)<d.ps.n-p;omega,next h (hpu hub),rfl,rfl,_,QJh d E w0 ac body (QD l) l f p (p+1),?_⟩
  rotate_left
  have hub:KI l p=false:=VR.symm.trans b1;have hu0:QD l p 0=0:=by unfold QD;rw[hub];rfl
  refine QG ?_ ?_;rotate_left
  iterate 127 refine Qp (by first|exact tv|exact⟨h,hu0⟩|with_reducible exact qRr|exact rfl) ?_
  refine Kb ?_ ?_;refine Qf λa0=>?_;refine Qh λg0=>?_;refine⟨(p+1,⟨f',hq1⟩),h,by show d.ps.n-(p+1)<d.ps.n-p;omega,next h ((hpz hub).trans hr),rfl,rfl,_,QZI d E w0 ac body (QD l) l p (p+1) f',?_⟩
  rotate_left
  refine Qf λa1=>?_;refine Qh λg1=>?_
  .exact a1.elim
  have h:d.ps.n<=p:=by have:=qdf b0;omega
  refine⟨_,last h,rfl,rfl,_,QJk d E w0 ac body (QD l) l f,?_⟩
  rotate_left
  all_goals first|((with_reducible show _=true);(first|(refine Q7.2 ?_;repeat' first|exact tv|with_reducible exact qRr|exact rfl|refine aI ?_ ?_)|(simp;omega)))|(repeat' first|with_reducible refine QO ?_ ?_|exact tv|with_reducible exact qRr|with_reducible exact hw|exact rfl|refine aI ?_ ?_)
 | stop s'=>
  obtain⟨f',hq1⟩:=s';simp only[QZ.isGo,QZ.s,Bool.true_eq_false,Bool.false_eq_true];have et:=QPR QP d E w0 ac body (QD l) (QD l) l f p False True f' g0;refine Qe et ?_;clear et;refine QF (λb0=>?_) (λb0=>?_);have h:p<d.ps.n:=by have:=qdt b0;omega
  have hw:=wp h
  iterate 2 (refine QG ?_ ?_;rotate_left)
  refine QF (λb1=>?_) (λb1=>?_);have hub:KI l p=true:=VR.symm.trans b1;refine⟨(p+1,⟨f,hq0⟩),h,by show d.ps.n-(p+1)<d.ps.n-p;omega,next h (hpu hub),rfl,rfl,_,QJh d E w0 ac body (QD l) l f p (p+1),?_⟩
  rotate_left
  have hub:KI l p=false:=VR.symm.trans b1;have hu0:QD l p 0=0:=by unfold QD;rw[hub];rfl
  refine QG ?_ ?_;rotate_left
  iterate 127 refine Qp (by first|exact tv|exact⟨h,hu0⟩|with_reducible exact qRr|exact rfl) ?_
  refine Kb ?_ ?_;refine Qf λa0=>?_;refine Qh λg0=>?_
  .exact a0.elim
  refine Qf λa1=>?_;refine Qh λg1=>?_;refine⟨_,stop h ((hpz hub).trans hr),rfl,rfl,_,QTI d E w0 ac body (QD l) l f',?_⟩
  rotate_left
  have h:d.ps.n<=p:=by have:=qdf b0;omega
  refine⟨_,last h,rfl,rfl,_,QJk d E w0 ac body (QD l) l f,?_⟩
  rotate_left
  all_goals first|((with_reducible show _=true);(first|(refine Q7.2 ?_;repeat' first|exact tv|with_reducible exact qRr|exact rfl|refine aI ?_ ?_)|(simp;omega)))|(repeat' first|with_reducible refine QO ?_ ?_|exact tv|with_reducible exact qRr|with_reducible exact hw|exact rfl|refine aI ?_ ?_)
abbrev VK:Code:=(QL f43 0).1
abbrev VI:Code:=(QL f43 0).2
theorem QMr(E:ECt)(w0:List Jn)(ac body:Code)(u:Nat->Nat->Int)(l:List Lay)(f:List Jn)(f':List Jn):(faU d E w0 ac body u l f f').Ok:=by
 refine⟨(by decide:488<=520),rfl,rfl,?_,rfl,λ_ _=>rfl,λnid h=>?_⟩
 .intro q hq;simp only[UC.po,faU,faW,rwY,rwU,rwJ,List.mem_cons,List.not_mem_nil,or_false]at hq;rcases hq with rfl|rfl|rfl|rfl|rfl|rfl|rfl|rfl|rfl|rfl|rfl<;>refine⟨rfl,rfl,rfl,?_⟩<;>first|exact λ_=>rfl|exact λh=>absurd (show 520<488 from h) (by decide)|exact λh=>absurd (show 521<488 from h) (by decide)|exact λh=>absurd (show 522<488 from h) (by decide)|exact λh=>absurd (show 523<488 from h) (by decide)
 .have e0:=KW 488 520 0 nid (by decide)
  have e1:=KW 488 520 1 nid (by decide)
  have e2:=KW 488 520 2 nid (by decide)
  simp only[UC.po,faU,faW,rwY,rwU,rwJ,Gr,faT,KT,Qi.val,List.cons_append,List.nil_append,List.map_cons,List.map_nil,Blk.mapId,AV.mapId,AV.mapIdL,Nat.add_zero]at e0 e1 e2 ⊢;rw[e0,e1,e2];rfl
theorem QNP(E:ECt)(w0:List Jn)(ac body:Code)(u:Nat->Nat->Int)(l:List Lay)(f:List Jn)(f':List Jn):(faV d E w0 ac body u l f f').Ok:=by
 refine⟨(by decide:488<=520),rfl,rfl,?_,rfl,λ_ _=>rfl,λnid h=>?_⟩
 .intro q hq;simp only[UC.po,faV,faW,rwY,rwU,rwJ,List.mem_cons,List.not_mem_nil,or_false]at hq;rcases hq with rfl|rfl|rfl|rfl|rfl|rfl|rfl|rfl|rfl|rfl|rfl<;>refine⟨rfl,rfl,rfl,?_⟩<;>first|exact λ_=>rfl|exact λh=>absurd (show 520<488 from h) (by decide)|exact λh=>absurd (show 521<488 from h) (by decide)|exact λh=>absurd (show 522<488 from h) (by decide)|exact λh=>absurd (show 523<488 from h) (by decide)
 .have e0:=KW 488 520 0 nid (by decide)
  have e1:=KW 488 520 1 nid (by decide)
  have e2:=KW 488 520 2 nid (by decide)
  simp only[UC.po,faV,faW,rwY,rwU,rwJ,Gr,faT,KT,Qi.val,List.cons_append,List.nil_append,List.map_cons,List.map_nil,Blk.mapId,AV.mapId,AV.mapIdL,Nat.add_zero]at e0 e1 e2 ⊢;rw[e0,e1,e2];rfl
theorem QEe{k n:Nat}(h:k<n)(hn:n<=1000000000):i64.wrap ((k:Int)+1)=((k+1:Nat):Int):=(w64 (by omega) (by omega)).trans (by omega)
def jiR(k:Nat)(e:Ex)(J:JSt):Prop:=(e = .ret/\(QU (λi=>eqJ x (atJ L i)) (L.length-k) k).isSome=true/\J=Yq (Kf (QU (λi=>eqJ x (atJ L i)) (L.length-k) k)))∨(e = .exit 0/\QU (λi=>eqJ x (atJ L i)) (L.length-k) k=none/\J=qL)
theorem Qe7(hn:L.length<=1000000000):JL (jiJ L x) (λk=>k<=L.length) (λk=>L.length-k) (jiR L x) 24 QCI [] (mkE prog QS) (λ_=>hnd (mkE prog QS) 2) (QH f135 0):=by
 refine⟨λk g0 hk=>Qe (QbW L x k g0) ?_⟩;have hk:k<=L.length:=hk;have hit:∀(h:k<L.length),eqJ x (atJ L k)=true->jiR L x k .ret (Yq k):=λh hs=>.inl ⟨rfl,by rw[(J4 h).1 hs];rfl,by rw[(J4 h).1 hs];rfl⟩
 refine QF (λb0=>?_) (λb0=>?_);have h:k<L.length:=by have:=qdt b0;omega
 have hf:=J4 (p:=(λi=>eqJ x (atJ L i))) h
 iterate 2 (refine QG ?_ ?_;rotate_left)
 refine QF ?_ ?_<;>intro b1
 .refine⟨_,hit h b1,rfl,rfl,_,QZJ k k,⟨rfl,trivial⟩⟩
 have hb:eqJ x (atJ L k)=false:=b1;refine⟨k+1,h,by show L.length-(k+1)<L.length-k;omega,λe J h=>by unfold jiR at h ⊢;rw[hf.2 hb];exact h,rfl,rfl,_,QUS L x k (k+1),?_⟩
 rotate_left
 .have h:L.length<=k:=by have:=qdf b0;omega
  exact⟨_,.inr ⟨rfl,by rw[show L.length-k=0 by omega];rfl,rfl⟩,rfl,rfl,_,QYf,trivial⟩
 all_goals first|((with_reducible show _=true);(first|rfl|(simp;omega)))|(repeat' first|with_reducible refine QO ?_ ?_|exact tv|exact qRr|exact QEe h hn|refine aI ?_ ?_)
def jiX:List (Prop×Ex×JSt):=[((K2 L x).isSome=true,.ret,Yq (Kf (K2 L x))),(K2 L x=none,.exit 0,qL)]
theorem QTx(hn:L.length<=1000000000)(G:Ctx)(hrd:G.rd=none)(hG:G.n=24):Qx (mkE prog QS) G (jiH prog L x (jiX L x)) (Qk f135):=by
 refine KR (body:=QH f135 0) (QN Qb) hrd (by kernel_rfl) ?_
 refine Jt (n0:=24) (QN Qb) (by omega) (λs hs=>Qu (QN Qb) 2 G _ hrd) (λs hs=>(by decide:24<=24)) ?_ (Qe7 L x hn) (s0:=0) (Nat.zero_le _) ?_
 .rintro s e J (⟨_,_,rfl⟩|⟨_,_,rfl⟩)<;>exact(by decide:24<=24)
 .rintro e J (⟨rfl,h,rfl⟩|⟨rfl,h,rfl⟩)
  .exact⟨_,qmc,h,rfl,rfl⟩
  .exact⟨_,List.mem_cons_of_mem _ qmc,h,rfl,rfl⟩
theorem QXe(v:Int):(jiU L x v).Ok:=⟨(by decide:0<=24),rfl,rfl,λq hq=>(by cases hq),rfl,λ_ _=>rfl,λ_ _=>rfl⟩
theorem QZi(hn:L.length<=1000000000):QR prog 135 (uFC (jiU L x (Kf (K2 L x)))):=by
 refine Kw (E:=mkE prog QS) (QN Qb) func135 (by kernel_rfl) (by kernel_rfl) (QXe ..) (λG h1 h2=>QTx L x hn G h1 (by rw[h2];rfl)) ⟨?_⟩
 have et:=QUO L x ((K2 L x).isSome=true) (K2 L x=none) (Kf (K2 L x)) (Kf (K2 L x));refine Qe et ?_;clear et
 iterate 14 refine Qp (by first|exact tv|with_reducible exact qRr|exact rfl) ?_
 refine Kb ?_ ?_;refine Qf λa0=>?_;refine Qh λg0=>?_;refine⟨rfl,rfl,_,QWx L x (Kf (K2 L x)) (Kf (K2 L x)),?_⟩
 rotate_left
 refine Qf λa1=>?_;refine Qh λg1=>?_
 .refine⟨rfl,rfl,_,Qae L x (Kf (K2 L x)),?_⟩;rw[a1]
  repeat' first|exact tv|exact rfl|refine aI ?_ ?_
 all_goals (repeat' first|exact tv|exact rfl|refine aI ?_ ?_)
theorem Qc2(o:List Jn)(i:Nat)(y:Jn)(n:Nat)(hi:i<o.length):QB 4 n (λk=>bif decide (k=i)then KH [.int false .i64 y.a,.int false .i64 y.i,.int false .i64 y.b,.int false .i64 y.j] 0 (QA.enc (o.getD i (⟨0,0,0,0⟩:Jn)))else QA.enc (o.getD k (⟨0,0,0,0⟩:Jn))) λk=>QA.enc ((o.set i y).getD k (⟨0,0,0,0⟩:Jn)):=by
 intro k _
 by_cases h:k=i
 .subst h;have e:(o.set k y).getD k ⟨0,0,0,0⟩=y:=by rw[List.getD_eq_getElem?_getD,List.getElem?_set_self hi];rfl
  show eqF 4 0 _ (QA.enc ((o.set k y).getD k (⟨0,0,0,0⟩:Jn)));rw[e];simp only[decide_true,cond_true];exact⟨rfl,rfl,rfl,rfl,trivial⟩
 .have e:(o.set i y).getD k ⟨0,0,0,0⟩=o.getD k ⟨0,0,0,0⟩:=by rw[List.getD_eq_getElem?_getD,List.getD_eq_getElem?_getD,List.getElem?_set_ne (λe=>h e.symm)]
  show eqF 4 0 _ (QA.enc ((o.set i y).getD k (⟨0,0,0,0⟩:Jn)));rw[e];simp only[h,decide_false,cond_false];exact⟨rfl,rfl,rfl,rfl,trivial⟩
def QDt(n:Nat)(k:List Jn×Nat×Nat)(e:Ex)(J:JSt):Prop:=e = .exit 0/\J=dlE (Je x (n-k.2.2) k.1 k.2.1 k.2.2).1 (Je x (n-k.2.2) k.1 k.2.1 k.2.2).2
theorem QeK(n:Nat)(hn:n<=1000000000):Jf (λk:List Jn×Nat×Nat=>dlJ x k.1 k.2.1 k.2.2) (λk=>k.1.length=n/\k.2.1<k.2.2/\k.2.2<=n) (λk=>n-k.2.2) (QDt x n) 24 QPW [] (λ_=>mkE prog QS) (λ_=>hnd (mkE prog QS) 2) (QH f92 0):=by
 refine⟨λk g0 hk=>?_⟩;obtain⟨o,i,j⟩:=k;obtain⟨hlen,hij,hj⟩:=hk;simp only at hlen hij hj;have et:=QWQ x o i j g0;refine Qe et ?_;clear et;refine QF (λb0=>?_) (λb0=>?_);have h:j<n:=by have:=qdt b0;omega
 have hw:=QEe h hn;have hwi:=QEe (show i<n by omega) hn
 have hm:n-j=(n-(j+1))+1:=by omega
 iterate 2 (refine QG ?_ ?_;rotate_left)
 refine QF ?_ ?_<;>intro b1
 iterate 2 (refine QG ?_ ?_;rotate_left)
 .have hb0:(!eqJ x (atJ o j))=true:=b1;have hb:eqJ x (atJ o j)=false:=by simpa using hb0
  refine⟨(o.set i (atJ o j),i+1,j+1),⟨by rw[List.length_set];exact hlen,Nat.succ_lt_succ hij,h⟩,by show n-(j+1)<n-j;omega,λe J hr=>?_,rfl,rfl,_,QTk x o (o.set i (atJ o j)) i j (i+1) (j+1),?_⟩
  .unfold QDt at hr ⊢;simp only at hr ⊢;rw[hm,Je,hb];exact hr
  .have hl:o.length=(o.set i (atJ o j)).length:=by rw[List.length_set]
   have hs:=Qc2 o i (atJ o j) (o.set i (atJ o j)).length (by omega)
   repeat' first|with_reducible refine QO ?_ ?_|exact tv|with_reducible exact qRr|exact hw|exact hwi|exact hl|exact Nat.le_of_eq hl.symm|exact hs|exact rfl|refine aI ?_ ?_
 .have hb0:(!eqJ x (atJ o j))=false:=b1;have hb:eqJ x (atJ o j)=true:=by simpa using hb0
  refine⟨(o,i,j+1),⟨hlen,Nat.lt_succ_of_lt hij,h⟩,by show n-(j+1)<n-j;omega,λe J hr=>?_,rfl,rfl,_,QWI x o i j (j+1),?_⟩
  .unfold QDt at hr ⊢;simp only at hr ⊢;rw[hm,Je,hb];exact hr
  .repeat' first|with_reducible refine QO ?_ ?_|exact tv|with_reducible exact qRr|exact hw|exact rfl|refine aI ?_ ?_
 have h:n<=j:=by have:=qdf b0;omega
 refine⟨_,(by unfold QDt;simp only[show n-j=0 by omega,Je,and_self]),rfl,rfl,_,QWY o i,?_⟩
 rotate_left
 all_goals first|((with_reducible show _=true);(first|rfl|(simp;omega)))|(repeat' first|with_reducible refine QO ?_ ?_|exact tv|with_reducible exact qRr|exact rfl|refine aI ?_ ?_)
theorem QUJ(pb:List Prop->Bool)(L:List Jn)(x:Jn)(v:Int)(hT:Qc (jO pb L x v))(i0:Nat)(hL:L.length<=1000000000)(G:Ctx)(hrd:G.rd=none)(hG:G.n=24):Qx (mkE prog (jO pb L x v)) G (dlH prog pb L x v i0 [(True,.exit 0,dlE (Je x (L.length-(i0+1)) L i0 (i0+1)).1 (Je x (L.length-(i0+1)) L i0 (i0+1)).2)]) (Qk f92):=by
 refine KR (body:=QH f92 0) (QN hT) hrd (by kernel_rfl) ?_
 refine JK λhi=>?_;refine Jp (E0:=mkE prog (jO pb L x v)) (E:=λ_:List Jn×Nat×Nat=>mkE prog QS) (H:=λ_=>hnd (mkE prog QS) 2) (n0:=24) (s0:=(L,i0,i0+1)) (λ_=>rfl) (λ_=>QN Qb) (by omega) (λk _=>Qu (QN Qb) 2 G _ hrd) (λk _=>(by decide:24<=40)) ?_ (QeK x L.length hL) ⟨rfl,Nat.lt_succ_self _,hi⟩ ?_
 .rintro k e J ⟨_,rfl⟩;exact(by decide:24<=40)
 .rintro e J ⟨rfl,rfl⟩;exact⟨_,qmc,trivial,rfl,rfl⟩
theorem Qe8(w:List Jn):(Z4 L x w).Ok:=by
 refine⟨(by decide:0<=24),rfl,rfl,?_,rfl,λnid h=>?_,λnid h=>?_⟩
 .intro q hq;simp only[UC.po,Z4,rwJ,List.mem_cons,List.not_mem_nil,or_false]at hq;subst hq;exact⟨rfl,rfl,rfl,λh=>absurd (show 24<0 from h) (by decide)⟩
 .have e0:=KW 0 24 0 nid (by decide)
  simp only[UC.va,Z4,AV.mapId,Nat.add_zero]at e0 ⊢;rw[e0]
 .have e0:=KW 0 24 0 nid (by decide)
  simp only[UC.po,Z4,rwJ,List.map_cons,List.map_nil,Blk.mapId,Nat.add_zero]at e0 ⊢;rw[e0]
theorem QTo(o w:List Jn)(i m:Nat)(hw:o.take i=w)(hi:i<=o.length):QB 4 w.length (λk=>bif decide (0+i<=k/\k<0+i+m)then λ_=>0 else QA.enc (o.getD k (⟨0,0,0,0⟩:Jn))) λk=>QA.enc (w.getD k (⟨0,0,0,0⟩:Jn)):=by
 intro k hk;have hl:w.length=i:=by rw[<-hw,List.length_take];omega
 have e:w.getD k ⟨0,0,0,0⟩=o.getD k ⟨0,0,0,0⟩:=by
  rw[<-hw,List.getD_eq_getElem?_getD,List.getD_eq_getElem?_getD,List.getElem?_take,if_pos (by omega)]
 show eqF 4 0 _ (QA.enc (w.getD k (⟨0,0,0,0⟩:Jn)));rw[e];simp only[show decide (0+i<=k/\k<0+i+m)=false from decide_eq_false (by omega),cond_false]
 exact⟨rfl,rfl,rfl,rfl,trivial⟩
theorem QWh(hL:L.length<=1000000000):QR prog 92 (uFC (Z4 L x (Ju x L))):=by
 have hT:Qc (jO QP L x (Kf (K2 L x))):=Qb.add (QZi L x hL);refine Kw (c:=Qk f92) (E:=mkE prog (jO QP L x (Kf (K2 L x)))) (QN hT) func92 (by kernel_rfl) (by kernel_rfl) (Qe8 ..) (λG h1 h2=>QUJ QP L x _ hT ((K2 L x).getD 0) hL G h1 (by rw[h2];rfl)) ⟨?_⟩
 have et:=QVK QP L x (Kf (K2 L x)) ((K2 L x).getD 0) (Je x (L.length-((K2 L x).getD 0+1)) L ((K2 L x).getD 0) ((K2 L x).getD 0+1)).1 (Je x (L.length-((K2 L x).getD 0+1)) L ((K2 L x).getD 0) ((K2 L x).getD 0+1)).2 (Ju x L);obtain⟨q,hf⟩:∃ q,K2 L x=q:=⟨_,rfl⟩;cases q with
 | none=>
  have hv:Kf (K2 L x) = -1:=by rw[hf];rfl
  rw[QTY hf]at et ⊢;refine Qe et ?_;clear et;refine QG ?_ ?_;rotate_left;refine QF (λb0=>?_) (λb0=>?_);refine⟨rfl,rfl,_,Qd7 L x L,?_⟩
  rotate_left
  .rw[hv]at b0;cases b0
  all_goals first|((with_reducible show _=true);(first|(refine Q7.2 ?_;repeat' first|with_reducible refine QO ?_ ?_|exact tv|with_reducible exact qRr|exact rfl|refine aI ?_ ?_)|(simp;omega)))|(repeat' first|with_reducible refine QO ?_ ?_|exact tv|with_reducible exact qRr|exact rfl|refine aI ?_ ?_)
 | some i=>
  obtain⟨h1,h2,h3,h4⟩:=QX9 hf;have hv:Kf (K2 L x)=i:=by rw[hf];rfl
  have hg:(K2 L x).getD 0=i:=by rw[hf];rfl
  rw[hg]at et ⊢;generalize Je x (L.length-(i+1)) L i (i+1)=D at et h2 h3 h4 ⊢;generalize Ju x L=w at et h4 ⊢;have hw:=QEe h1 hL;have hlw:w.length=D.2:=by rw[<-h4,List.length_take];omega
  refine Qe et ?_;clear et;refine QG ?_ ?_;rotate_left;refine QF ?_ ?_<;>intro b0
  .rw[hv]at b0;simp at b0
  iterate 15 refine Qp (by first|with_reducible rfl|exact h1|exact hv|(rw[hv];exact hw)|exact qlr _|with_reducible exact qRr|exact trivial|exact rfl) ?_
  refine Qf λa0=>?_;refine Qh λg0=>?_
  iterate 3 (refine QG ?_ ?_;rotate_left)
  .refine⟨rfl,rfl,_,QWz L x D.1 D.2 w,?_⟩;have hs:=QTo D.1 w D.2 (D.1.length-D.2) h4 (by omega)
   have hle:w.length<=D.1.length:=by omega
   repeat' first|with_reducible refine QO ?_ ?_|exact tv|with_reducible exact qRr|exact hlw.symm|exact hlw|exact hle|exact hs|exact rfl|refine aI ?_ ?_
  all_goals first|(refine Q7.2 ?_;repeat' first|with_reducible refine QO ?_ ?_|exact tv|with_reducible exact qRr|exact rfl|refine aI ?_ ?_)|(simp;omega)
end Go.Proofs.YtekbmehgcofnkaaGreat
namespace Go.SX
open Go Go.RowKit Go.Proofs.YtekbmehgcofnkaaGreat
def QU3(all:List Nat)(blks:List Blk)(args:List AV):Option Jn:=match args with
 | [_,.fn _ [.ptr b _ _]]=>(match look (Vo id all blks) b with
  | some (.cells _ _ [.int _ _ a,.int _ _ i,.int _ _ c,.int _ _ j])=>some ⟨a,i,c,j⟩
  | _=>none)
 | _=>none
def QH7(F:Jn->FC):FC:=λargs nid all=>(all,λblks=>match QU3 all blks args with
 | some x=>(F x args nid all).2 blks
 | none=>none)
theorem Qfh{P:Program}{f:FuncId}{U:Jn->UC}(h:∀ x,QR P f (uFC (U x))):QR P f (QH7 λx=>KE QP (U x)):=by
 refine⟨(h ⟨0,0,0,0⟩).1,λargs nid all r w lk blks eff hH ha hv he hp=>?_⟩;simp only[QH7]at hv he;split at he<;>(try (cases he;done))
 rename_i x hx;exact(h x).2 args nid all r w lk blks eff hH ha hv he hp
end Go.SX
namespace Go.Proofs.YtekbmehgcofnkaaGreat
open Go.SX Go.SX.Told
def Qj(fn:Func):Code×Code:=match Ky (QL fn 0).2 with
 | .rangeFunc _ _ ac body::_=>(ac,body)
 | _=>(.skip,.skip)
variable (d:Puz)(M:ECt)(w0:List Jn)(l:List Lay)(ac body:Code)(S S':List Nat)(c:Nat)(f:List Jn)(R:Jn->List Jn)(g0:Nat->Value)
def mtT:List AV:=[.agg (KT d),.ptr 112 0 0,.nils,.int true .i64 0,.ptr 200 0 0,.int true .i64 0,.ptr 296 0 0,.ptr 328 0 0,.slz 496 0 l.length (.of 0),.tup [],.tup [.ptr 200 0 0,.int true .i64 0],.agg (KT d),.tup [.ptr 200 0 0,.int true .i64 0],.ptr 200 0 0,.int true .i64 0,.int true .i64 0,.bool true false,.tup [],.ptr 200 0 0,.slz 288 0 w0.length (.of 0),.ptr 200 0 0,.mth (.func 91) [.ptr 200 0 0],.ptr 200 0 0,.fn (.func 102) [.ptr 352 0 0,.ptr 360 0 0],.slz 496 0 l.length (.of 0),.mth (.func 91) [.ptr 200 0 0],.slz 496 0 l.length (.of 0),.fn (.func 133) [.ptr 696 0 0,.ptr 688 0 0],.tup [],.tup [],.tup [],.tup [],.tup [],.tup [],.tup [],.tup []]
def mtW(a:Nat)(f:List Jn):List (Nat×Blk):=[(729,.lp .ready none (mtT d w0 l) #[28] ac body),(296,.cells 0 64 [.slz a 0 f.length (.of 0)]),rwJ true a f]
def mtR:List (Nat×Blk):=[(696,.cellsR 0 42 [.slz 496 0 l.length (.of 0)]),(688,.cellsR 0 90 [.ptr 200 0 0]),QAB 496 l,(200,.cellsR 0 152 (KT d++[.map 201,.slz 496 0 l.length (.of 0)]))]++Qi.blk 0 d.ps
def mlS:List (Nat×AV):=[(0,.yld 729),(1,.ptr 696 0 0),(2,.ptr 688 0 0),(9,.slz 496 0 l.length (.of 0)),(10,.int false .i64 l.length),(11,.int false .i64 c)]
def mlJ(M:ECt)(S:List Nat)(c:Nat)(f:List Jn):JSt:=⟨83,mlS l c++[(4,.int false .i64 c),(25,.ptr 816 808 0)],[(816,.itm [.map 808] 187 M.2 S M.2),(808,.mp M.1 M.2)]++mtW d w0 l ac body 776 f++mtR d l,832⟩
def mlE:JSt:=⟨83,mlS l c,mtW d w0 l ac body 776 f++mtR d l,784⟩
def QSJ:Ex->List Nat
 | .normal=>[0,1,2,9,10,11,4,25]
 | .exit _=>[0,1,2,9,10,11]
 | .ret=>[]
def QG9(pb:List Prop->Bool)(f:List Jn)(R:Jn->List Jn):Tab:=Qa QS 92 (QH7 λx=>KE pb (Z4 f x (R x)))
abbrev Vg(w0:List Jn):Nat×Blk:=
  (729,.lp LoopState.ready none (mtT d w0 l) (Array.mk [28]) (Qj f43).1 (Qj f43).2)
abbrev qR:Nat×Blk:=
  (296,.cells 0 64 [.slz 776 0 f.length cO])
abbrev VO:Nat×Blk:=
  (200,.cellsR 0 152 (List.append (waf d) ([.map 201,.slz 496 0 l.length cO])))
abbrev VU:Nat×Blk:=
  (696,.cellsR 0 42 [.slz 496 0 l.length cO])
abbrev Va:Nat×Blk:=
  (688,.cellsR 0 90 [.ptr 200 0 0])
abbrev Vb:Nat×Blk:=
  (496,.frz kB l.length λi=>QA.enc (l.getD i (Lay.mk (0:Int) (0:Int))))
abbrev Vi:Nat×Blk:=
  (0,.frz (wae) d.ps.n λi=>QA.enc (d.ps.get i))
abbrev ZX:List CK:=
  (waG)
abbrev qZ:Nat×Blk:=
  (776,.rowz true 67 ZX f.length λi=>QA.enc (f.getD i (Jn.mk (0:Int) (0:Int) (0:Int) (0:Int))))
abbrev wba(l:List Lay):List AV:=[.ptr 696 0 0,.ptr 688 0 0,.slz 496 0 l.length cO,vi (l.length:Int)]
abbrev jm(l:List Lay):List AV:=
  (.nilp::.ptr 83 0 0::.yld 729::List.append (wba l) ([vi (c:Int),vi (c:Int),.ptr 816 808 0]))
abbrev wam(M:ECt)(S:List Nat)(g0:Nat->Value)(l:List Lay):List Prop:=[(l.getD (intV (QJ M.1 (S ++ [(M.1.getD (nxI g0) noE).3])).2).toNat (Lay.mk (0:Int) (0:Int))).piece=(l.getD (intV (QJ M.1 (S++[(M.1.getD (nxI g0) noE).3])).2).toNat (Lay.mk (0:Int) (0:Int))).piece,onS (l.getD (intV (QJ M.1 (S++[(M.1.getD (nxI g0) noE).3])).2).toNat (Lay.mk (0:Int) (0:Int))) ((i64.wrap (QQ (QJ M.1 (S++[(M.1.getD (nxI g0) noE).3])) 0+2)).tmod (4:Int))=onS (l.getD (intV (QJ M.1 (S++[(M.1.getD (nxI g0) noE).3])).2).toNat (Lay.mk (0:Int) (0:Int))) ((i64.wrap (QQ (QJ M.1 (S ++ [(M.1.getD (nxI g0) noE).3])) 0+2)).tmod (4:Int))]
abbrev wcj(f:List Jn):List Prop:=[0=0,f.length=f.length,cO=cO,Fn.func 93=Fn.func 93,0=0,0=0]
theorem QUq(pb:List Prop->Bool)(d:Puz)(w0:List Jn)(l:List Lay)(M:ECt)(S:List Nat)(c:Nat)(f:List Jn)(R:Jn->List Jn)(g:Nat->Value):exec (mkE prog (QG9 pb f R)) (hnd (mkE prog (QG9 pb f R)) 3) (QY (QH f133 0)) (JSt.inst (mlJ d w0 l (Qj f43).1 (Qj f43).2 M S c f) g) (Q8 [729,296,200] QSJ) = .ask (Hh M.1 M.2 M.2) (.both (.asm (ZL M.1 S) (.leaf (.tup [.ptr 2 0 0,.ptr 83 0 0,.yld 729,.ptr 696 0 0,.ptr 688 0 0,.slz 496 0 l.length cO,vi (l.length:Int),vi (c:Int)]) ([(Vg d l w0),(qR f),(VO d l),(VU l),Va,(Vb l),(Vi d),(qZ f)]))) (.all (λ(g0:Nat->Value)=>.asm (za M.1 S (nxI g0)) (.need (decide (M.2=M.2)&&Xf M.1 (S++[(M.1.getD (nxI g0) noE).3])&&wf1 i64 i64 M.1) (.br (QQ (QJ M.1 (S ++ [(M.1.getD (nxI g0) noE).3])) 0==1) (.need (!decide (d.wide=0)) (.br ((intV (QJ M.1 (S++[(M.1.getD (nxI g0) noE).3])).2).tmod d.wide==0) (.leaf (.tup (jm c l)) ([(Vg d l w0),(qR f),(VO d l),(VU l),Va,(Vb l),(816,.itm [.map 808] 187 M.2 (S++[(M.fst.getD (nxI g0) noE).born]) M.2),(Vi d),(qZ f),(808,.mp M.1 M.2)])) (.br (decide (intV (QJ M.1 (S++[(M.1.getD (nxI g0) noE).3])).2≥(l.length:Int))) (.leaf (.tup (jm c l)) ([(Vg d l w0),(qR f),(VO d l),(VU l),Va, (Vb l),(816,.itm [.map 808] 187 M.2 (S++[(M.fst.getD (nxI g0) noE).born]) M.2),(Vi d),(qZ f),(808,.mp M.1 M.2)])) (.need (decide ((0:Int)<=(c:Int)/\(c:Int)<(l.length:Int))&&decide (l.length<=l.length)) (.need (decide (c<l.length)) (.need (true&&(true&&true)&&decide (((0:Int)<=(l.getD c (Lay.mk (0:Int) (0:Int))).turn/\(l.getD c (Lay.mk (0:Int) (0:Int))).turn<=3)/\(0:Int)<=QQ (QJ M.1 (S++[(M.1.getD (nxI g0) noE).3])) 0/\QQ (QJ M.1 (S++[(M.1.getD (nxI g0) noE).3])) 0<=3)) (.need (decide ((0:Int)<=intV (QJ M.1 (S++[(M.1.getD (nxI g0) noE).3])).2/\intV (QJ M.1 (S++[(M.1.getD (nxI g0) noE).3])).2<(l.length:Int))&&decide (l.length<=l.length)) (.need (decide ((intV (QJ M.1 (S++[(M.1.getD (nxI g0) noE).3])).2).toNat<l.length)) (.need (true&&(true&&true)&&decide (((0:Int)<=(l.getD (intV (QJ M.1 (S++[(M.1.getD (nxI g0) noE).3])).2).toNat (Lay.mk (0:Int) (0:Int))).turn/\(l.getD (intV (QJ M.1 (S++[(M.1.getD (nxI g0) noE).3])).2).toNat (Lay.mk (0:Int) (0:Int))).turn<=3)/\(0:Int)<=(i64.wrap (QQ (QJ M.1 (S++[(M.1.getD (nxI g0) noE).3])) 0+2)).tmod (4:Int)/\(i64.wrap (QQ (QJ M.1 (S++[(M.1.getD (nxI g0) noE).3])) 0+2)).tmod (4:Int)<=3)) (.br (decide ((l.getD (intV (QJ M.1 (S++[(M.1.getD (nxI g0) noE).3])).2).toNat (Lay.mk (0:Int) (0:Int))).piece<(l.getD c (Lay.mk (0:Int) (0:Int))).piece)) (.need (pb ([0=0,f.length=f.length,cO=cO,Fn.func 93=Fn.func 93,0=0,0=0,f.length<=f.length,QB 4 f.length (λi=>QA.enc (f.getD i (Jn.mk (0:Int) (0:Int) (0:Int) (0:Int)))) λi=>QA.enc (f.getD i (Jn.mk (0:Int) (0:Int) (0:Int) (0:Int))),(l.getD (intV (QJ M.1 (S ++ [(M.1.getD (nxI g0) noE).3])).2).toNat (Lay.mk (0:Int) (0:Int))).piece=(l.getD (intV (QJ M.1 (S++[(M.1.getD (nxI g0) noE).3])).2).toNat (Lay.mk (0:Int) (0:Int))).piece,onS (l.getD (intV (QJ M.1 (S++[(M.1.getD (nxI g0) noE).3])).2).toNat (Lay.mk (0:Int) (0:Int))) ((i64.wrap (QQ (QJ M.1 (S++[(M.1.getD (nxI g0) noE).3])) 0+2)).tmod (4:Int))=onS (l.getD (intV (QJ M.1 (S++[(M.1.getD (nxI g0) noE).3])).2).toNat (Lay.mk (0:Int) (0:Int))) ((i64.wrap (QQ (QJ M.1 (S ++ [(M.1.getD (nxI g0) noE).3])) 0+2)).tmod (4:Int)),(l.getD c (Lay.mk (0:Int) (0:Int))).piece=(l.getD c (Lay.mk (0:Int) (0:Int))).piece,onS (l.getD c (Lay.mk (0:Int) (0:Int))) (QQ (QJ M.1 (S++[(M.1.getD (nxI g0) noE).3])) 0)=onS (l.getD c (Lay.mk (0:Int) (0:Int))) (QQ (QJ M.1 (S++[(M.1.getD (nxI g0) noE).3])) 0)])) (.leaf (.tup (jm c l)) ([(Vg d l w0),(296,.cells 0 64 [.slz 1360 0 (R (Jn.mk (Lay.mk ((λi=>QA.enc (l.getD i (Lay.mk (0:Int) (0:Int)))) ((intV (QJ M.fst (S ++ [(M.fst.getD (nxI g0) noE).born])).val).toNat+0) 0) ((λi=>QA.enc (l.getD i (Lay.mk (0:Int) (0:Int)))) ((intV (QJ M.fst (S++[(M.fst.getD (nxI g0) noE).born])).val).toNat+0) (0+1))).piece (onS (Lay.mk ((λi=>QA.enc (l.getD i (Lay.mk (0:Int) (0:Int)))) ((intV (QJ M.fst (S++[(M.fst.getD (nxI g0) noE).born])).val).toNat+0) 0) ((λi=>QA.enc (l.getD i (Lay.mk (0:Int) (0:Int)))) ((intV (QJ M.fst (S++[(M.fst.getD (nxI g0) noE).born])).val).toNat+0) (0+1))) ((i64.wrap (QQ (QJ M.fst (S++[(M.fst.getD (nxI g0) noE).born])) 0+2)).tmod (4:Int))) (Lay.mk ((λi=>QA.enc (l.getD i (Lay.mk (0:Int) (0:Int)))) ((c:Int).toNat+0) 0) ((λi=>QA.enc (l.getD i (Lay.mk (0:Int) (0:Int)))) ((c:Int).toNat+0) (0+1))).piece (onS (Lay.mk ((λi=>QA.enc (l.getD i (Lay.mk (0:Int) (0:Int)))) ((c:Int).toNat+0) 0) ((λi=>QA.enc (l.getD i (Lay.mk (0:Int) (0:Int)))) ((c:Int).toNat+0) (0+1))) (QQ (QJ M.fst (S++[(M.fst.getD (nxI g0) noE).born])) 0)))).length cO]),(VO d l),(VU l),Va,(Vb l),(816,.itm [.map 808] 187 M.2 (S++[(M.fst.getD (nxI g0) noE).born]) M.2),(Vi d),(1360,.rowz true 67 ZX (R (Jn.mk (Lay.mk ((λi=>QA.enc (l.getD i (Lay.mk (0:Int) (0:Int)))) ((intV (QJ M.fst (S++[(M.fst.getD (nxI g0) noE).born])).val).toNat+0) 0) ((λi=>QA.enc (l.getD i (Lay.mk (0:Int) (0:Int)))) ((intV (QJ M.fst (S++[(M.fst.getD (nxI g0) noE).born])).val).toNat+0) (0+1))).piece (onS (Lay.mk ((λi=>QA.enc (l.getD i (Lay.mk (0:Int) (0:Int)))) ((intV (QJ M.fst (S++[(M.fst.getD (nxI g0) noE).born])).val).toNat+0) 0) ((λi=>QA.enc (l.getD i (Lay.mk (0:Int) (0:Int)))) ((intV (QJ M.fst (S++[(M.fst.getD (nxI g0) noE).born])).val).toNat+0) (0+1))) ((i64.wrap (QQ (QJ M.fst (S++[(M.fst.getD (nxI g0) noE).born])) 0+2)).tmod (4:Int))) (Lay.mk ((λi=>QA.enc (l.getD i (Lay.mk (0:Int) (0:Int)))) ((c:Int).toNat+0) 0) ((λi=>QA.enc (l.getD i (Lay.mk (0:Int) (0:Int)))) ((c:Int).toNat+0) (0+1))).piece (onS (Lay.mk ((λi=>QA.enc (l.getD i (Lay.mk (0:Int) (0:Int)))) ((c:Int).toNat+0) 0) ((λi=>QA.enc (l.getD i (Lay.mk (0:Int) (0:Int)))) ((c:Int).toNat+0) (0+1))) (QQ (QJ M.fst (S++[(M.fst.getD (nxI g0) noE).born])) 0)))).length λi=>QA.enc ((R (Jn.mk (Lay.mk ((λi=>QA.enc (l.getD i (Lay.mk (0:Int) (0:Int)))) ((intV (QJ M.fst (S++[(M.fst.getD (nxI g0) noE).born])).val).toNat+0) 0) ((λi=>QA.enc (l.getD i (Lay.mk (0:Int) (0:Int)))) ((intV (QJ M.fst (S ++ [(M.fst.getD (nxI g0) noE).born])).val).toNat+0) (0+1))).piece (onS (Lay.mk ((λi=>QA.enc (l.getD i (Lay.mk (0:Int) (0:Int)))) ((intV (QJ M.fst (S++[(M.fst.getD (nxI g0) noE).born])).val).toNat+0) 0) ((λi=>QA.enc (l.getD i (Lay.mk (0:Int) (0:Int)))) ((intV (QJ M.fst (S++[(M.fst.getD (nxI g0) noE).born])).val).toNat+0) (0+1))) ((i64.wrap (QQ (QJ M.fst (S++[(M.fst.getD (nxI g0) noE).born])) 0+2)).tmod (4:Int))) (Lay.mk ((λi=>QA.enc (l.getD i (Lay.mk (0:Int) (0:Int)))) ((c:Int).toNat+0) 0) ((λi=>QA.enc (l.getD i (Lay.mk (0:Int) (0:Int)))) ((c:Int).toNat+0) (0+1))).piece (onS (Lay.mk ((λi=>QA.enc (l.getD i (Lay.mk (0:Int) (0:Int)))) ((c:Int).toNat+0) 0) ((λi=>QA.enc (l.getD i (Lay.mk (0:Int) (0:Int)))) ((c:Int).toNat+0) (0+1))) (QQ (QJ M.fst (S++[(M.fst.getD (nxI g0) noE).born])) 0)))).getD i (Jn.mk (0:Int) (0:Int) (0:Int) (0:Int)))),(808,.mp M.1 M.2)]))) (.need (pb ([0=0,f.length=f.length,cO=cO,Fn.func 93=Fn.func 93,0=0,0=0,f.length<=f.length,QB 4 f.length (λi=>QA.enc (f.getD i (Jn.mk (0:Int) (0:Int) (0:Int) (0:Int)))) λi=>QA.enc (f.getD i (Jn.mk (0:Int) (0:Int) (0:Int) (0:Int))),(l.getD c (Lay.mk (0:Int) (0:Int))).piece=(l.getD c (Lay.mk (0:Int) (0:Int))).piece,onS (l.getD c (Lay.mk (0:Int) (0:Int))) (QQ (QJ M.1 (S++[(M.1.getD (nxI g0) noE).3])) 0)=onS (l.getD c (Lay.mk (0:Int) (0:Int))) (QQ (QJ M.1 (S++[(M.1.getD (nxI g0) noE).3])) 0),(l.getD (intV (QJ M.1 (S++[(M.1.getD (nxI g0) noE).3])).2).toNat (Lay.mk (0:Int) (0:Int))).piece=(l.getD (intV (QJ M.1 (S++[(M.1.getD (nxI g0) noE).3])).2).toNat (Lay.mk (0:Int) (0:Int))).piece,onS (l.getD (intV (QJ M.1 (S++[(M.1.getD (nxI g0) noE).3])).2).toNat (Lay.mk (0:Int) (0:Int))) ((i64.wrap (QQ (QJ M.1 (S++[(M.1.getD (nxI g0) noE).3])) 0+2)).tmod (4:Int))=onS (l.getD (intV (QJ M.1 (S++[(M.1.getD (nxI g0) noE).3])).2).toNat (Lay.mk (0:Int) (0:Int))) ((i64.wrap (QQ (QJ M.1 (S ++ [(M.1.getD (nxI g0) noE).3])) 0+2)).tmod (4:Int))])) (.leaf (.tup (jm c l)) ([(Vg d l w0),(296,.cells 0 64 [.slz 1328 0 (R (Jn.mk (Lay.mk ((λi=>QA.enc (l.getD i (Lay.mk (0:Int) (0:Int)))) ((c:Int).toNat+0) 0) ((λi=>QA.enc (l.getD i (Lay.mk (0:Int) (0:Int)))) ((c:Int).toNat+0) (0+1))).piece (onS (Lay.mk ((λi=>QA.enc (l.getD i (Lay.mk (0:Int) (0:Int)))) ((c:Int).toNat+0) 0) ((λi=>QA.enc (l.getD i (Lay.mk (0:Int) (0:Int)))) ((c:Int).toNat+0) (0+1))) (QQ (QJ M.fst (S++[(M.fst.getD (nxI g0) noE).born])) 0)) (Lay.mk ((λi=>QA.enc (l.getD i (Lay.mk (0:Int) (0:Int)))) ((intV (QJ M.fst (S++[(M.fst.getD (nxI g0) noE).born])).val).toNat+0) 0) ((λi=>QA.enc (l.getD i (Lay.mk (0:Int) (0:Int)))) ((intV (QJ M.fst (S++[(M.fst.getD (nxI g0) noE).born])).val).toNat+0) (0+1))).piece (onS (Lay.mk ((λi=>QA.enc (l.getD i (Lay.mk (0:Int) (0:Int)))) ((intV (QJ M.fst (S++[(M.fst.getD (nxI g0) noE).born])).val).toNat+0) 0) ((λi=>QA.enc (l.getD i (Lay.mk (0:Int) (0:Int)))) ((intV (QJ M.fst (S++[(M.fst.getD (nxI g0) noE).born])).val).toNat+0) (0+1))) ((i64.wrap (QQ (QJ M.fst (S ++ [(M.fst.getD (nxI g0) noE).born])) 0+2)).tmod (4:Int))))).length cO]),(VO d l),(VU l),Va,(Vb l),(816,.itm [.map 808] 187 M.2 (S++[(M.fst.getD (nxI g0) noE).born]) M.2),(Vi d),(1328,.rowz true 67 ZX (R (Jn.mk (Lay.mk ((λi=>QA.enc (l.getD i (Lay.mk (0:Int) (0:Int)))) ((c:Int).toNat+0) 0) ((λi=>QA.enc (l.getD i (Lay.mk (0:Int) (0:Int)))) ((c:Int).toNat+0) (0+1))).piece (onS (Lay.mk ((λi=>QA.enc (l.getD i (Lay.mk (0:Int) (0:Int)))) ((c:Int).toNat+0) 0) ((λi=>QA.enc (l.getD i (Lay.mk (0:Int) (0:Int)))) ((c:Int).toNat+0) (0+1))) (QQ (QJ M.fst (S++[(M.fst.getD (nxI g0) noE).born])) 0)) (Lay.mk ((λi=>QA.enc (l.getD i (Lay.mk (0:Int) (0:Int)))) ((intV (QJ M.fst (S++[(M.fst.getD (nxI g0) noE).born])).val).toNat+0) 0) ((λi=>QA.enc (l.getD i (Lay.mk (0:Int) (0:Int)))) ((intV (QJ M.fst (S++[(M.fst.getD (nxI g0) noE).born])).val).toNat+0) (0+1))).piece (onS (Lay.mk ((λi=>QA.enc (l.getD i (Lay.mk (0:Int) (0:Int)))) ((intV (QJ M.fst (S++[(M.fst.getD (nxI g0) noE).born])).val).toNat+0) 0) ((λi=>QA.enc (l.getD i (Lay.mk (0:Int) (0:Int)))) ((intV (QJ M.fst (S++[(M.fst.getD (nxI g0) noE).born])).val).toNat+0) (0+1))) ((i64.wrap (QQ (QJ M.fst (S++[(M.fst.getD (nxI g0) noE).born])) 0+2)).tmod (4:Int))))).length λi=>QA.enc ((R (Jn.mk (Lay.mk ((λi=>QA.enc (l.getD i (Lay.mk (0:Int) (0:Int)))) ((c:Int).toNat+0) 0) ((λi=>QA.enc (l.getD i (Lay.mk (0:Int) (0:Int)))) ((c:Int).toNat+0) (0+1))).piece (onS (Lay.mk ((λi=>QA.enc (l.getD i (Lay.mk (0:Int) (0:Int)))) ((c:Int).toNat+0) 0) ((λi=>QA.enc (l.getD i (Lay.mk (0:Int) (0:Int)))) ((c:Int).toNat+0) (0+1))) (QQ (QJ M.fst (S++[(M.fst.getD (nxI g0) noE).born])) 0)) (Lay.mk ((λi=>QA.enc (l.getD i (Lay.mk (0:Int) (0:Int)))) ((intV (QJ M.fst (S ++ [(M.fst.getD (nxI g0) noE).born])).val).toNat+0) 0) ((λi=>QA.enc (l.getD i (Lay.mk (0:Int) (0:Int)))) ((intV (QJ M.fst (S++[(M.fst.getD (nxI g0) noE).born])).val).toNat+0) (0+1))).piece (onS (Lay.mk ((λi=>QA.enc (l.getD i (Lay.mk (0:Int) (0:Int)))) ((intV (QJ M.fst (S++[(M.fst.getD (nxI g0) noE).born])).val).toNat+0) 0) ((λi=>QA.enc (l.getD i (Lay.mk (0:Int) (0:Int)))) ((intV (QJ M.fst (S++[(M.fst.getD (nxI g0) noE).born])).val).toNat+0) (0+1))) ((i64.wrap (QQ (QJ M.fst (S++[(M.fst.getD (nxI g0) noE).born])) 0+2)).tmod (4:Int))))).getD i (Jn.mk (0:Int) (0:Int) (0:Int) (0:Int)))),(808,.mp M.1 M.2)]))))))))))))) (.br (decide (intV (QJ M.1 (S++[(M.1.getD (nxI g0) noE).3])).2≥(l.length:Int))) (.leaf (.tup (jm c l)) ([(Vg d l w0),(qR f),(VO d l),(VU l),Va,(Vb l),(816,.itm [.map 808] 187 M.2 (S++[(M.fst.getD (nxI g0) noE).born]) M.2),(Vi d),(qZ f),(808,.mp M.1 M.2)])) (.need (decide ((0:Int)<=(c:Int)/\(c:Int)<(l.length:Int))&&decide (l.length<=l.length)) (.need (decide (c<l.length)) (.need (true&&(true&&true)&&decide (((0:Int)<=(l.getD c (Lay.mk (0:Int) (0:Int))).turn/\(l.getD c (Lay.mk (0:Int) (0:Int))).turn<=3)/\(0:Int)<=QQ (QJ M.1 (S++[(M.1.getD (nxI g0) noE).3])) 0/\QQ (QJ M.1 (S++[(M.1.getD (nxI g0) noE).3])) 0<=3)) (.need (decide ((0:Int)<=intV (QJ M.1 (S++[(M.1.getD (nxI g0) noE).3])).2/\intV (QJ M.1 (S++[(M.1.getD (nxI g0) noE).3])).2<(l.length:Int))&&decide (l.length<=l.length)) (.need (decide ((intV (QJ M.1 (S++[(M.1.getD (nxI g0) noE).3])).2).toNat<l.length)) (.need (true&&(true&&true)&&decide (((0:Int)<=(l.getD (intV (QJ M.1 (S++[(M.1.getD (nxI g0) noE).3])).2).toNat (Lay.mk (0:Int) (0:Int))).turn/\(l.getD (intV (QJ M.1 (S++[(M.1.getD (nxI g0) noE).3])).2).toNat (Lay.mk (0:Int) (0:Int))).turn<=3)/\(0:Int)<=(i64.wrap (QQ (QJ M.1 (S++[(M.1.getD (nxI g0) noE).3])) 0+2)).tmod (4:Int)/\(i64.wrap (QQ (QJ M.1 (S++[(M.1.getD (nxI g0) noE).3])) 0+2)).tmod (4:Int)<=3)) (.br (decide ((l.getD (intV (QJ M.1 (S++[(M.1.getD (nxI g0) noE).3])).2).toNat (Lay.mk (0:Int) (0:Int))).piece<(l.getD c (Lay.mk (0:Int) (0:Int))).piece)) (.need (pb ([0=0,f.length=f.length,cO=cO,Fn.func 93=Fn.func 93,0=0,0=0,f.length<=f.length,QB 4 f.length (λi=>QA.enc (f.getD i (Jn.mk (0:Int) (0:Int) (0:Int) (0:Int)))) λi=>QA.enc (f.getD i (Jn.mk (0:Int) (0:Int) (0:Int) (0:Int))),(l.getD (intV (QJ M.1 (S++[(M.1.getD (nxI g0) noE).3])).2).toNat (Lay.mk (0:Int) (0:Int))).piece=(l.getD (intV (QJ M.1 (S++[(M.1.getD (nxI g0) noE).3])).2).toNat (Lay.mk (0:Int) (0:Int))).piece,onS (l.getD (intV (QJ M.1 (S++[(M.1.getD (nxI g0) noE).3])).2).toNat (Lay.mk (0:Int) (0:Int))) ((i64.wrap (QQ (QJ M.1 (S++[(M.1.getD (nxI g0) noE).3])) 0+2)).tmod (4:Int))=onS (l.getD (intV (QJ M.1 (S++[(M.1.getD (nxI g0) noE).3])).2).toNat (Lay.mk (0:Int) (0:Int))) ((i64.wrap (QQ (QJ M.1 (S++[(M.1.getD (nxI g0) noE).3])) 0+2)).tmod (4:Int)),(l.getD c (Lay.mk (0:Int) (0:Int))).piece=(l.getD c (Lay.mk (0:Int) (0:Int))).piece,onS (l.getD c (Lay.mk (0:Int) (0:Int))) (QQ (QJ M.1 (S++[(M.1.getD (nxI g0) noE).3])) 0)=onS (l.getD c (Lay.mk (0:Int) (0:Int))) (QQ (QJ M.1 (S ++ [(M.1.getD (nxI g0) noE).3])) 0)])) (.leaf (.tup (jm c l)) ([(Vg d l w0),(296,.cells 0 64 [.slz 1296 0 (R (Jn.mk (Lay.mk ((λi=>QA.enc (l.getD i (Lay.mk (0:Int) (0:Int)))) ((intV (QJ M.fst (S++[(M.fst.getD (nxI g0) noE).born])).val).toNat+0) 0) ((λi=>QA.enc (l.getD i (Lay.mk (0:Int) (0:Int)))) ((intV (QJ M.fst (S ++ [(M.fst.getD (nxI g0) noE).born])).val).toNat+0) (0+1))).piece (onS (Lay.mk ((λi=>QA.enc (l.getD i (Lay.mk (0:Int) (0:Int)))) ((intV (QJ M.fst (S++[(M.fst.getD (nxI g0) noE).born])).val).toNat+0) 0) ((λi=>QA.enc (l.getD i (Lay.mk (0:Int) (0:Int)))) ((intV (QJ M.fst (S++[(M.fst.getD (nxI g0) noE).born])).val).toNat+0) (0+1))) ((i64.wrap (QQ (QJ M.fst (S++[(M.fst.getD (nxI g0) noE).born])) 0+2)).tmod (4:Int))) (Lay.mk ((λi=>QA.enc (l.getD i (Lay.mk (0:Int) (0:Int)))) ((c:Int).toNat+0) 0) ((λi=>QA.enc (l.getD i (Lay.mk (0:Int) (0:Int)))) ((c:Int).toNat+0) (0+1))).piece (onS (Lay.mk ((λi=>QA.enc (l.getD i (Lay.mk (0:Int) (0:Int)))) ((c:Int).toNat+0) 0) ((λi=>QA.enc (l.getD i (Lay.mk (0:Int) (0:Int)))) ((c:Int).toNat+0) (0+1))) (QQ (QJ M.fst (S++[(M.fst.getD (nxI g0) noE).born])) 0)))).length cO]),(VO d l),(VU l),Va,(Vb l),(816,.itm [.map 808] 187 M.2 (S++[(M.fst.getD (nxI g0) noE).born]) M.2),(Vi d),(1296,.rowz true 67 ZX (R (Jn.mk (Lay.mk ((λi=>QA.enc (l.getD i (Lay.mk (0:Int) (0:Int)))) ((intV (QJ M.fst (S++[(M.fst.getD (nxI g0) noE).born])).val).toNat+0) 0) ((λi=>QA.enc (l.getD i (Lay.mk (0:Int) (0:Int)))) ((intV (QJ M.fst (S++[(M.fst.getD (nxI g0) noE).born])).val).toNat+0) (0+1))).piece (onS (Lay.mk ((λi=>QA.enc (l.getD i (Lay.mk (0:Int) (0:Int)))) ((intV (QJ M.fst (S++[(M.fst.getD (nxI g0) noE).born])).val).toNat+0) 0) ((λi=>QA.enc (l.getD i (Lay.mk (0:Int) (0:Int)))) ((intV (QJ M.fst (S++[(M.fst.getD (nxI g0) noE).born])).val).toNat+0) (0+1))) ((i64.wrap (QQ (QJ M.fst (S++[(M.fst.getD (nxI g0) noE).born])) 0+2)).tmod (4:Int))) (Lay.mk ((λi=>QA.enc (l.getD i (Lay.mk (0:Int) (0:Int)))) ((c:Int).toNat+0) 0) ((λi=>QA.enc (l.getD i (Lay.mk (0:Int) (0:Int)))) ((c:Int).toNat+0) (0+1))).piece (onS (Lay.mk ((λi=>QA.enc (l.getD i (Lay.mk (0:Int) (0:Int)))) ((c:Int).toNat+0) 0) ((λi=>QA.enc (l.getD i (Lay.mk (0:Int) (0:Int)))) ((c:Int).toNat+0) (0+1))) (QQ (QJ M.fst (S++[(M.fst.getD (nxI g0) noE).born])) 0)))).length λi=>QA.enc ((R (Jn.mk (Lay.mk ((λi=>QA.enc (l.getD i (Lay.mk (0:Int) (0:Int)))) ((intV (QJ M.fst (S++[(M.fst.getD (nxI g0) noE).born])).val).toNat+0) 0) ((λi=>QA.enc (l.getD i (Lay.mk (0:Int) (0:Int)))) ((intV (QJ M.fst (S ++ [(M.fst.getD (nxI g0) noE).born])).val).toNat+0) (0+1))).piece (onS (Lay.mk ((λi=>QA.enc (l.getD i (Lay.mk (0:Int) (0:Int)))) ((intV (QJ M.fst (S++[(M.fst.getD (nxI g0) noE).born])).val).toNat+0) 0) ((λi=>QA.enc (l.getD i (Lay.mk (0:Int) (0:Int)))) ((intV (QJ M.fst (S++[(M.fst.getD (nxI g0) noE).born])).val).toNat+0) (0+1))) ((i64.wrap (QQ (QJ M.fst (S++[(M.fst.getD (nxI g0) noE).born])) 0+2)).tmod (4:Int))) (Lay.mk ((λi=>QA.enc (l.getD i (Lay.mk (0:Int) (0:Int)))) ((c:Int).toNat+0) 0) ((λi=>QA.enc (l.getD i (Lay.mk (0:Int) (0:Int)))) ((c:Int).toNat+0) (0+1))).piece (onS (Lay.mk ((λi=>QA.enc (l.getD i (Lay.mk (0:Int) (0:Int)))) ((c:Int).toNat+0) 0) ((λi=>QA.enc (l.getD i (Lay.mk (0:Int) (0:Int)))) ((c:Int).toNat+0) (0+1))) (QQ (QJ M.fst (S++[(M.fst.getD (nxI g0) noE).born])) 0)))).getD i (Jn.mk (0:Int) (0:Int) (0:Int) (0:Int)))),(808,.mp M.1 M.2)]))) (.need (pb ([0=0,f.length=f.length,cO=cO,Fn.func 93=Fn.func 93,0=0,0=0,f.length<=f.length,QB 4 f.length (λi=>QA.enc (f.getD i (Jn.mk (0:Int) (0:Int) (0:Int) (0:Int)))) λi=>QA.enc (f.getD i (Jn.mk (0:Int) (0:Int) (0:Int) (0:Int))),(l.getD c (Lay.mk (0:Int) (0:Int))).piece=(l.getD c (Lay.mk (0:Int) (0:Int))).piece,onS (l.getD c (Lay.mk (0:Int) (0:Int))) (QQ (QJ M.1 (S++[(M.1.getD (nxI g0) noE).3])) 0)=onS (l.getD c (Lay.mk (0:Int) (0:Int))) (QQ (QJ M.1 (S++[(M.1.getD (nxI g0) noE).3])) 0),(l.getD (intV (QJ M.1 (S++[(M.1.getD (nxI g0) noE).3])).2).toNat (Lay.mk (0:Int) (0:Int))).piece=(l.getD (intV (QJ M.1 (S++[(M.1.getD (nxI g0) noE).3])).2).toNat (Lay.mk (0:Int) (0:Int))).piece,onS (l.getD (intV (QJ M.1 (S++[(M.1.getD (nxI g0) noE).3])).2).toNat (Lay.mk (0:Int) (0:Int))) ((i64.wrap (QQ (QJ M.1 (S++[(M.1.getD (nxI g0) noE).3])) 0+2)).tmod (4:Int))=onS (l.getD (intV (QJ M.1 (S++[(M.1.getD (nxI g0) noE).3])).2).toNat (Lay.mk (0:Int) (0:Int))) ((i64.wrap (QQ (QJ M.1 (S ++ [(M.1.getD (nxI g0) noE).3])) 0+2)).tmod (4:Int))])) (.leaf (.tup (jm c l)) ([(Vg d l w0),(296,.cells 0 64 [.slz 1264 0 (R (Jn.mk (Lay.mk ((λi=>QA.enc (l.getD i (Lay.mk (0:Int) (0:Int)))) ((c:Int).toNat+0) 0) ((λi=>QA.enc (l.getD i (Lay.mk (0:Int) (0:Int)))) ((c:Int).toNat+0) (0+1))).piece (onS (Lay.mk ((λi=>QA.enc (l.getD i (Lay.mk (0:Int) (0:Int)))) ((c:Int).toNat+0) 0) ((λi=>QA.enc (l.getD i (Lay.mk (0:Int) (0:Int)))) ((c:Int).toNat+0) (0+1))) (QQ (QJ M.fst (S++[(M.fst.getD (nxI g0) noE).born])) 0)) (Lay.mk ((λi=>QA.enc (l.getD i (Lay.mk (0:Int) (0:Int)))) ((intV (QJ M.fst (S++[(M.fst.getD (nxI g0) noE).born])).val).toNat+0) 0) ((λi=>QA.enc (l.getD i (Lay.mk (0:Int) (0:Int)))) ((intV (QJ M.fst (S++[(M.fst.getD (nxI g0) noE).born])).val).toNat+0) (0+1))).piece (onS (Lay.mk ((λi=>QA.enc (l.getD i (Lay.mk (0:Int) (0:Int)))) ((intV (QJ M.fst (S++[(M.fst.getD (nxI g0) noE).born])).val).toNat+0) 0) ((λi=>QA.enc (l.getD i (Lay.mk (0:Int) (0:Int)))) ((intV (QJ M.fst (S++[(M.fst.getD (nxI g0) noE).born])).val).toNat+0) (0+1))) ((i64.wrap (QQ (QJ M.fst (S ++ [(M.fst.getD (nxI g0) noE).born])) 0+2)).tmod (4:Int))))).length cO]),(VO d l),(VU l),Va,(Vb l),(816,.itm [.map 808] 187 M.2 (S++[(M.fst.getD (nxI g0) noE).born]) M.2),(Vi d),(1264,.rowz true 67 ZX (R (Jn.mk (Lay.mk ((λi=>QA.enc (l.getD i (Lay.mk (0:Int) (0:Int)))) ((c:Int).toNat+0) 0) ((λi=>QA.enc (l.getD i (Lay.mk (0:Int) (0:Int)))) ((c:Int).toNat+0) (0+1))).piece (onS (Lay.mk ((λi=>QA.enc (l.getD i (Lay.mk (0:Int) (0:Int)))) ((c:Int).toNat+0) 0) ((λi=>QA.enc (l.getD i (Lay.mk (0:Int) (0:Int)))) ((c:Int).toNat+0) (0+1))) (QQ (QJ M.fst (S++[(M.fst.getD (nxI g0) noE).born])) 0)) (Lay.mk ((λi=>QA.enc (l.getD i (Lay.mk (0:Int) (0:Int)))) ((intV (QJ M.fst (S++[(M.fst.getD (nxI g0) noE).born])).val).toNat+0) 0) ((λi=>QA.enc (l.getD i (Lay.mk (0:Int) (0:Int)))) ((intV (QJ M.fst (S++[(M.fst.getD (nxI g0) noE).born])).val).toNat+0) (0+1))).piece (onS (Lay.mk ((λi=>QA.enc (l.getD i (Lay.mk (0:Int) (0:Int)))) ((intV (QJ M.fst (S++[(M.fst.getD (nxI g0) noE).born])).val).toNat+0) 0) ((λi=>QA.enc (l.getD i (Lay.mk (0:Int) (0:Int)))) ((intV (QJ M.fst (S++[(M.fst.getD (nxI g0) noE).born])).val).toNat+0) (0+1))) ((i64.wrap (QQ (QJ M.fst (S++[(M.fst.getD (nxI g0) noE).born])) 0+2)).tmod (4:Int))))).length λi=>QA.enc ((R (Jn.mk (Lay.mk ((λi=>QA.enc (l.getD i (Lay.mk (0:Int) (0:Int)))) ((c:Int).toNat+0) 0) ((λi=>QA.enc (l.getD i (Lay.mk (0:Int) (0:Int)))) ((c:Int).toNat+0) (0+1))).piece (onS (Lay.mk ((λi=>QA.enc (l.getD i (Lay.mk (0:Int) (0:Int)))) ((c:Int).toNat+0) 0) ((λi=>QA.enc (l.getD i (Lay.mk (0:Int) (0:Int)))) ((c:Int).toNat+0) (0+1))) (QQ (QJ M.fst (S++[(M.fst.getD (nxI g0) noE).born])) 0)) (Lay.mk ((λi=>QA.enc (l.getD i (Lay.mk (0:Int) (0:Int)))) ((intV (QJ M.fst (S ++ [(M.fst.getD (nxI g0) noE).born])).val).toNat+0) 0) ((λi=>QA.enc (l.getD i (Lay.mk (0:Int) (0:Int)))) ((intV (QJ M.fst (S++[(M.fst.getD (nxI g0) noE).born])).val).toNat+0) (0+1))).piece (onS (Lay.mk ((λi=>QA.enc (l.getD i (Lay.mk (0:Int) (0:Int)))) ((intV (QJ M.fst (S++[(M.fst.getD (nxI g0) noE).born])).val).toNat+0) 0) ((λi=>QA.enc (l.getD i (Lay.mk (0:Int) (0:Int)))) ((intV (QJ M.fst (S++[(M.fst.getD (nxI g0) noE).born])).val).toNat+0) (0+1))) ((i64.wrap (QQ (QJ M.fst (S++[(M.fst.getD (nxI g0) noE).born])) 0+2)).tmod (4:Int))))).getD i (Jn.mk (0:Int) (0:Int) (0:Int) (0:Int)))),(808,.mp M.1 M.2)])))))))))))))))):=by kernel_rfl
abbrev QA9:List Prop:=
  [0=0,0=0,0=0,0=0]
abbrev QHB:List Prop:=
  (waa d++[cO=cO,0=0])
abbrev wa8:List Prop:=[Array.mk [28]=Array.mk [(28:Tmp)],(Qj f43).1=(Qj f43).1,(Qj f43).2=(Qj f43).2]
abbrev wce(l:List Lay):List Prop:=[l.length=l.length,cO=cO,0=0,0=0]
abbrev wci(l:List Lay):List Prop:=[0=0,l.length=l.length,cO=cO,Fn.func (91:FuncId)=Fn.func (91:FuncId),0=0,0=0,0=0,l.length=l.length,cO=cO,Fn.func (133:FuncId)=Fn.func (133:FuncId)]
theorem Qa5 :QE 752 [.yld 729,.ptr 696 0 0,.ptr 688 0 0,.slz 496 0 l.length cO,vi (l.length:Int),vi (c:Int)] ([(Vg d l w0),(qR f),(VO d l), (VU l),Va,(Vb l),(Vi d),(qZ f)]) (mlE d w0 l (Qj f43).1 (Qj f43).2 c f)=(some (QA9++[0=0,l.length=l.length,cO=cO, (l.length:Int)=(l.length:Int),(c:Int)=(c:Int),LoopState.ready=LoopState.ready,(none:Option Code)=none,Array.mk [28]=Array.mk [(28:Tmp)],(Qj f43).1=(Qj f43).1,(Qj f43).2=(Qj f43).2]++(QHB d)++[0=0,(0:Int)=0,0=0,0=0,(0:Int)=0]++QA9++[0=0,l.length=l.length,cO=cO,0=0,0=0,(0:Int)=0]++(QHB d)++[0=0,(0:Int)=0,0=0,0=0,(0:Int)=0,(0:Int)=0,false=false,0=0,0=0,0=0, w0.length=w0.length,cO=cO,0=0,0=0,Fn.func (91:FuncId)=Fn.func (91:FuncId)]++QA9++[Fn.func (102:FuncId)=Fn.func (102:FuncId)]++QA9++[0=0,l.length=l.length,cO=cO,Fn.func (91:FuncId)=Fn.func (91:FuncId),0=0,0=0,0=0,l.length=l.length,cO=cO,Fn.func (133:FuncId)=Fn.func (133:FuncId)]++QA9++[0=0,f.length=f.length,cO=cO,f.length<=f.length,QB 4 f.length (λi=>QA.enc (f.getD i (Jn.mk (0:Int) (0:Int) (0:Int) (0:Int)))) λi=>QA.enc (f.getD i (Jn.mk (0:Int) (0:Int) (0:Int) (0:Int))),0=0,l.length=l.length,cO=cO,0=0,0=0,l.length<=l.length,QB 2 l.length (λi=>QA.enc (l.getD i (Lay.mk (0:Int) (0:Int)))) λi=>QA.enc (l.getD i (Lay.mk (0:Int) (0:Int)))]++(QHB d)++[l.length=l.length,cO=cO,d.ps.n<=d.ps.n,QB 28 d.ps.n (λi=>QA.enc (d.ps.get i)) λi=>QA.enc (d.ps.get i)])):=by kernel_rfl
abbrev jd(l:List Lay):List AV:=
  (.yld 729::List.append (wba l) ([vi (c:Int),vi (c:Int),.ptr 816 808 0]))
abbrev jT:Nat×Blk:=
  (816,.itm [.map 808] 187 M.2 (S++[(M.fst.getD (nxI g0) noE).born]) M.2)
abbrev waB(l:List Lay)(w0:List Jn):List Prop:=((wcc)++wa7++((wb9 w0++[0=0,0=0])++wb5++([0=0]++wci l++[0=0,0=0,0=0,0=0])))
abbrev wbI(c:Nat)(l:List Lay):List Prop:=[(l.length:Int)=(l.length:Int),(c:Int)=(c:Int),(c:Int)=(c:Int)]
abbrev wcg(l:List Lay):List Prop:=[0=0,0=0,0=0,0=0,0=0,l.length=l.length,cO=cO]
abbrev QHb(d:Puz)(f:List Jn)(g0:Nat->Value)(l:List Lay)(w0:List Jn):List Prop:=
  ((((wcg l)++wbI c l++[808=808,0=0,M.2=M.2,S++[(M.1.getD (nxI g0) noE).3]=S',M.2=M.2,M.1=M.1,M.2=M.2])++wak++(wa8))++waa d++(wb8++(wce l++[(0:Int)=0]))++waa d++(((waB l w0++[0=0,f.length=f.length,cO=cO])++waj f++[0=0,l.length=l.length,Cap.of
  0=cO,0=0,0=0])++wag l)++waa d++((wca l)++wad d))
theorem QZ4(M:ECt)(S S':List Nat)(c:Nat)(f:List Jn)(g0:Nat->Value):QE 752 (jd c l) ([(Vg d l w0),(qR f),(VO d l),(VU l),Va,(Vb l),(jT M S g0),(Vi d),(qZ f),(808,.mp M.1 M.2)]) (mlJ d w0 l (Qj f43).1 (Qj f43).2 M S' c f)=(some (QHb M S S' c d f g0 l w0)):=by kernel_rfl
theorem Qbv(M:ECt)(S S':List Nat)(c:Nat)(f:List Jn)(g0:Nat->Value):QE 752 (jd c l) ([(Vg d l w0),(qR f),(VO d l),(VU l),Va,(Vb l),(jT M S g0),(Vi d),(qZ f),(808,.mp M.1 M.2)]) (mlJ d w0 l (Qj f43).1 (Qj f43).2 M S' c f)=(some (QHb M S S' c d f g0 l w0)):=by kernel_rfl
theorem QdV(M:ECt)(S S':List Nat)(c:Nat)(f:List Jn)(g0:Nat->Value):QE 752 (jd c l) ([(Vg d l w0),(qR f),(VO d l),(VU l),Va,(Vb l),(jT M S g0),(Vi d),(qZ f),(808,.mp M.1 M.2)]) (mlJ d w0 l (Qj f43).1 (Qj f43).2 M S' c f)=(some (QHb M S S' c d f g0 l w0)):=by kernel_rfl
abbrev ZU(l:List Lay):Jn:=
  (Jn.mk (Lay.mk ((λi=>QA.enc (l.getD i (Lay.mk (0:Int) (0:Int)))) ((intV (QJ M.fst (S++[(M.fst.getD (nxI g0) noE).born])).val).toNat+0) 0) ((λi=>QA.enc
  (l.getD i (Lay.mk (0:Int) (0:Int)))) ((intV (QJ M.fst (S++[(M.fst.getD (nxI g0) noE).born])).val).toNat+0) (0+1))).piece (onS (Lay.mk ((λi=>QA.enc (l.getD i
  (Lay.mk (0:Int) (0:Int)))) ((intV (QJ M.fst (S++[(M.fst.getD (nxI g0) noE).born])).val).toNat+0) 0) ((λi=>QA.enc (l.getD i (Lay.mk (0:Int) (0:Int)))) ((intV
  (QJ M.fst (S++[(M.fst.getD (nxI g0) noE).born])).val).toNat+0) (0+1))) ((i64.wrap (QQ (QJ M.fst (S++[(M.fst.getD (nxI g0) noE).born])) 0+2)).tmod (4:Int)))
  (Lay.mk ((λi=>QA.enc (l.getD i (Lay.mk (0:Int) (0:Int)))) ((c:Int).toNat+0) 0) ((λi=>QA.enc (l.getD i (Lay.mk (0:Int) (0:Int)))) ((c:Int).toNat+0) (0 +
  1))).piece (onS (Lay.mk ((λi=>QA.enc (l.getD i (Lay.mk (0:Int) (0:Int)))) ((c:Int).toNat+0) 0) ((λi=>QA.enc (l.getD i (Lay.mk (0:Int) (0:Int)))) ((c :
  Int).toNat+0) (0+1))) (QQ (QJ M.fst (S++[(M.fst.getD (nxI g0) noE).born])) 0)))
abbrev QQq(S:List Nat)(S':List Nat)(c:Nat)(d:Puz)(f':List Jn)(g0:Nat->Value)(l:List Lay)(w0:List Jn):List Prop:=
  ((((wcg l)++wbI c l++[808=808,0=0,M.2=M.2,S++[(M.1.getD (nxI g0) noE).3]=S',M.2=M.2,M.1=M.1,M.2=M.2])++wak++(wa8))++waa d++(wb8++(wce l++[(0:Int)=0]))++waa d++((waB l w0++([0=0,(R (ZU M S c g0 l)).length=f'.length,cO=cO,f'.length<=(R (ZU M S c g0
  l)).length,QB 4 f'.length (λi=>QA.enc ((R (ZU M S c g0 l)).getD i (Jn.mk (0:Int) (0:Int) (0:Int) (0:Int)))) λi=>QA.enc (f'.getD i (Jn.mk (0:Int) (0 :
  Int) (0:Int) (0:Int))),0=0]++wce l))++wag l)++waa d++((wca l)++wad d))
theorem QbF(M:ECt)(S S':List Nat)(c:Nat)(f f':List Jn)(R:Jn->List Jn)(g0:Nat->Value):QE 752 (jd c l) ([(Vg d l w0),(296,.cells 0 64 [.slz 1360 0 (R (ZU M S c g0 l)).length cO]),(VO d l),(VU l),Va,(Vb l),(jT M S g0),(Vi d), (1360,.rowz true 67 ZX (R (ZU M S c g0 l)).length λi=>QA.enc ((R (ZU M S c g0 l)).getD i (Jn.mk (0:Int) (0:Int) (0:Int) (0:Int)))),(808,.mp M.1 M.2)]) (mlJ d w0 l (Qj f43).1 (Qj f43).2 M S' c f')=(some (QQq M R S S' c d f' g0 l w0)):=by kernel_rfl
abbrev Zc(l:List Lay):Jn:=
  (Jn.mk (Lay.mk ((λi=>QA.enc (l.getD i (Lay.mk (0:Int) (0:Int)))) ((c:Int).toNat+0) 0) ((λi=>QA.enc (l.getD i (Lay.mk (0:Int) (0:Int)))) ((c:Int).toNat +
  0) (0+1))).piece (onS (Lay.mk ((λi=>QA.enc (l.getD i (Lay.mk (0:Int) (0:Int)))) ((c:Int).toNat+0) 0) ((λi=>QA.enc (l.getD i (Lay.mk (0:Int) (0:Int))))
  ((c:Int).toNat+0) (0+1))) (QQ (QJ M.fst (S++[(M.fst.getD (nxI g0) noE).born])) 0)) (Lay.mk ((λi=>QA.enc (l.getD i (Lay.mk (0:Int) (0:Int)))) ((intV (QJ
  M.fst (S++[(M.fst.getD (nxI g0) noE).born])).val).toNat+0) 0) ((λi=>QA.enc (l.getD i (Lay.mk (0:Int) (0:Int)))) ((intV (QJ M.fst (S++[(M.fst.getD (nxI g0)
  noE).born])).val).toNat+0) (0+1))).piece (onS (Lay.mk ((λi=>QA.enc (l.getD i (Lay.mk (0:Int) (0:Int)))) ((intV (QJ M.fst (S++[(M.fst.getD (nxI g0)
  noE).born])).val).toNat+0) 0) ((λi=>QA.enc (l.getD i (Lay.mk (0:Int) (0:Int)))) ((intV (QJ M.fst (S++[(M.fst.getD (nxI g0) noE).born])).val).toNat+0) (0+1)))
  ((i64.wrap (QQ (QJ M.fst (S++[(M.fst.getD (nxI g0) noE).born])) 0+2)).tmod (4:Int))))
abbrev QNG(S:List Nat)(S':List Nat)(c:Nat)(d:Puz)(f':List Jn)(g0:Nat->Value)(l:List Lay)(w0:List Jn):List Prop:=
  ((((wcg l)++wbI c l++[808=808,0=0,M.2=M.2,S++[(M.1.getD (nxI g0) noE).3]=S',M.2=M.2,M.1=M.1,M.2=M.2])++wak++(wa8))++waa d++(wb8++(wce l++[(0:Int)=0]))++waa d++((waB l w0++([0=0,(R (Zc M S c g0 l)).length=f'.length,cO=cO,f'.length<=(R (Zc M S c g0
  l)).length,QB 4 f'.length (λi=>QA.enc ((R (Zc M S c g0 l)).getD i (Jn.mk (0:Int) (0:Int) (0:Int) (0:Int)))) λi=>QA.enc (f'.getD i (Jn.mk (0:Int) (0 :
  Int) (0:Int) (0:Int))),0=0]++wce l))++wag l)++waa d++((wca l)++wad d))
theorem QYL(M:ECt)(S S':List Nat)(c:Nat)(f f':List Jn)(R:Jn->List Jn)(g0:Nat->Value):QE 752 (jd c l) ([(Vg d l w0),(296,.cells 0 64 [.slz 1328 0 (R (Zc M S c g0 l)).length cO]),(VO d l),(VU l),Va,(Vb l),(jT M S g0),(Vi d), (1328,.rowz true 67 ZX (R (Zc M S c g0 l)).length λi=>QA.enc ((R (Zc M S c g0 l)).getD i (Jn.mk (0:Int) (0:Int) (0:Int) (0:Int)))),(808,.mp M.1 M.2)]) (mlJ d w0 l (Qj f43).1 (Qj f43).2 M S' c f')=(some (QNG M R S S' c d f' g0 l w0)):=by kernel_rfl
theorem QfX(M:ECt)(S S':List Nat)(c:Nat)(f f':List Jn)(R:Jn->List Jn)(g0:Nat->Value):QE 752 (jd c l) ([(Vg d l w0),(296,.cells 0 64 [.slz 1296 0 (R (ZU M S c g0 l)).length cO]),(VO d l),(VU l),Va,(Vb l),(jT M S g0),(Vi d), (1296,.rowz true 67 ZX (R (ZU M S c g0 l)).length λi=>QA.enc ((R (ZU M S c g0 l)).getD i (Jn.mk (0:Int) (0:Int) (0:Int) (0:Int)))),(808,.mp M.1 M.2)]) (mlJ d w0 l (Qj f43).1 (Qj f43).2 M S' c f')=(some (QQq M R S S' c d f' g0 l w0)):=by kernel_rfl
theorem QWZ(M:ECt)(S S':List Nat)(c:Nat)(f f':List Jn)(R:Jn->List Jn)(g0:Nat->Value):QE 752 (jd c l) ([(Vg d l w0),(296,.cells 0 64 [.slz 1264 0 (R (Zc M S c g0 l)).length cO]),(VO d l),(VU l),Va,(Vb l),(jT M S g0),(Vi d), (1264,.rowz true 67 ZX (R (Zc M S c g0 l)).length λi=>QA.enc ((R (Zc M S c g0 l)).getD i (Jn.mk (0:Int) (0:Int) (0:Int) (0:Int)))),(808,.mp M.1 M.2)]) (mlJ d w0 l (Qj f43).1 (Qj f43).2 M S' c f')=(some (QNG M R S S' c d f' g0 l w0)):=by kernel_rfl
