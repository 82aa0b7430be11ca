/- - -/
import Derived.Test.YtekbmehgcofnkaaGreatMzj
open Go.Proofs.Tryz
set_option maxRecDepth 100000
namespace Go.Proofs.YtekbmehgcofnkaaGreat
open Go.SX Go.SX.Told
theorem QDv{k n:Nat}(h:k<n)(hn:n<=1000000000):IntKind.i64.wrap ((k:Int)+1)=((k+1:Nat):Int):=(w64 (by omega) (by omega)).trans (by omega)
variable (L:List Jn)(x:Jn)
def jiR(k:Nat)(e:Ex)(J:JSt):Prop:=(e = .ret/\(QX (λi=>eqJ x (atJ L i)) (L.length-k) k).isSome=true/\J=Yf (Ki (QX (λi=>eqJ x (atJ L i)) (L.length-k) k)))∨(e = .exit 0/\QX (λi=>eqJ x (atJ L i)) (L.length-k) k=none/\J=Wm)
theorem Qd5(hn:L.length<=1000000000):Ji (jiJ L x) (λk=>k<=L.length) (λk=>L.length-k) (jiR L x) 24 QDp [] (mkE prog QT) (λ_=>hnd (mkE prog QT) 2) (QJ f135 0):=by
 refine⟨λk g0 hk=>Qf (QVP L x k g0) ?_⟩;have hk:k<=L.length:=hk;have hit:∀(h:k<L.length),eqJ x (atJ L k)=true->jiR L x k .ret (Yf k):=λh hs=>.inl ⟨rfl,by rw[(VX h).1 hs];rfl,by rw[(VX h).1 hs];rfl⟩
 refine QF (λb0=>?_) (λb0=>?_);have h:k<L.length:=by have:=qdt b0;omega
 have hf:=VX (p:=(λi=>eqJ x (atJ L i))) h
 iterate 2 (refine QH ?_ ?_;rotate_left)
 refine QF ?_ ?_<;>intro b1
 .refine⟨_,hit h b1,rfl,rfl,_,Qdr k k,⟨rfl,trivial⟩⟩
 have hb:eqJ x (atJ L k)=false:=b1;refine⟨k+1,h,by show L.length-(k+1)<L.length-k;omega,λe J h=>by unfold jiR at h ⊢;rw[hf.2 hb];exact h,rfl,rfl,_,QbN L x k (k+1),?_⟩
 rotate_left
 .have h:L.length<=k:=by have:=qdf b0;omega
  exact⟨_,.inr ⟨rfl,by rw[show L.length-k=0 by omega];rfl,rfl⟩,rfl,rfl,_,QS0,trivial⟩
 all_goals first|((with_reducible show _=true);(first|rfl|(simp;omega)))|(repeat' first|with_reducible refine QP ?_ ?_|exact tv|exact qRr|exact QDv h hn|refine aI ?_ ?_)
def jiX:List (Prop×Ex×JSt):=[((K1 L x).isSome=true,.ret,Yf (Ki (K1 L x))),(K1 L x=none,.exit 0,Wm)]
theorem QV0(hn:L.length<=1000000000)(G:Ctx)(hrd:G.rd=none)(hG:G.n=24):Qu (mkE prog QT) G (jiH prog L x (jiX L x)) (Qp f135):=by
 refine KM (body:=QJ f135 0) (QQ Qd) hrd (by kernel_rfl) ?_
 refine Vn (n0:=24) (QQ Qd) (by omega) (λs hs=>Q1 (QQ Qd) 2 G _ hrd) (λs hs=>(by decide:24<=24)) ?_ (Qd5 L x hn) (s0:=0) (Nat.zero_le _) ?_
 .rintro s e J (⟨_,_,rfl⟩|⟨_,_,rfl⟩)<;>exact(by decide:24<=24)
 .rintro e J (⟨rfl,h,rfl⟩|⟨rfl,h,rfl⟩)
  .exact⟨_,qmc,h,rfl,rfl⟩
  .exact⟨_,List.mem_cons_of_mem _ qmc,h,rfl,rfl⟩
theorem QeQ(v:Int):(jiU L x v).Ok:=⟨(by decide:0<=24),rfl,rfl,λq hq=>(by cases hq),rfl,λ_ _=>rfl,λ_ _=>rfl⟩
theorem QYc(hn:L.length<=1000000000):QR prog 135 (uFC (jiU L x (Ki (K1 L x)))):=by
 refine Ks (E:=mkE prog QT) (QQ Qd) func135 (by kernel_rfl) (by kernel_rfl) (QeQ ..) (λG h1 h2=>QV0 L x hn G h1 (by rw[h2];rfl)) ⟨?_⟩
 have et:=QX4 L x ((K1 L x).isSome=true) (K1 L x=none) (Ki (K1 L x)) (Ki (K1 L x));refine Qf et ?_;clear et
 iterate 14 refine Qt (by first|exact tv|with_reducible exact qRr|exact rfl) ?_
 refine Kl ?_ ?_;refine Qj λa0=>?_;refine Qk λg0=>?_;refine⟨rfl,rfl,_,QaS L x (Ki (K1 L x)) (Ki (K1 L x)),?_⟩
 rotate_left
 refine Qj λa1=>?_;refine Qk λg1=>?_
 .refine⟨rfl,rfl,_,QX2 L x (Ki (K1 L x)),?_⟩;rw[a1]
  repeat' first|exact tv|exact rfl|refine aI ?_ ?_
 all_goals (repeat' first|exact tv|exact rfl|refine aI ?_ ?_)
theorem QWA(o:List Jn)(i:Nat)(y:Jn)(n:Nat)(hi:i<o.length):QB 4 n (λk=>bif decide (k=i)then KZ [.int false .i64 y.a,.int false .i64 y.i,.int false .i64 y.b,.int false .i64 y.j] 0 (QA.enc (o.getD i (⟨0,0,0,0⟩:Jn)))else QA.enc (o.getD k (⟨0,0,0,0⟩:Jn))) λk=>QA.enc ((o.set i y).getD k (⟨0,0,0,0⟩:Jn)):=by
 intro k _
 by_cases h:k=i
 .subst h;have e:(o.set k y).getD k ⟨0,0,0,0⟩=y:=by rw[List.getD_eq_getElem?_getD,List.getElem?_set_self hi];rfl
  show eqF 4 0 _ (QA.enc ((o.set k y).getD k (⟨0,0,0,0⟩:Jn)));rw[e];simp only[decide_true,cond_true];exact⟨rfl,rfl,rfl,rfl,trivial⟩
 .have e:(o.set i y).getD k ⟨0,0,0,0⟩=o.getD k ⟨0,0,0,0⟩:=by rw[List.getD_eq_getElem?_getD,List.getD_eq_getElem?_getD,List.getElem?_set_ne (λe=>h e.symm)]
  show eqF 4 0 _ (QA.enc ((o.set i y).getD k (⟨0,0,0,0⟩:Jn)));rw[e];simp only[h,decide_false,cond_false];exact⟨rfl,rfl,rfl,rfl,trivial⟩
def QC6(n:Nat)(k:List Jn×Nat×Nat)(e:Ex)(J:JSt):Prop:=e = .exit 0/\J=dlE (JV x (n-k.2.2) k.1 k.2.1 k.2.2).1 (JV x (n-k.2.2) k.1 k.2.1 k.2.2).2
theorem QYG(n:Nat)(hn:n<=1000000000):Jd (λk:List Jn×Nat×Nat=>dlJ x k.1 k.2.1 k.2.2) (λk=>k.1.length=n/\k.2.1<k.2.2/\k.2.2<=n) (λk=>n-k.2.2) (QC6 x n) 24 QSM [] (λ_=>mkE prog QT) (λ_=>hnd (mkE prog QT) 2) (QJ f92 0):=by
 refine⟨λk g0 hk=>?_⟩;obtain⟨o,i,j⟩:=k;obtain⟨hlen,hij,hj⟩:=hk;simp only at hlen hij hj;have et:=QY0 x o i j g0;refine Qf et ?_;clear et;refine QF (λb0=>?_) (λb0=>?_);have h:j<n:=by have:=qdt b0;omega
 have hw:=QDv h hn;have hwi:=QDv (show i<n by omega) hn
 have hm:n-j=(n-(j+1))+1:=by omega
 iterate 2 (refine QH ?_ ?_;rotate_left)
 refine QF ?_ ?_<;>intro b1
 iterate 2 (refine QH ?_ ?_;rotate_left)
 .have hb0:(!eqJ x (atJ o j))=true:=b1;have hb:eqJ x (atJ o j)=false:=by simpa using hb0
  refine⟨(o.set i (atJ o j),i+1,j+1),⟨by rw[List.length_set];exact hlen,Nat.succ_lt_succ hij,h⟩,by show n-(j+1)<n-j;omega,λe J hr=>?_,rfl,rfl,_,QUC x o (o.set i (atJ o j)) i j (i+1) (j+1),?_⟩
  .unfold QC6 at hr ⊢;simp only at hr ⊢;rw[hm,JV,hb];exact hr
  .have hl:o.length=(o.set i (atJ o j)).length:=by rw[List.length_set]
   have hs:=QWA o i (atJ o j) (o.set i (atJ o j)).length (by omega)
   repeat' first|with_reducible refine QP ?_ ?_|exact tv|with_reducible exact qRr|exact hw|exact hwi|exact hl|exact Nat.le_of_eq hl.symm|exact hs|exact rfl|refine aI ?_ ?_
 .have hb0:(!eqJ x (atJ o j))=false:=b1;have hb:eqJ x (atJ o j)=true:=by simpa using hb0
  refine⟨(o,i,j+1),⟨hlen,Nat.lt_succ_of_lt hij,h⟩,by show n-(j+1)<n-j;omega,λe J hr=>?_,rfl,rfl,_,Qds x o i j (j+1),?_⟩
  .unfold QC6 at hr ⊢;simp only at hr ⊢;rw[hm,JV,hb];exact hr
  .repeat' first|with_reducible refine QP ?_ ?_|exact tv|with_reducible exact qRr|exact hw|exact rfl|refine aI ?_ ?_
 have h:n<=j:=by have:=qdf b0;omega
 refine⟨_,(by unfold QC6;simp only[show n-j=0 by omega,JV,and_self]),rfl,rfl,_,Qbz o i,?_⟩
 rotate_left
 all_goals first|((with_reducible show _=true);(first|rfl|(simp;omega)))|(repeat' first|with_reducible refine QP ?_ ?_|exact tv|with_reducible exact qRr|exact rfl|refine aI ?_ ?_)
theorem QVf(pb:List Prop->Bool)(L:List Jn)(x:Jn)(v:Int)(hT:Qe (jO pb L x v))(i0:Nat)(hL:L.length<=1000000000)(G:Ctx)(hrd:G.rd=none)(hG:G.n=24):Qu (mkE prog (jO pb L x v)) G (dlH prog pb L x v i0 [(True,.exit 0,dlE (JV x (L.length-(i0+1)) L i0 (i0+1)).1 (JV x (L.length-(i0+1)) L i0 (i0+1)).2)]) (Qp f92):=by
 refine KM (body:=QJ f92 0) (QQ hT) hrd (by kernel_rfl) ?_
 refine Jm λhi=>?_;refine Jt (E0:=mkE prog (jO pb L x v)) (E:=λ_:List Jn×Nat×Nat=>mkE prog QT) (H:=λ_=>hnd (mkE prog QT) 2) (n0:=24) (s0:=(L,i0,i0+1)) (λ_=>rfl) (λ_=>QQ Qd) (by omega) (λk _=>Q1 (QQ Qd) 2 G _ hrd) (λk _=>(by decide:24<=40)) ?_ (QYG x L.length hL) ⟨rfl,Nat.lt_succ_self _,hi⟩ ?_
 .rintro k e J ⟨_,rfl⟩;exact(by decide:24<=40)
 .rintro e J ⟨rfl,rfl⟩;exact⟨_,qmc,trivial,rfl,rfl⟩
theorem QYP(w:List Jn):(ZX L x w).Ok:=by
 refine⟨(by decide:0<=24),rfl,rfl,?_,rfl,λnid h=>?_,λnid h=>?_⟩
 .intro q hq;simp only[UC.po,ZX,rwJ,List.mem_cons,List.not_mem_nil,or_false]at hq;subst hq;exact⟨rfl,rfl,rfl,λh=>absurd (show 24<0 from h) (by decide)⟩
 .have e0:=KW 0 24 0 nid (by decide)
  simp only[UC.va,ZX,AV.mapId,Nat.add_zero]at e0 ⊢;rw[e0]
 .have e0:=KW 0 24 0 nid (by decide)
  simp only[UC.po,ZX,rwJ,List.map_cons,List.map_nil,Blk.mapId,Nat.add_zero]at e0 ⊢;rw[e0]
theorem QVz(o w:List Jn)(i m:Nat)(hw:o.take i=w)(hi:i<=o.length):QB 4 w.length (λk=>bif decide (0+i<=k/\k<0+i+m)then λ_=>0 else QA.enc (o.getD k (⟨0,0,0,0⟩:Jn))) λk=>QA.enc (w.getD k (⟨0,0,0,0⟩:Jn)):=by
 intro k hk;have hl:w.length=i:=by rw[<-hw,List.length_take];omega
 have e:w.getD k ⟨0,0,0,0⟩=o.getD k ⟨0,0,0,0⟩:=by
  rw[<-hw,List.getD_eq_getElem?_getD,List.getD_eq_getElem?_getD,List.getElem?_take,if_pos (by omega)]
 show eqF 4 0 _ (QA.enc (w.getD k (⟨0,0,0,0⟩:Jn)));rw[e];simp only[show decide (0+i<=k/\k<0+i+m)=false from decide_eq_false (by omega),cond_false]
 exact⟨rfl,rfl,rfl,rfl,trivial⟩
theorem QZP(hL:L.length<=1000000000):QR prog 92 (uFC (ZX L x (Js x L))):=by
 have hT:Qe (jO QO L x (Ki (K1 L x))):=Qd.add (QYc L x hL);refine Ks (c:=Qp f92) (E:=mkE prog (jO QO L x (Ki (K1 L x)))) (QQ hT) func92 (by kernel_rfl) (by kernel_rfl) (QYP ..) (λG h1 h2=>QVf QO L x _ hT ((K1 L x).getD 0) hL G h1 (by rw[h2];rfl)) ⟨?_⟩
 have et:=QTM QO L x (Ki (K1 L x)) ((K1 L x).getD 0) (JV x (L.length-((K1 L x).getD 0+1)) L ((K1 L x).getD 0) ((K1 L x).getD 0+1)).1 (JV x (L.length-((K1 L x).getD 0+1)) L ((K1 L x).getD 0) ((K1 L x).getD 0+1)).2 (Js x L);obtain⟨q,hf⟩:∃ q,K1 L x=q:=⟨_,rfl⟩;cases q with
 | none=>
  have hv:Ki (K1 L x) = -1:=by rw[hf];rfl
  rw[Qfn hf]at et ⊢;refine Qf et ?_;clear et;refine QH ?_ ?_;rotate_left;refine QF (λb0=>?_) (λb0=>?_);refine⟨rfl,rfl,_,QTx L x L,?_⟩
  rotate_left
  .rw[hv]at b0;cases b0
  all_goals first|((with_reducible show _=true);(first|(refine Q6.2 ?_;repeat' first|with_reducible refine QP ?_ ?_|exact tv|with_reducible exact qRr|exact rfl|refine aI ?_ ?_)|(simp;omega)))|(repeat' first|with_reducible refine QP ?_ ?_|exact tv|with_reducible exact qRr|exact rfl|refine aI ?_ ?_)
 | some i=>
  obtain⟨h1,h2,h3,h4⟩:=QT2 hf;have hv:Ki (K1 L x)=i:=by rw[hf];rfl
  have hg:(K1 L x).getD 0=i:=by rw[hf];rfl
  rw[hg]at et ⊢;generalize JV x (L.length-(i+1)) L i (i+1)=D at et h2 h3 h4 ⊢;generalize Js x L=w at et h4 ⊢;have hw:=QDv h1 hL;have hlw:w.length=D.2:=by rw[<-h4,List.length_take];omega
  refine Qf et ?_;clear et;refine QH ?_ ?_;rotate_left;refine QF ?_ ?_<;>intro b0
  .rw[hv]at b0;simp at b0
  iterate 15 refine Qt (by first|with_reducible rfl|exact h1|exact hv|(rw[hv];exact hw)|exact qlr _|with_reducible exact qRr|exact trivial|exact rfl) ?_
  refine Qj λa0=>?_;refine Qk λg0=>?_
  iterate 3 (refine QH ?_ ?_;rotate_left)
  .refine⟨rfl,rfl,_,Qao L x D.1 D.2 w,?_⟩;have hs:=QVz D.1 w D.2 (D.1.length-D.2) h4 (by omega)
   have hle:w.length<=D.1.length:=by omega
   repeat' first|with_reducible refine QP ?_ ?_|exact tv|with_reducible exact qRr|exact hlw.symm|exact hlw|exact hle|exact hs|exact rfl|refine aI ?_ ?_
  all_goals first|(refine Q6.2 ?_;repeat' first|with_reducible refine QP ?_ ?_|exact tv|with_reducible exact qRr|exact rfl|refine aI ?_ ?_)|(simp;omega)
