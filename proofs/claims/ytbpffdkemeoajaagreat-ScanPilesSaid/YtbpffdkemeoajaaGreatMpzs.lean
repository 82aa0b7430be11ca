/- - -/
import Derived.Test.YtbpffdkemeoajaaGreatMpzr
import Derived.Test.YtbpffdkemeoajaaGreatMpr
import Derived.Test.YtbpffdkemeoajaaGreatMpp
import Derived.Test.YtbpffdkemeoajaaGreatMpt
import Derived.Test.YtbpffdkemeoajaaGreatMpzj
import Derived.Test.YtbpffdkemeoajaaGreatMpzn
import Derived.Test.YtbpffdkemeoajaaGreatMpzf
open Go.Proofs.Tryz
open Go.IntKind (i64)
set_option maxRecDepth 100000
namespace Go.Proofs.YtbpffdkemeoajaaGreat
open Go Go.SX
variable (x:QD)(T:List (List QB))(k:Nat)
set_option maxHeartbeats 1600000 in
theorem Qew(o:List QB)(k n m:Nat)(g:Xf T n m)(hk:k<n)(hT:T.length<=100000000):Kk (λi=>qr x T o k (Q9 T k i) i) (λi=>i<=T.length) (λi=>T.length-i) (λ_ e J=>e = .exit 2/\J=W3 x T o k (Q9 T k T.length)) 8 QLj [] (mkE prog Km) (λ_=>hnd (mkE prog Km) 3) (Kl (QT f11 0)):=by
 refine⟨λi g0 hi=>Qp (QW2 x T o k (Q9 T k i) i g0) ?_⟩;have hi:i<=T.length:=hi;have nb:∀ i n:Nat,i<n->(decide ((0:Int)<=(i:Int)/\(i:Int)<(n:Int))&&decide (n<=n))=true:=λi n h=>by simp;omega
 have hs:Q9 T k (i+1)=cond ((Qv T i k).cell != (Q9 T k i).cell) ⟨-1,0⟩ (cond ((Qv T i k).turn != (Q9 T k i).turn) ⟨(Q9 T k i).cell,0⟩ (Q9 T k i)):=rfl;refine QH ?_ ?_<;>intro b0
 .have h:i<T.length:=by have:=qdt b0;omega
  have hlen:(QG T i).length=n:=g.len _ (XN h);have hw:i64.wrap ((i:Int)+1)=((i+1:Nat):Int):=(w64 (by omega) (by omega)).trans (by omega)
  refine QF (by exact nb _ _ h) ?_
  refine QF (by exact qde h) ?_
  refine QF (by exact nb _ _ (by omega)) ?_
  refine QF (by exact qde (by omega)) ?_
  refine QH ?_ ?_<;>intro b1
  .have q:Q9 T k (i+1)=⟨-1,0⟩:=by rw[hs,show((Qv T i k).cell != (Q9 T k i).cell)=true from b1];rfl
   refine⟨i+1,h,by show T.length-(i+1)<T.length-i;omega,λ_ _ r=>r,rfl,rfl,_,QfB ..,?_⟩
   have q1 : -1=(Q9 T k (i+1)).cell:=by rw[q]
   have q2:0=(Q9 T k (i+1)).turn:=by rw[q]
   repeat' first|with_reducible refine QK ?_ ?_|exact tv|exact q1|exact q2|exact qRr|exact QS _ _ _ _|exact hw|refine aI ?_ ?_
  .refine QF (by exact nb _ _ h) ?_
   refine QF (by exact qde h) ?_
   refine QF (by exact nb _ _ (by omega)) ?_
   refine QF (by exact qde (by omega)) ?_
   refine QH ?_ ?_<;>intro b2
   .have q:Q9 T k (i+1)=⟨(Q9 T k i).cell,0⟩:=by rw[hs,show((Qv T i k).cell != (Q9 T k i).cell)=false from b1,show((Qv T i k).turn != (Q9 T k i).turn)=true from b2];rfl
    refine⟨i+1,h,by show T.length-(i+1)<T.length-i;omega,λ_ _ r=>r,rfl,rfl,_,QXF ..,?_⟩
    have q1:(Q9 T k i).cell=(Q9 T k (i+1)).cell:=by rw[q]
    have q2:0=(Q9 T k (i+1)).turn:=by rw[q]
    repeat' first|with_reducible refine QK ?_ ?_|exact tv|exact q1|exact q2|exact qRr|exact QS _ _ _ _|exact hw|refine aI ?_ ?_
   .have q:Q9 T k (i+1)=Q9 T k i:=by rw[hs,show((Qv T i k).cell != (Q9 T k i).cell)=false from b1,show((Qv T i k).turn != (Q9 T k i).turn)=false from b2];rfl
    refine⟨i+1,h,by show T.length-(i+1)<T.length-i;omega,λ_ _ r=>r,rfl,rfl,_,QYW ..,?_⟩
    have q1:(Q9 T k i).cell=(Q9 T k (i+1)).cell:=by rw[q]
    have q2:(Q9 T k i).turn=(Q9 T k (i+1)).turn:=by rw[q]
    repeat' first|with_reducible refine QK ?_ ?_|exact tv|exact q1|exact q2|exact qRr|exact QS _ _ _ _|exact hw|refine aI ?_ ?_
 .have h:i=T.length:=by have:=qdf b0;omega
  subst h;refine⟨_,⟨rfl,rfl⟩,rfl,rfl,_,QcM ..,?_⟩
  repeat' first|with_reducible refine QK ?_ ?_|exact tv|refine aI ?_ ?_
set_option maxHeartbeats 1600000 in
theorem QWs(o:List QB)(k n m:Nat)(g:Xf T n m)(hk:k<n)(hT:T.length<=100000000)(h0:0<T.length):Kk (λi=>jA x T o k (KS T k i) i) (λi=>i<=T.length) (λi=>T.length-i) (λ_ e J=>e = .exit 4/\J=W3 x T o k (KS T k T.length)) 8 QRk [] (mkE prog Km) (λ_=>hnd (mkE prog Km) 3) (QDO (QT f11 0)):=by
 refine⟨λi g0 hi=>Qp (Qbf x T o k (KS T k i) i g0) ?_⟩;have hi:i<=T.length:=hi;have nb:∀ i n:Nat,i<n->(decide ((0:Int)<=(i:Int)/\(i:Int)<(n:Int))&&decide (n<=n))=true:=λi n h=>by simp;omega
 have hs:KS T k (i+1)=cond ((Qv T i k).turn != (Qv T 0 k).turn) ⟨(KS T k i).cell,0⟩ (KS T k i):=rfl;have hlen0:(QG T 0).length=n:=g.len _ (XN h0);refine QH ?_ ?_<;>intro b0
 .have h:i<T.length:=by have:=qdt b0;omega
  have hlen:(QG T i).length=n:=g.len _ (XN h);have hw:i64.wrap ((i:Int)+1)=((i+1:Nat):Int):=(w64 (by omega) (by omega)).trans (by omega)
  refine QF (by exact nb _ _ h) ?_
  refine QF (by exact qde h) ?_
  refine QF (by exact nb _ _ (by omega)) ?_
  refine QF (by exact qde (by omega)) ?_
  refine QF (by simp;omega) ?_
  refine QF (by exact qde h0) ?_
  refine QF (by exact nb _ _ (show k<(QG T 0).length by omega)) ?_
  refine QF (by exact qde (show k<(QG T 0).length by omega)) ?_
  refine QH ?_ ?_<;>intro b1
  .have q:KS T k (i+1)=⟨(KS T k i).cell,0⟩:=by rw[hs,show((Qv T i k).turn != (Qv T 0 k).turn)=true from b1];rfl
   refine⟨i+1,h,by show T.length-(i+1)<T.length-i;omega,λ_ _ r=>r,rfl,rfl,_,QXc ..,?_⟩
   have q1:(KS T k i).cell=(KS T k (i+1)).cell:=by rw[q]
   have q2:0=(KS T k (i+1)).turn:=by rw[q]
   repeat' first|with_reducible refine QK ?_ ?_|exact tv|exact q1|exact q2|exact qRr|exact QS _ _ _ _|exact hw|refine aI ?_ ?_
  .have q:KS T k (i+1)=KS T k i:=by rw[hs,show((Qv T i k).turn != (Qv T 0 k).turn)=false from b1];rfl
   refine⟨i+1,h,by show T.length-(i+1)<T.length-i;omega,λ_ _ r=>r,rfl,rfl,_,Qdz ..,?_⟩
   have q1:(KS T k i).cell=(KS T k (i+1)).cell:=by rw[q]
   have q2:(KS T k i).turn=(KS T k (i+1)).turn:=by rw[q]
   repeat' first|with_reducible refine QK ?_ ?_|exact tv|exact q1|exact q2|exact qRr|exact QS _ _ _ _|exact hw|refine aI ?_ ?_
 .have h:i=T.length:=by have:=qdf b0;omega
  subst h;refine⟨_,⟨rfl,rfl⟩,rfl,rfl,_,QWA ..,?_⟩
  repeat' first|with_reducible refine QK ?_ ?_|exact tv|refine aI ?_ ?_
def rtO:List QB:=(List.range k).map λj=>KS T j T.length
theorem QD8:(rtO T k).length=k:=by simp[rtO]
theorem QJT{k j:Nat}(h:j<k):(rtO T k).getD j ⟨0,0⟩=KS T j T.length:=by simp[rtO,List.getD_eq_getElem?_getD,h]
theorem QWx:QC 2 (rtO T (k+1)).length (Qa (rtO T k).length (λi=>QA.enc ((rtO T k).getD i ⟨0,0⟩)) (QU [[.int false .i64 (KS T k T.length).cell,.int false .i64 (KS T k T.length).turn]] 0)) (λi=>QA.enc ((rtO T (k+1)).getD i ⟨0,0⟩)):=by
 intro i hi;rw[QD8]at hi;show eqF 2 0 (Qa (rtO T k).length _ _ i) (QA.enc ((rtO T (k+1)).getD i ⟨0,0⟩));rw[QJT T hi,QD8]
 by_cases h:i<k
 .have e2:Qa k (λi=>QA.enc ((rtO T k).getD i ⟨0,0⟩)) (QU [[.int false .i64 (KS T k T.length).cell,.int false .i64 (KS T k T.length).turn]] 0) i=QA.enc (KS T i T.length):=by
   funext j;rw[Vb,if_pos h,QJT T h]
  rw[e2];exact XC _ _ _
 .have e:i=k:=by omega
  subst e
  have e2:Qa i (λj=>QA.enc ((rtO T i).getD j ⟨0,0⟩)) (QU [[.int false .i64 (KS T i T.length).cell,.int false .i64 (KS T i T.length).turn]] 0) i=QU [[.int false .i64 (KS T i T.length).cell,.int false .i64 (KS T i T.length).turn]] 0 0:=by
   funext j;rw[Vb,if_neg h,Nat.sub_self]
  rw[e2];exact⟨rfl,rfl,trivial⟩
set_option maxHeartbeats 1600000 in
theorem QTB(m:Nat)(g:Xf T x.sK.n m)(h0:0<T.length):Kk (λk=>QAQ x T (rtO T k) k) (λk=>k<=x.sK.n) (λk=>x.sK.n-k) (λ_ e J=>e = .exit 0/\J=QIq (rtO T x.sK.n)) 8 QOb [] (mkE prog Km) (λk=>QGa prog x T (rtO T k) k (Q9 T k 0) (Q9 T k T.length) (KS T k T.length)) (QT f11 0):=by
 refine⟨λk g0 hk=>Qp (QWT x T (rtO T k) k (Q9 T k 0) (Q9 T k T.length) (KS T k T.length) g0) ?_⟩;have hk:k<=x.sK.n:=hk;have n12:=g.n12;have hlen0:(QG T 0).length=x.sK.n:=g.len _ (XN h0);have ol:=QD8 T k;refine QH ?_ ?_<;>intro b0
 .have h:k<x.sK.n:=by have:=qdt b0;omega
  refine QF (by simp;omega) ?_
  refine QF (by exact qde h0) ?_
  refine QF ?_ ?_
  .refine Bool.and_eq_true_iff.2 ⟨qde ?_,qde (qlr _)⟩;have:(QG T (Int.toNat 0)).length=x.sK.n:=hlen0;omega
  refine QF ?_ ?_
  .refine qde ?_;have:(QG T (Int.toNat 0)).length=x.sK.n:=hlen0;omega
  iterate 44 refine QX (by first|exact tv|exact h|exact rfl) ?_
  refine KB λa0=>?_;refine Q7 λg0=>?_
  iterate 44 refine QX (by first|exact tv|exact h|exact rfl) ?_
  refine KB λa1=>?_;refine Q7 λg1=>?_;refine QF (by simp;omega) ?_
  refine⟨k+1,h,by show x.sK.n-(k+1)<x.sK.n-k;omega,λ_ _ r=>r,rfl,rfl,_,QTx ..,?_⟩
  have ol':=QD8 T (k+1);have q1:(rtO T k).length+1=(rtO T (k+1)).length:=by omega
  have q2:(rtO T (k+1)).length<=(rtO T k).length+1:=by omega
  repeat' first|with_reducible refine QK ?_ ?_|exact tv|exact q1|exact q2|exact QWx T k|exact qRr|exact QS _ _ _ _|exact KW h (by omega)|refine aI ?_ ?_
 .have h:k=x.sK.n:=by have:=qdf b0;omega
  subst h;refine⟨_,⟨rfl,rfl⟩,rfl,rfl,_,QZi ..,?_⟩
  repeat' first|with_reducible refine QK ?_ ?_|exact tv|refine aI ?_ ?_
theorem QUc(k m:Nat)(g:Xf T x.sK.n m)(hT:T.length<=100000000)(h0:0<T.length)(o:List QB)(G:Ctx)(hrd:G.rd=none)(hG:G.n<=8):Q8 (mkE prog Km) G (QGa prog x T o k (Q9 T k 0) (Q9 T k T.length) (KS T k T.length)) (QT f11 0):=by
 refine QIL (QL VD) hrd λc hc=>?_;have he:JB (QT f11 0)=[.loop (Kl (QT f11 0)),.loop (QDO (QT f11 0))]:=by kernel_rfl
 rw[he]at hc;simp only[List.mem_cons,List.not_mem_nil,or_false]at hc;rcases hc with rfl|rfl
 .have e1:QFS x T o k (Q9 T k 0) (Q9 T k T.length) (KS T k T.length) (.loop (Kl (QT f11 0)))=Jp (k<x.sK.n) (Q4 8 [] (qr x T o k (Q9 T k 0) (0:Nat)) [(True,.exit 2,W3 x T o k (Q9 T k T.length))]):=by kernel_rfl
  rw[e1];refine Vv λhk=>?_;refine Kr (I:=λi=>qr x T o k (Q9 T k i) i) (n0:=8) (QL VD) hG (λs hs=>Qw (QL VD) 3 G _ hrd) (λs hs=>(by decide:8<=56)) ?_ (Qew x T o k x.sK.n m g hk hT) (s0:=0) (Nat.zero_le _) ?_
  .rintro s e J ⟨_,rfl⟩;exact(by decide:8<=56)
  .rintro e J ⟨rfl,rfl⟩;exact⟨_,qmc,trivial,rfl,rfl⟩
 .have e1:QFS x T o k (Q9 T k 0) (Q9 T k T.length) (KS T k T.length) (.loop (QDO (QT f11 0)))=Jp (k<x.sK.n) (Q4 8 [] (jA x T o k (Q9 T k T.length) (0:Nat)) [(True,.exit 4,W3 x T o k (KS T k T.length))]):=by kernel_rfl
  rw[e1];refine Vv λhk=>?_;refine Kr (I:=λi=>jA x T o k (KS T k i) i) (n0:=8) (QL VD) hG (λs hs=>Qw (QL VD) 3 G _ hrd) (λs hs=>(by decide:8<=56)) ?_ (QWs x T o k x.sK.n m g hk hT h0) (s0:=0) (Nat.zero_le _) ?_
  .rintro s e J ⟨_,rfl⟩;exact(by decide:8<=56)
  .rintro e J ⟨rfl,rfl⟩;exact⟨_,qmc,trivial,rfl,rfl⟩
theorem QNd{x:QD}(he:Qo x=0):0<(QY x).length:=by
 rw[QIy he];exact List.length_pos_iff.2 (zu he).2.2
theorem Qcm(h4:x.ok=true->x.sK.n<=4)(hT:QZ (VZ QV x (QY x) (Qo x)))(G:Ctx)(hrd:G.rd=none)(hG:G.n=8):Q8 (mkE prog (VZ QV x (QY x) (Qo x))) G (rhH prog QV x (QY x) (Qo x) (rtO (QY x) x.sK.n)) (Qi f11):=by
 refine Kg (body:=QT f11 0) (QL hT) hrd (by kernel_rfl) ?_
 refine Vv λhe=>?_;have g:=vr h4 he;have h0:=QNd he;refine YG (E:=mkE prog Km) rfl (Kr (I:=λk=>QAQ x (QY x) (rtO (QY x) k) k) (n0:=8) (QL VD) (by omega) (λs hs=>QUc x (QY x) s x.d.ps.n g.g g.l h0 _ G hrd (by omega)) (λs hs=>(by decide:8<=48)) ?_ (QTB x (QY x) x.d.ps.n g.g h0) (s0:=0) (Nat.zero_le _) ?_)
 .rintro s e J ⟨_,rfl⟩;exact(by decide:8<=48)
 .rintro e J ⟨rfl,rfl⟩;exact⟨_,qmc,trivial,rfl,rfl⟩
theorem QUf{x:QD}(h:x.ok=true):rtO (Qb x) x.sK.n=Y9 (Qb x) x.sK.n:=by
 unfold rtO Y9;refine List.map_congr_left λk hk=>Qgj λj hj=>?_;have hk:k<x.sK.n:=by simpa using hk
 rcases(QGc h).cell _ (XN hj) k hk with h|h
 .show((Qb x).getD j [] |>.getD k ⟨0,0⟩).cell ≠ -1
  omega
 .show((Qb x).getD j [] |>.getD k ⟨0,0⟩).cell ≠ -1
  omega
def Z7:WF (QD×Unit):=λ|(x,_)=>(XY x,Yx (JP x).1 (JP x).2,[KF 80 0 (JP x).1 ⟨0,0⟩])
def QPm:FC:=wFC Z7
theorem QY5:WOk (Z7 (x,())).2.1 (Z7 (x,())).2.2:=⟨rfl,by simp[Z7,KF,Blk.own,Blk.all],rfl⟩
theorem QfU(hx:(Z7 (x,())).1=true):QO prog 11 (wFC (JN Z7 (x,()))):=by
 obtain⟨hs,h4⟩:=QGO hx;have hT:QZ (VZ QV x (QY x) (Qo x)):=VD.add (QDT x hs h4);refine Vt (c:=Qi f11) (E:=mkE prog (VZ QV x (QY x) (Qo x))) (H:=rhH prog QV x (QY x) (Qo x) (rtO (QY x) x.sK.n)) (QL hT) func11 (by kernel_rfl) (by kernel_rfl) (N:=8) (by decide) (x,()) (λG h1 h2=>Qcm x h4 hT G h1 h2) (QY5 x) ?_
 refine Qp (QZm QV x (QY x) (Qo x) (rtO (QY x) x.sK.n)) ?_;have hv:=QQJ x;refine QF ?_ ?_
 .refine KP.2 ?_
  repeat' first|with_reducible refine QK ?_ ?_|exact tv|refine aI ?_ ?_
 refine QH ?_ ?_<;>intro b0
 .have he:Qo x≠0:=by simpa using b0
  have hw:Z7 (x,())=(XY x,Yx [] (Qo x),[KF 80 0 ([]:List QB) ⟨0,0⟩]):=by
   have:(Qo x==0)=false:=by simpa using he
   simp only[Z7,hv,this,cond_false]
  rw[hw];refine⟨rfl,rfl,_,QbW (Qo x) [] (Qo x),?_⟩
  repeat' first|with_reducible refine QK ?_ ?_|exact tv|exact rfl|refine aI ?_ ?_
 .have he:Qo x=0:=by simpa using b0
  have hr:=vr h4 he
  iterate 36 refine QX (by first|exact tv|exact he|exact rfl) ?_
  refine KB λa0=>?_;refine Q7 λg0=>?_
  have hw:Z7 (x,())=(XY x,Yx (rtO (QY x) x.sK.n) 0,[KF 80 0 (rtO (QY x) x.sK.n) ⟨0,0⟩]):=by
   have:(Qo x==0)=true:=by simpa using he
   have e2:rtO (QY x) x.sK.n=Y9 (Qb x) x.sK.n:=by rw[hr.e];exact QUf (zu he).1
   simp only[Z7,hv,this,cond_true,e2];rw[he]
  rw[hw];refine⟨rfl,rfl,_,QTU (rtO (QY x) x.sK.n) (rtO (QY x) x.sK.n) 0,?_⟩
  repeat' first|with_reducible refine QK ?_ ?_|exact tv|exact rfl|refine aI ?_ ?_
theorem QU1:QO prog 11 QPm:=WL (by kernel_rfl) λ|(x,()),hx=>QfU x hx
end Go.Proofs.YtbpffdkemeoajaaGreat
namespace Go.SX
open Go Go.RowKit Go.Proofs.YtbpffdkemeoajaaGreat
def QMN(rw_:Bool)(E:Env)(H:Hnd)(fn:Func):FC:=λargs nid _=>QAF rw_ E H fn args nid (YK (AV.idsFromL 0 args) [])
variable {f:FuncId}
theorem Qeh{E:Env}(hE:E.Sound){H:Hnd}{rw_:Bool}{fn:Func}{c:Code}(hf:E.P.funcs[f]? = some fn)(hb:fn.body=some c)(hgo:VB E.P f=true)(hl:∀ G,G.rd=none->Q8 E G H c):QO E.P f (QMN rw_ E H fn):=by
 have h:=QHb (rw_:=rw_) hE hf hb hgo hl;exact⟨h.1,λargs nid all r w lk blks eff hH ha hv he hp=>h.2 args nid (YK (AV.idsFromL 0 args) []) r w lk blks eff hH ha hv he hp⟩
def QHN(fc:FC):FC:=λargs nid _=>((fc args nid (YK (AV.idsFromL 0 args) [])).1,λblks=>match (fc args nid (YK (AV.idsFromL 0 args) [])).2 blks with
 | some e=>some ⟨true,e.pre,e.val.setK true,e.upd⟩
 | none=>none)
theorem QeS{P:Program}{fc:FC}(h:QO P f fc):QO P f (QHN fc):=by
 refine⟨h.1,λargs nid all r w lk blks eff hH ha hv he hp=>?_⟩;simp only[QHN]at hv he;split at he<;>(try (cases he;done))
 rename_i e h0;simp only[qsI]at he;subst he;refine(h.2 args nid (YK (AV.idsFromL 0 args) []) r w lk blks e hH ha hv h0 hp).mono ?_;rintro e' w' ⟨r',rfl,hpost⟩;exact⟨r',by simp only;rw[ju],hpost⟩
end Go.SX
namespace Go.Proofs.YtbpffdkemeoajaaGreat
open Go.SX
abbrev mkG(P:Program)(C:Tab):Env:=⟨P,C,vJ P,false,λ_=>false,false,true,false⟩
theorem QIl{C:Tab}(hC:QZ C):(mkG prog C).Sound:={ c:=hC,m:=QAn prog,mixed:=HL }
def QPj:List (Nat×Nat)->Nat->Nat
 | [],_=>0
 | (g,k)::l,f=>match Nat.beq g f with
  | true=>k
  | false=>QPj l f
def ZY(P:Program)(B:Tab)(l:List (Nat×Nat)):Nat->Tab
 | 0=>λ_=>none
 | d+1=>λf=>match B f with
  | some fc=>some (QHN fc)
  | none=>match QPj l f with
   | 0=>none
   | k=>match P.funcs[f]? with
    | none=>none
    | some fn=>match fn.body.isSome&&VB P f with
     | false=>none
     | true=>match k with
      | 1=>some (QMN false (mkG P (ZY P B l d)) (hnd (mkG P (ZY P B l d)) 60) fn)
      | 2=>some (QAF false (mkG P (ZY P B l d)) (hnd (mkG P (ZY P B l d)) 60) fn)
      | _=>some (QAF true (mkG P (ZY P B l d)) (hnd (mkG P (ZY P B l d)) 60) fn)
theorem QPk{B:Tab}(hB:QZ B)(l:List (Nat×Nat)):∀ d,QZ (ZY prog B l d)
 | 0=>λf fc h=>by cases h
 | d+1=>λf fc h=>by
  have ih:=QIl (QPk hB l d);simp only[ZY]at h;split at h
  .rename_i fc0 h0;simp only[qsI]at h;subst h;exact QeS (hB _ _ h0)
  split at h
  .cases h
  .split at h
   .cases h
   .rename_i fn hf;split at h
    .cases h
    .rename_i hb;simp only[qbA,Option.isSome_iff_exists]at hb;obtain⟨⟨c,hc⟩,hgo⟩:=hb;split at h<;>simp only[qsI]at h<;>subst h
     .exact Qeh ih hf hc hgo λG hG=>Qw ih 60 G _ hG
     .exact QHb ih hf hc hgo λG hG=>Qw ih 60 G _ hG
     .exact QHb ih hf hc hgo λG hG=>Qw ih 60 G _ hG
def QZK:Unit->Bool×AV:=λ_=>(true,.bool false true)
def QFm:FC:=KM (KN QZK)
variable {f:FuncId}(a b:Rw Int)(k:Nat)
theorem Qea{C:Tab}(hC:QZ C)(d:Nat){fn:Func}(hf:prog.funcs[f]? = some fn)(hb:fn.body=some (Qi fn))(hgo:VB prog f=true)(h:KJ (mkG prog C) (hnd (mkG prog C) d) false fn [] [] 0 = .leaf (.bool true true) []):QO prog f QFm:=by
 refine QH8 (QIl hC) hf hb hgo (λG _ hG=>Qw (QIl hC) d G _ hG) ?_;rintro⟨⟩ _;rw[show(Q3.enc ((()):Unit):List AV)=[]from rfl,h];rfl
def QHW:List (Nat×Nat):=[(113,1)]
theorem QWu:KJ (mkG prog (ZY prog K4 QHW 12)) (hnd (mkG prog (ZY prog K4 QHW 12)) 100) false f7 [] [] 0 = .leaf (.bool true true) []:=by kernel_rfl
theorem Qg0:QO prog 7 QFm:=Qea (QPk Vz QHW 12) 100 func7 (by kernel_rfl) (by kernel_rfl) QWu
def ssQ(a b:Rw QB)(i:Nat):Bool := !((a.get i).cell==(b.get i).cell&&((a.get i).turn==(b.get i).turn&&true))
def Ke(a b:Rw QB):Bool:=((a.n:Int)==b.n)&&(QN (ssQ a b) a.n 0).isNone
def ssJ(a b:Rw QB)(k:Nat):JSt:=⟨26,[(0,.slz 0 0 a.n (.of 0)),(1,.slz 1 0 b.n (.of 0)),(5,.int false .i64 k)],KD.blk 0 a++KD.blk 1 b,8⟩
def isQ(i:Nat):Bool:=a.get i != b.get i
def Xa:Bool:=((a.n:Int)==b.n)&&(QN (isQ a b) a.n 0).isNone
def isJ:JSt:=⟨26,[(0,.slz 0 0 a.n (.of 0)),(1,.slz 1 0 b.n (.of 0)),(5,.int false .i64 k)],KD.blk 0 a++KD.blk 1 b,8⟩
def QBy:Ex->List Nat
 | .normal=>[0,1,5]
 | .exit _=>[]
 | .ret=>[4]
theorem QUI(a b:Rw QB)(k:Nat)(g:Nat->Value):exec (mkE prog K4) (hnd (mkE prog K4) 0) (QT f15 0) (JSt.inst (ssJ a b k) g) (KG [] QBy)=QE.br (decide ((↑k:Int)<(↑a.n:Int))) (QE.need (decide ((0:Int)<=(↑k:Int)/\(↑k:Int)<(↑a.n:Int))&&decide (a.n<=a.n)) (QE.need (decide (k<a.n)) (QE.need (decide ((0:Int)<=(↑k:Int)/\(↑k:Int)<(↑b.n:Int))&&decide (b.n<=b.n)) (QE.need (decide (k<b.n)) (QE.br (!((a.get k).cell==(b.get k).cell&&((a.get k).turn==(b.get k).turn&&true))) (QE.leaf (AV.tup [AV.nili,AV.ptr (26:Nat) (0:Nat) (0:Nat),AV.bool true false]) ([])) (QE.leaf (AV.tup [AV.nilp,AV.ptr (26:Nat) (0:Nat) (0:Nat),AV.slz (0:Nat) (0:Nat) a.n cO,AV.slz (1:Nat) (0:Nat) b.n cO,vi (i64.wrap ((↑k:Int)+(1:Int)))]) ([((0:Nat),Blk.frz [CK.int i64,CK.int i64] a.n λi=>QA.enc (a.get i)),((1:Nat),Blk.frz [CK.int i64,CK.int i64] b.n λi=>QA.enc (b.get i))]))))))) (QE.leaf (AV.tup [AV.ptr (0:Nat) (0:Nat) (0:Nat),AV.ptr (26:Nat) (0:Nat) (0:Nat)]) ([])):=by kernel_rfl
theorem QYi(g:Nat->Value):exec (mkE prog K4) (hnd (mkE prog K4) 0) (QT f14 0) (JSt.inst (isJ a b k) g) (KG [] QBy)=QE.br (decide ((↑k:Int)<(↑a.n:Int))) (QE.need (decide ((0:Int)<=(↑k:Int)/\(↑k:Int)<(↑a.n:Int))&&decide (a.n<=a.n)) (QE.need (decide (k<a.n)) (QE.need (decide ((0:Int)<=(↑k:Int)/\(↑k:Int)<(↑b.n:Int))&&decide (b.n<=b.n)) (QE.need (decide (k<b.n)) (QE.br (a.get k != b.get k) (QE.leaf (AV.tup [AV.nili,AV.ptr (26:Nat) (0:Nat) (0:Nat),AV.bool true false]) ([])) (QE.leaf (AV.tup [AV.nilp,AV.ptr (26:Nat) (0:Nat) (0:Nat),AV.slz (0:Nat) (0:Nat) a.n cO, AV.slz (1:Nat) (0:Nat) b.n cO,vi (i64.wrap ((↑k:Int)+(1:Int)))]) ([((0:Nat),Blk.frz [CK.int i64] a.n λi=>QA.enc (a.get i)),((1:Nat),Blk.frz [CK.int i64] b.n λi=>QA.enc (b.get i))]))))))) (QE.leaf (AV.tup [AV.ptr (0:Nat) (0:Nat) (0:Nat),AV.ptr (26:Nat) (0:Nat) (0:Nat)]) ([])):=by kernel_rfl
def QHV:JSt:=⟨26,[(4,.bool false false)],[],8⟩
def QIX:JSt:=⟨26,[],[],8⟩
def twR(p:Nat->Bool)(n k:Nat)(e:Ex)(J:JSt):Prop:=(e = .ret/\(QN p (n-k) k).isNone=false/\J=QHV)∨(e = .exit 0/\(QN p (n-k) k).isNone=true/\J=QIX)
theorem QLV :QI 8 [AV.bool true false] ([]) QHV=( some [false=false]):=by kernel_rfl
theorem QWl(a b:Rw QB)(k k':Nat):QI 8 [AV.slz (0:Nat) (0:Nat) a.n cO,AV.slz (1:Nat) (0:Nat) b.n cO,vi (i64.wrap ((↑k:Int)+(1:Int)))] ([((0:Nat),Blk.frz [CK.int i64,CK.int i64] a.n λi=>QA.enc (a.get i)),((1:Nat),Blk.frz [CK.int i64,CK.int i64] b.n λi=>QA.enc (b.get i))]) (ssJ a b k')=( some [0=0,a.n=a.n,cO=cO,0=0,b.n=b.n,cO=cO,i64.wrap ((↑k:Int)+(1:Int))=(↑k':Int),a.n<=a.n,QC (2:Nat) a.n (λi=>QA.enc (a.get i)) λi=>QA.enc (a.get i),b.n<=b.n,QC (2:Nat) b.n (λi=>QA.enc (b.get i)) λi=>QA.enc (b.get i)]):=by kernel_rfl
theorem QSB :QI 8 [] ([]) QIX=( some []):=by kernel_rfl
theorem QTo(k k':Nat):QI 8 [AV.slz (0:Nat) (0:Nat) a.n cO,AV.slz (1:Nat) (0:Nat) b.n cO,vi (i64.wrap ((↑k:Int)+(1:Int)))] ([((0:Nat),Blk.frz [CK.int i64] a.n λi=>QA.enc (a.get i)),((1:Nat),Blk.frz [CK.int i64] b.n λi=>QA.enc (b.get i))]) (isJ a b k')=( some [0=0,a.n=a.n,cO=cO,0=0,b.n=b.n,cO=cO,i64.wrap ((↑k:Int)+(1:Int))=(↑k':Int),a.n<=a.n,QC (1:Nat) a.n (λi=>QA.enc (a.get i)) λi=>QA.enc (a.get i),b.n<=b.n,QC (1:Nat) b.n (λi=>QA.enc (b.get i)) λi=>QA.enc (b.get i)]):=by kernel_rfl
theorem QJV{p:Nat->Bool}{n k:Nat}(h:k<n):(p k=true->QN p (n-k) k=some k)/\(p k=false->QN p (n-k) k=QN p (n-(k+1)) (k+1)):=by
 obtain⟨m,hm⟩:∃ m,n-k=m+1:=⟨n-k-1,by omega⟩
 rw[hm,show n-(k+1)=m by omega,QN]
 exact⟨λe=>by rw[e],λe=>by rw[e]⟩
theorem Qff(a b:Rw QB)(hl:a.n=b.n/\a.n<=1000):Kk (ssJ a b) (λk=>k<=a.n) (λk=>a.n-k) (twR (ssQ a b) a.n) 8 QBy [] (mkE prog K4) (λ_=>hnd (mkE prog K4) 0) (QT f15 0):=by
 obtain⟨hab,hl⟩:=hl;refine⟨λk g hk=>Qp (QUI a b k g) ?_⟩;refine QH ?_ ?_<;>intro h
 .have h:k<a.n:=by have:=qdt h;omega
  have hf:=QJV (p:=ssQ a b) h
  repeat' refine QF (by simp;omega) ?_
  refine QH ?_ ?_<;>intro hb
  .exact⟨_,.inl ⟨rfl,by rw[hf.1 hb];rfl,rfl⟩,rfl,rfl,_,QLV,⟨rfl,trivial⟩⟩
  .refine⟨k+1,by omega,by show a.n-(k+1)<a.n-k;omega,λe J h=>by unfold twR at h ⊢;rw[hf.2 hb];exact h,rfl,rfl,_,QWl _ _ _ (k+1),?_⟩
   repeat' first|with_reducible refine QK ?_ ?_|exact tv|exact KW h hl|refine aI ?_ ?_
 .have h:a.n<=k:=by have:=qdf h;omega
  exact⟨_,.inr ⟨rfl,by rw[show a.n-k=0 by omega];rfl,rfl⟩,rfl,rfl,_,QSB,trivial⟩
theorem Qcc(hl:a.n=b.n/\a.n<=1000):Kk (isJ a b) (λk=>k<=a.n) (λk=>a.n-k) (twR (isQ a b) a.n) 8 QBy [] (mkE prog K4) (λ_=>hnd (mkE prog K4) 0) (QT f14 0):=by
 obtain⟨hab,hl⟩:=hl;refine⟨λk g hk=>Qp (QYi a b k g) ?_⟩;refine QH ?_ ?_<;>intro h
 .have h:k<a.n:=by have:=qdt h;omega
  have hf:=QJV (p:=isQ a b) h
  repeat' refine QF (by simp;omega) ?_
  refine QH ?_ ?_<;>intro hb
  .exact⟨_,.inl ⟨rfl,by rw[hf.1 hb];rfl,rfl⟩,rfl,rfl,_,QLV,⟨rfl,trivial⟩⟩
  .refine⟨k+1,by omega,by show a.n-(k+1)<a.n-k;omega,λe J h=>by unfold twR at h ⊢;rw[hf.2 hb];exact h,rfl,rfl,_,QTo _ _ _ (k+1),?_⟩
   repeat' first|with_reducible refine QK ?_ ?_|exact tv|exact KW h hl|refine aI ?_ ?_
 .have h:a.n<=k:=by have:=qdf h;omega
  exact⟨_,.inr ⟨rfl,by rw[show a.n-k=0 by omega];rfl,rfl⟩,rfl,rfl,_,QSB,trivial⟩
def twX(p:Nat->Bool)(n:Nat):List (Prop×Ex×JSt):=[((QN p n 0).isNone=false,.ret,QHV),((QN p n 0).isNone=true,.exit 0,QIX)]
abbrev ssH(P:Program)(a b:Rw QB):Hnd:={ hnd (mkE P K4) 1 with loop:=λ_=>Jp (a.n=b.n/\a.n<=1000) (Q4 8 [] (ssJ a b 0) (twX (ssQ a b) a.n)) }
abbrev isH(P:Program)(a b:Rw Int):Hnd:={ hnd (mkE P K4) 1 with loop:=λ_=>Jp (a.n=b.n/\a.n<=1000) (Q4 8 [] (isJ a b 0) (twX (isQ a b) a.n)) }
theorem Qb9(a b:Rw QB)(G:Ctx)(hrd:G.rd=none)(hG:G.n=8):Q8 (mkE prog K4) G (ssH prog a b) (Qi f15):=by
 refine Kg (body:=QT f15 0) (QL Vz) hrd (by kernel_rfl) ?_
 refine Vv λhl=>?_;refine Kr (n0:=8) (QL Vz) (by omega) (λs hs=>Qw (QL Vz) 0 G _ hrd) (λs hs=>qlr _) ?_ (Qff a b hl) (s0:=0) (Nat.zero_le _) ?_
 .rintro s e J (⟨_,_,rfl⟩|⟨_,_,rfl⟩)<;>exact qlr _
 .rintro e J (⟨rfl,h,rfl⟩|⟨rfl,h,rfl⟩)
  .exact⟨_,qmc,h,rfl,rfl⟩
  .exact⟨_,List.mem_cons_of_mem _ qmc,h,rfl,rfl⟩
theorem QXS(G:Ctx)(hrd:G.rd=none)(hG:G.n=8):Q8 (mkE prog K4) G (isH prog a b) (Qi f14):=by
 refine Kg (body:=QT f14 0) (QL Vz) hrd (by kernel_rfl) ?_
 refine Vv λhl=>?_;refine Kr (n0:=8) (QL Vz) (by omega) (λs hs=>Qw (QL Vz) 0 G _ hrd) (λs hs=>qlr _) ?_ (Qcc a b hl) (s0:=0) (Nat.zero_le _) ?_
 .rintro s e J (⟨_,_,rfl⟩|⟨_,_,rfl⟩)<;>exact qlr _
 .rintro e J (⟨rfl,h,rfl⟩|⟨rfl,h,rfl⟩)
  .exact⟨_,qmc,h,rfl,rfl⟩
  .exact⟨_,List.mem_cons_of_mem _ qmc,h,rfl,rfl⟩
def ssF:WF ((Rw QB)×(Rw QB)×Unit):=λ|(a,(b,_))=>(decide (a.n<=1000/\b.n<=1000),.bool false (Ke a b),[])
def ssC:FC:=wFC ssF
theorem QdW(a:(Rw QB))(b:(Rw QB)):KI (mkE prog K4) (ssH prog a b) f15 (QW.vals 0 ((a,b,()):(Rw QB)×(Rw QB)×Unit)) (QW.blks 0 ((a,b,()):(Rw QB)×(Rw QB)×Unit)) 8=QE.br ((↑a.n:Int) != (↑b.n:Int)) (QE.leaf (AV.bool true false) ([])) (QE.ask (a.n=b.n/\a.n<=(1000:Nat)) (QE.ask (0=0) (QE.ask (a.n=a.n) (QE.ask (cO=cO) (QE.ask (0=0) (QE.ask (b.n=b.n) (QE.ask (cO=cO) (QE.ask ((0:Int)=(0:Int)) (QE.ask (a.n<=a.n) (QE.ask (QC (2:Nat) a.n (λi=>QA.enc (a.get i)) λi=>QA.enc (a.get i)) (QE.ask (b.n<=b.n) (QE.ask (QC (2:Nat) b.n (λi=>QA.enc (b.get i)) λi=>QA.enc (b.get i)) (QE.both (QE.asm ((QN (ssQ a b) a.n (0:Nat)).isNone=false) (QE.all (λ(g0:Nat->Value)=>QE.leaf (AV.bool false false) ([])))) (QE.asm ((QN (ssQ a b) a.n (0:Nat)).isNone=true) (QE.all (λ(g1:Nat->Value)=>QE.leaf (AV.bool true true) ([]))))))))))))))))):=by kernel_rfl
theorem QVC:JG (mkE prog K4) (Qi f15) 8 ssF (λx_=>(ssH prog x_.1 x_.2.1)):=by
 refine⟨?_⟩;rintro⟨a,⟨b,⟨⟩⟩⟩ hp G h1 h2;exact Qb9 a b G h1 h2
theorem QY6:JF (mkE prog K4) f15 8 ssF (λx_=>(ssH prog x_.1 x_.2.1)):=by
 refine⟨?_⟩;rintro⟨a,⟨b,⟨⟩⟩⟩ hp;refine⟨⟨rfl,by simp[ssF],rfl⟩,⟨?_⟩⟩
 rw[QdW a b];simp only[ssF]at hp;have hp:=qdt hp;refine QH (λh=>KT ?_ rfl) (λh=>?_)
 .have:((a.n:Int)==b.n)=false:=by simpa using h
  show false=Ke a b;simp only[Ke,this];rfl
 .have hab:a.n=b.n:=by simp only[bne_eq_false_iff_eq]at h;omega
  have e:((a.n:Int)==b.n)=true:=by rw[hab];simp
  refine QX ⟨hab,hp.1⟩ ?_
  repeat' first|refine QX (show _=_ by with_reducible rfl) ?_|refine QX (show _<=_ from qlr _) ?_|refine QX (show QC _ _ _ _ from qRr) ?_
  refine Vx (KB λh=>Q7 λg=>?_) (KB λh=>Q7 λg=>?_)
  .exact KT (show _=Ke a b by simp only[Ke,e,h];rfl) rfl
  .exact KT (show _=Ke a b by simp only[Ke,e,h];rfl) rfl
theorem QX5:QO prog 15 ssC:=
 JI (QL Vz) func15 (by kernel_rfl) (by kernel_rfl) (by decide) QVC QY6
def H4:WF ((Rw Int)×(Rw Int)×Unit):=λ|(a,(b,_))=>(decide (a.n<=1000/\b.n<=1000),.bool false (Xa a b),[])
def QQO:FC:=wFC H4
theorem QZz(a:(Rw Int))(b:(Rw Int)):KI (mkE prog K4) (isH prog a b) f14 (QW.vals 0 ((a,b,()):(Rw Int)×(Rw Int)×Unit)) (QW.blks 0 ((a,b,()):(Rw Int)×(Rw Int)×Unit)) 8=QE.br ((↑a.n:Int) != (↑b.n:Int)) (QE.leaf (AV.bool true false) ([])) (QE.ask (a.n=b.n/\a.n<=(1000:Nat)) (QE.ask (0=0) (QE.ask (a.n=a.n) (QE.ask (cO=cO) (QE.ask (0=0) (QE.ask (b.n=b.n) (QE.ask (cO=cO) (QE.ask ((0:Int)=(0:Int)) (QE.ask (a.n<=a.n) (QE.ask (QC (1:Nat) a.n (λi=>QA.enc (a.get i)) λi=>QA.enc (a.get i)) (QE.ask (b.n<=b.n) (QE.ask (QC (1:Nat) b.n (λi=>QA.enc (b.get i)) λi=>QA.enc (b.get i)) (QE.both (QE.asm ((QN (isQ a b) a.n (0:Nat)).isNone=false) (QE.all (λ(g0:Nat->Value)=>QE.leaf (AV.bool false false) ([])))) (QE.asm ((QN (isQ a b) a.n (0:Nat)).isNone=true) (QE.all (λ(g1:Nat->Value)=>QE.leaf (AV.bool true true) ([]))))))))))))))))):=by kernel_rfl
theorem QYl:JG (mkE prog K4) (Qi f14) 8 H4 (λx_=>(isH prog x_.1 x_.2.1)):=by
 refine⟨?_⟩;rintro⟨a,⟨b,⟨⟩⟩⟩ hp G h1 h2;exact QXS a b G h1 h2
theorem Qd5:JF (mkE prog K4) f14 8 H4 (λx_=>(isH prog x_.1 x_.2.1)):=by
 refine⟨?_⟩;rintro⟨a,⟨b,⟨⟩⟩⟩ hp;refine⟨⟨rfl,by simp[H4],rfl⟩,⟨?_⟩⟩
 rw[QZz a b];simp only[H4]at hp;have hp:=qdt hp;refine QH (λh=>KT ?_ rfl) (λh=>?_)
 .have:((a.n:Int)==b.n)=false:=by simpa using h
  show false=Xa a b;simp only[Xa,this];rfl
 .have hab:a.n=b.n:=by simp only[bne_eq_false_iff_eq]at h;omega
  have e:((a.n:Int)==b.n)=true:=by rw[hab];simp
  refine QX ⟨hab,hp.1⟩ ?_
  repeat' first|refine QX (show _=_ by with_reducible rfl) ?_|refine QX (show _<=_ from qlr _) ?_|refine QX (show QC _ _ _ _ from qRr) ?_
  refine Vx (KB λh=>Q7 λg=>?_) (KB λh=>Q7 λg=>?_)
  .exact KT (show _=Xa a b by simp only[Xa,e,h];rfl) rfl
  .exact KT (show _=Xa a b by simp only[Xa,e,h];rfl) rfl
theorem QZy:QO prog 14 QQO:=
 JI (QL Vz) func14 (by kernel_rfl) (by kernel_rfl) (by decide) QYl Qd5
theorem Qd(a:Rw QB):Ke a a=true:=by
 unfold Ke;rw[Hb (λi _ _=>by simp only[ssQ,beq_self_eq_true,Bool.and_self,Bool.not_true])];simp
theorem Qf:Xa a a=true:=by
 unfold Xa;rw[Hb (λi _ _=>by simp[isQ])];simp
open Go Go.SX
def ZT(pb:List Prop->Bool)(x:QD)(T:List (List QB))(e:Int):Tab:=Qh (Qh (Qh (Qh (Qh (Qh (Qh (Qh (Qh (Qh (Qh XV 7 QFm) 16 (Yd QPV)) 8 (Yd QOj)) 10 (Yd QR3)) 12 (Yd miC)) 14 (Yd QQO)) 15 (Yd ssC)) 9 (Yd QLx)) 11 (Yd QPm)) 13 (Yd QLW)) 39 (QDC (Jj pb (roU x T e)))
theorem QJd(pb:List Prop->Bool)(x:QD)(T:List (List QB))(e:Int):KI (mkS prog (ZT pb x T e)) (hnd (mkS prog (ZT pb x T e)) 3) f3 (QW.vals 0 ((x,()):QD×Unit)) (QW.blks 0 ((x,()):QD×Unit)) 8 = .need (decide (x.d.ps.n<=x.d.ps.n)&&(decide (x.sK.n<=x.sK.n)&&(decide (x.hang.n<=x.hang.n)&&(true&&(true&&true))))&&true) (.br (Wg x (4:Int) (4:Int)) (.leaf (.bool true true) ([])) (.need (decide (x.d.ps.n<=x.d.ps.n)&&(decide (x.sK.n<=x.sK.n)&&(decide (x.hang.n<=x.hang.n)&&true))&&decide (x.d.ps.n<=1000/\x.sK.n<=1000/\x.hang.n<=1000)) (.need (decide (x.d.ps.n<=x.d.ps.n)&&(decide (x.sK.n<=x.sK.n)&&(decide (x.hang.n<=x.hang.n)&&true))&&XY x) (.need (decide (x.d.ps.n<=x.d.ps.n)&&(decide (x.sK.n<=x.sK.n)&&(decide (x.hang.n<=x.hang.n)&&true))&&decide (x.d.ps.n<=1000/\x.sK.n<=1000/\x.hang.n<=1000)) (.need (decide (x.d.ps.n<=x.d.ps.n)&&(decide (x.sK.n<=x.sK.n)&&(decide (x.hang.n<=x.hang.n)&&true))&&XY x) (.need (decide (x.d.ps.n<=x.d.ps.n)&&(decide (x.sK.n<=x.sK.n)&&(decide (x.hang.n<=x.hang.n)&&true))&&decide (x.d.ps.n<=1000/\x.sK.n<=1000/\x.hang.n<=1000)) (.need (decide (x.d.ps.n<=x.d.ps.n)&&(decide (x.sK.n<=x.sK.n)&&(decide (x.hang.n<=x.hang.n)&&true))&&XY x) (.need (decide ((Q2 x).1.length<=(Q2 x).1.length)&&(decide ((Q2 x).1.length<=(Q2 x).1.length)&&true)&&decide ((Q2 x).1.length<=1000/\(Q2 x).1.length<=1000)) (.need (!!!Xa (Rw.mk (Q2 x).1.length λi=>(Q2 x).1.getD i 0) (Rw.mk (Q2 x).1.length λi=>(Q2 x).1.getD i 0)||!!Xa (Rw.mk (Q2 x).1.length λi=>(Q2 x).1.getD i 0) (Rw.mk (Q2 x).1.length λi=>(Q2 x).1.getD i 0)&&!!Xa (Rw.mk (Q2 x).1.length λi=>(Q2 x).1.getD i 0) (Rw.mk (Q2 x).1.length λi=>(Q2 x).1.getD i 0)) (.need (!Xa (Rw.mk (Q2 x).1.length λi=>(Q2 x).1.getD i 0) (Rw.mk (Q2 x).1.length λi=>(Q2 x).1.getD i 0)||!!Xa (Rw.mk (Q2 x).1.length λi=>(Q2 x).1.getD i 0) (Rw.mk (Q2 x).1.length λi=>(Q2 x).1.getD i 0)) (.bnd (!Xa (Rw.mk (Q2 x).1.length λi=>(Q2 x).1.getD i 0) (Rw.mk (Q2 x).1.length λi=>(Q2 x).1.getD i 0)||(Q2 x).2.1 != (Q2 x).2.1) (λ(x0:Bool)=>.need (!!x0||!x0&&!x0) (.need (x0||!x0) (.bnd (x0||(Q2 x).2.2 != (Q2 x).2.2) (λ(x1:Bool)=>.need (!!x1||decide ((JP x).1.length<=(JP x).1.length)&&(decide ((JP x).1.length<=(JP x).1.length)&&true)&&decide ((JP x).1.length<=1000/\(JP x).1.length<=1000)&&(!x1&&!x1)) (.need (!!x1||!x1) (.need (x1||!x1) (.bnd (x1||!Ke (Rw.mk (JP x).1.length λi=>(JP x).1.getD i ⟨0,0⟩) (Rw.mk (JP x).1.length λi=>(JP x).1.getD i ⟨0,0⟩)) (λ(x2:Bool)=>.need (!!x2||!x2&&!x2) (.need (x2||!x2) (.bnd (x2||(JP x).2 != (JP x).2) (λ(x3:Bool)=>.need (!!x3||!x3&&!x3) (.need (x3||!x3) (.bnd (x3||(miV x).1 != (miV x).1) (λ(x4:Bool)=>.need (!!x4||!x4&&!x4) (.need (x4||!x4) (.bnd (x4||(miV x).2.1 != (miV x).2.1) (λ(x5:Bool)=>.need (!!x5||!x5&&!x5) (.need (x5||!x5) (.bnd (x5||(miV x).2.2 != (miV x).2.2) (λ(x6:Bool)=>.br (x6) (.leaf (.bool true false) ([])) (.need (decide (x.d.ps.n<=x.d.ps.n)&&(decide (x.sK.n<=x.sK.n)&&(decide (x.hang.n<=x.hang.n)&&true))&&decide (x.d.ps.n<=1000/\x.sK.n<=1000/\x.hang.n<=1000)) (.need (pb (xq x++(xp x))) (.br (e != 0) (.need (decide ((Qg x).1.length<=(Qg x).1.length)&&(true&&true)&&decide ((Qg x).1.length<=1000/\0<=1000)) (.need (!Ke (Rw.mk (Qg x).1.length λi=>(Qg x).1.getD i ⟨0,0⟩) (Rw.mk 0 λi=>QB.mk (0:Int) (0:Int))||decide ((Qg x).2.1.length<=(Qg x).2.1.length)&&(true&&true)&&decide ((Qg x).2.1.length<=1000/\0<=1000)&&(Ke (Rw.mk (Qg x).1.length λi=>(Qg x).1.getD i ⟨0,0⟩) (Rw.mk 0 λi=>QB.mk (0:Int) (0:Int))&&Ke (Rw.mk (Qg x).1.length λi=>(Qg x).1.getD i ⟨0,0⟩) (Rw.mk 0 λi=>QB.mk (0:Int) (0:Int)))) (.need (!Ke (Rw.mk (Qg x).1.length λi=>(Qg x).1.getD i ⟨0,0⟩) (Rw.mk 0 λi=>QB.mk (0:Int) (0:Int))||Ke (Rw.mk (Qg x).1.length λi=>(Qg x).1.getD i ⟨0,0⟩) (Rw.mk 0 λi=>QB.mk (0:Int) (0:Int))) (.bnd (Ke (Rw.mk (Qg x).1.length λi=>(Qg x).1.getD i ⟨0,0⟩) (Rw.mk 0 λi=>QB.mk (0:Int) (0:Int))&&Ke (Rw.mk (Qg x).2.1.length λi=>(Qg x).2.1.getD i ⟨0,0⟩) (Rw.mk 0 λi=>QB.mk (0:Int) (0:Int))) (λ(x7:Bool)=>.need (!x7||x7&&x7) (.need (!x7||x7) (.bnd (x7&&(Qg x).2.2.1==0) (λ(x8:Bool)=>.need (!x8||x8&&x8) (.need (!x8||x8) (.bnd (x8&&(Qg x).2.2.2==e) (λ(x9:Bool)=>.need (!x9||x9) (.bnd (x9||false) (λ(x10:Bool)=>.leaf (.bool false x10) ([])))))))))))))) (.br ((T.length:Int)==1) (.need (decide ((0:Int)<=0/\(0:Int)<(T.length:Int))&&decide (T.length<=T.length)) (.need (decide (Int.toNat (0:Int)<T.length)) (.need (decide ((Qg x).1.length<=(Qg x).1.length)&&(decide ((QG T (Int.toNat (0:Int))).length<=(QG T (Int.toNat (0:Int))).length)&&true)&&decide ((Qg x).1.length<=1000/\(QG T (Int.toNat (0:Int))).length<=1000)) (.need (!Ke (Rw.mk (Qg x).1.length λi=>(Qg x).1.getD i ⟨0,0⟩) (Rw.mk (QG T (Int.toNat (0:Int))).length λi=>(QG T (Int.toNat (0:Int))).getD i ⟨0,0⟩)||decide ((Qg x).2.1.length<=(Qg x).2.1.length)&&(true&&true)&&decide ((Qg x).2.1.length<=1000/\0<=1000)&&(Ke (Rw.mk (Qg x).1.length λi=>(Qg x).1.getD i ⟨0,0⟩) (Rw.mk (QG T (Int.toNat (0:Int))).length λi=>(QG T (Int.toNat (0:Int))).getD i ⟨0,0⟩)&&Ke (Rw.mk (Qg x).1.length λi=>(Qg x).1.getD i ⟨0,0⟩) (Rw.mk (QG T (Int.toNat (0:Int))).length λi=>(QG T (Int.toNat (0:Int))).getD i ⟨0,0⟩))) (.need (!Ke (Rw.mk (Qg x).1.length λi=>(Qg x).1.getD i ⟨0,0⟩) (Rw.mk (QG T (Int.toNat (0:Int))).length λi=>(QG T (Int.toNat (0:Int))).getD i ⟨0,0⟩)||Ke (Rw.mk (Qg x).1.length λi=>(Qg x).1.getD i ⟨0,0⟩) (Rw.mk (QG T (Int.toNat (0:Int))).length λi=>(QG T (Int.toNat (0:Int))).getD i ⟨0,0⟩)) (.bnd (Ke (Rw.mk (Qg x).1.length λi=>(Qg x).1.getD i ⟨0,0⟩) (Rw.mk (QG T (Int.toNat (0:Int))).length λi=>(QG T (Int.toNat (0:Int))).getD i ⟨0,0⟩)&&Ke (Rw.mk (Qg x).2.1.length λi=>(Qg x).2.1.getD i ⟨0,0⟩) (Rw.mk 0 λi=>QB.mk (0:Int) (0:Int))) (λ(x11:Bool)=>.need (!x11||x11&&x11) (.need (!x11||x11) (.bnd (x11&&(Qg x).2.2.1==1) (λ(x12:Bool)=>.need (!x12||x12&&x12) (.need (!x12||x12) (.bnd (x12&&(Qg x).2.2.2==0) (λ(x13:Bool)=>.need (!x13||x13) (.bnd (x13||false) (λ(x14:Bool)=>.leaf (.bool false x14) ([])))))))))))))))) (.need (decide ((0:Int)<=0/\(0:Int)<(T.length:Int))&&decide (T.length<=T.length)) (.need (decide (Int.toNat (0:Int)<T.length)) (.need (decide ((0:Int)<=1/\(1:Int)<(T.length:Int))&&decide (T.length<=T.length)) (.need (decide (Int.toNat (1:Int)<T.length)) (.need (decide ((Qg x).1.length<=(Qg x).1.length)&&(decide ((QG T (Int.toNat (0:Int))).length<=(QG T (Int.toNat (0:Int))).length)&&true)&&decide ((Qg x).1.length<=1000/\(QG T (Int.toNat (0:Int))).length<=1000)) (.need (!Ke (Rw.mk (Qg x).1.length λi=>(Qg x).1.getD i ⟨0,0⟩) (Rw.mk (QG T (Int.toNat (0:Int))).length λi=>(QG T (Int.toNat (0:Int))).getD i ⟨0,0⟩)||decide ((Qg x).2.1.length<=(Qg x).2.1.length)&&(decide ((QG T (Int.toNat (1:Int))).length<=(QG T (Int.toNat (1:Int))).length)&&true)&&decide ((Qg x).2.1.length<=1000/\(QG T (Int.toNat (1:Int))).length<=1000)&&(Ke (Rw.mk (Qg x).1.length λi=>(Qg x).1.getD i ⟨0,0⟩) (Rw.mk (QG T (Int.toNat (0:Int))).length λi=>(QG T (Int.toNat (0:Int))).getD i ⟨0,0⟩)&&Ke (Rw.mk (Qg x).1.length λi=>(Qg x).1.getD i ⟨0,0⟩) (Rw.mk (QG T (Int.toNat (0:Int))).length λi=>(QG T (Int.toNat (0:Int))).getD i ⟨0,0⟩))) (.need (!Ke (Rw.mk (Qg x).1.length λi=>(Qg x).1.getD i ⟨0,0⟩) (Rw.mk (QG T (Int.toNat (0:Int))).length λi=>(QG T (Int.toNat (0:Int))).getD i ⟨0,0⟩)||Ke (Rw.mk (Qg x).1.length λi=>(Qg x).1.getD i ⟨0,0⟩) (Rw.mk (QG T (Int.toNat (0:Int))).length λi=>(QG T (Int.toNat (0:Int))).getD i ⟨0,0⟩)) (.bnd (Ke (Rw.mk (Qg x).1.length λi=>(Qg x).1.getD i ⟨0,0⟩) (Rw.mk (QG T (Int.toNat (0:Int))).length λi=>(QG T (Int.toNat (0:Int))).getD i ⟨0,0⟩)&&Ke (Rw.mk (Qg x).2.1.length λi=>(Qg x).2.1.getD i ⟨0,0⟩) (Rw.mk (QG T (Int.toNat (1:Int))).length λi=>(QG T (Int.toNat (1:Int))).getD i ⟨0,0⟩)) (λ(x15:Bool)=>.need (!x15||x15&&x15) (.need (!x15||x15) (.bnd (x15&&(Qg x).2.2.1==min (T.length:Int) (100:Int)) (λ(x16:Bool)=>.need (!x16||x16&&x16) (.need (!x16||x16) (.bnd (x16&&(Qg x).2.2.2==0) (λ(x17:Bool)=>.need (!x17||x17) (.bnd (x17||false) (λ(x18:Bool)=>.leaf (.bool false x18) ([]))))))))))))))))))))))))))))))))))))))))))))))))))))):=by kernel_rfl
