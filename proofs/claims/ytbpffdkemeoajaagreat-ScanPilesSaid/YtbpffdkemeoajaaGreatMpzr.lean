/- - -/
import Derived.Test.YtbpffdkemeoajaaGreatMpzq
import Derived.Test.YtbpffdkemeoajaaGreatMpzg
import Derived.Test.YtbpffdkemeoajaaGreatMpza
import Derived.Test.YtbpffdkemeoajaaGreatMps
import Derived.Test.YtbpffdkemeoajaaGreatMpp
import Derived.Test.YtbpffdkemeoajaaGreatMpzf
open Go.Proofs.Tryz
open Go.IntKind (i64)
set_option maxRecDepth 100000
namespace Go.Proofs.YtbpffdkemeoajaaGreat
open Go Go.SX
variable (pb:List Prop->Bool)(x:QD)(T:List (List QB))(e:Int)
set_option maxHeartbeats 1600000 in
theorem Qfv(sure may:Int)(c:Nat)(mm:Int)(n m i:Nat)(g:Xf T n m)(hi:i<T.length):Kk (λk=>vl x T sure may c mm i (J6 (QG T i) c k) k) (λk=>k<=n) (λk=>n-k) (λ_ e J=>e = .exit 4/\J=QJA x T sure may c mm i (J6 (QG T i) c n)) 8 QQ5 [] (mkE prog Km) (λ_=>hnd (mkE prog Km) 3) (Kl (Kl (QT f13 0))):=by
 refine⟨λk g0 hk=>Qp (QUd x T sure may c mm i (J6 (QG T i) c k) k g0) ?_⟩;have hk:k<=n:=hk;have n12:=g.n12;have hlen:(QG T i).length=n:=g.len _ (XN hi);have nb:∀ i n:Nat,i<n->(decide ((0:Int)<=(i:Int)/\(i:Int)<(n:Int))&&decide (n<=n))=true:=λi n h=>by simp;omega
 refine QF (by exact nb _ _ hi) ?_
 refine QF (by exact qde hi) ?_
 refine QH ?_ ?_<;>intro b0
 .have h:k<n:=by have:=qdt b0;omega
  refine QH ?_ ?_<;>intro b1
  .have q:true=J6 (QG T i) c (k+1):=by rw[J6,b1];rfl
   refine⟨k+1,h,by show n-(k+1)<n-k;omega,λ_ _ r=>r,rfl,rfl,_,Qef ..,?_⟩
   repeat' first|with_reducible refine QK ?_ ?_|exact tv|exact q|exact qRr|exact QS _ _ _ _|exact KW h (by omega)|refine aI ?_ ?_
  .refine QF (by exact nb _ _ hi) ?_
   refine QF (by exact qde hi) ?_
   refine QF (by exact nb _ _ (by omega)) ?_
   refine QF (by exact qde (by omega)) ?_
   have q:(((QG T i).getD k ⟨0,0⟩).cell==(c:Int))=J6 (QG T i) c (k+1):=by rw[J6,b1];rfl
   refine⟨k+1,h,by show n-(k+1)<n-k;omega,λ_ _ r=>r,rfl,rfl,_,QgW ..,?_⟩
   repeat' first|with_reducible refine QK ?_ ?_|exact tv|exact q|exact qRr|exact QS _ _ _ _|exact KW h (by omega)|refine aI ?_ ?_
 .have h:k=n:=by have:=qdf b0;omega
  subst h;refine⟨_,⟨rfl,rfl⟩,rfl,rfl,_,QWI ..,?_⟩
  repeat' first|with_reducible refine QK ?_ ?_|exact tv|refine aI ?_ ?_
theorem QXV(sure may:Int)(c:Nat)(n m:Nat)(g:Xf T n m)(hT:T.length<=100000000):Kk (λi=>zn x T sure may c (Ko T c i:Nat) i) (λi=>i<=T.length) (λi=>T.length-i) (λ_ e J=>e = .exit 2/\J=QHk x T sure may c (Ko T c T.length:Nat)) 8 QRK [] (mkE prog Km) (λi=>QGA prog x T sure may c (Ko T c i:Nat) i (J6 (QG T i) c n)) (Kl (QT f13 0)):=by
 refine⟨λi g0 hk=>Qp (QfD x T sure may c (Ko T c i:Nat) i (J6 (QG T i) c n) g0) ?_⟩;have hk:i<=T.length:=hk;have hle:=QFC T c i;refine QH ?_ ?_<;>intro b0
 .have h:i<T.length:=by have:=qdt b0;omega
  have hlen:(T.getD i []).length=n:=g.len _ (XN h);have hw:i64.wrap ((i:Int)+1)=((i+1:Nat):Int):=(w64 (by omega) (by omega)).trans (by omega)
  have hs:Ko T c (i+1)=cond (J6 (QG T i) c n) (Ko T c i) (Ko T c i+1):=by rw[Ko,hlen];rfl
  iterate 40 refine QX (by first|exact tv|exact h) ?_
  refine KB λa0=>?_;refine Q7 λg0=>?_;refine QH ?_ ?_<;>intro b1
  .have hb:J6 (QG T i) c n=false:=by simpa using b1
   have q:i64.wrap (((Ko T c i:Nat):Int)+1)=((Ko T c (i+1):Nat):Int):=by rw[hs,hb,w64 (by omega) (by omega)];rfl
   refine⟨i+1,h,by show T.length-(i+1)<T.length-i;omega,λ_ _ r=>r,rfl,rfl,_,Qb7 ..,?_⟩
   repeat' first|with_reducible refine QK ?_ ?_|exact tv|exact q|exact qRr|exact QS _ _ _ _|exact hw|refine aI ?_ ?_
  .have hb:J6 (QG T i) c n=true:=by simpa using b1
   have q:((Ko T c i:Nat):Int)=((Ko T c (i+1):Nat):Int):=by rw[hs,hb];rfl
   refine⟨i+1,h,by show T.length-(i+1)<T.length-i;omega,λ_ _ r=>r,rfl,rfl,_,QZp ..,?_⟩
   repeat' first|with_reducible refine QK ?_ ?_|exact tv|exact q|exact qRr|exact QS _ _ _ _|exact hw|refine aI ?_ ?_
 .have h:i=T.length:=by have:=qdf b0;omega
  subst h;refine⟨_,⟨rfl,rfl⟩,rfl,rfl,_,QWV ..,?_⟩
  repeat' first|with_reducible refine QK ?_ ?_|exact tv|refine aI ?_ ?_
structure MsB (T:List (List QB)) (c:Nat):Prop where
 s:0<=JQ T c/\JQ T c<512
 m:0<=JK T c/\JK T c<512
theorem Qb0(hd:x.d.ps.n<=9)(hB:∀ c,c<=x.d.ps.n->MsB T c):Kk (λc=>qL x T (JQ T c) (JK T c) c) (λc=>c<=x.d.ps.n) (λc=>x.d.ps.n-c) (λ_ e J=>e = .exit 0/\J=QHo (JQ T x.d.ps.n) (JK T x.d.ps.n)) 8 QNs [] (mkE prog Km) (λc=>QFs prog x T (JQ T c) (JK T c) c (Ko T c T.length:Nat)) (QT f13 0):=by
 refine⟨λc g0 hk=>Qp (QXa x T (JQ T c) (JK T c) c (Ko T c T.length:Nat) g0) ?_⟩;have hk:c<=x.d.ps.n:=hk;obtain⟨⟨s0,s1⟩,m0,m1⟩:=hB c hk;have ws:(true&&(true&&true)&&decide (((0:Int)<=(c:Int)/\(c:Int)<=60)/\0<=JQ T c/\JQ T c<=1152921504606846976))=true:=Bool.and_eq_true_iff.2 ⟨rfl,qde ⟨⟨by omega,by omega⟩,s0,by omega⟩⟩
 have wm:(true&&(true&&true)&&decide (((0:Int)<=(c:Int)/\(c:Int)<=60)/\0<=JK T c/\JK T c<=1152921504606846976))=true:=Bool.and_eq_true_iff.2 ⟨rfl,qde ⟨⟨by omega,by omega⟩,m0,by omega⟩⟩
 have eS:∀ b,((((Ko T c T.length:Nat):Int))==(T.length:Int))=b->JQ T (c+1)=cond b (JZ (JQ T c) (c:Int)) (JQ T c):=λb h=>by
  have:(Ko T c T.length==T.length)=b:=by rw[<-h,Bool.eq_iff_iff,beq_iff_eq,beq_iff_eq];omega
  rw[JQ,this];rfl
 have eM:∀ b,(decide ((((Ko T c T.length:Nat):Int))>0))=b->JK T (c+1)=cond b (JZ (JK T c) (c:Int)) (JK T c):=λb h=>by
  have:decide (0<Ko T c T.length)=b:=by rw[<-h];exact decide_eq_decide.2 (by omega)
  rw[JK,this];rfl
 refine QH ?_ ?_<;>intro b0
 .have h:c<x.d.ps.n:=by have:=qdt b0;omega
  iterate 37 refine QX tv ?_
  refine KB λa0=>?_;refine Q7 λg0=>?_;refine QH ?_ ?_<;>intro b1
  .refine QF (by first|exact ws|exact wm) ?_
   refine QH ?_ ?_<;>intro b2
   .refine QF (by first|exact ws|exact wm) ?_
    refine⟨c+1,h,by show x.d.ps.n-(c+1)<x.d.ps.n-c;omega,λ_ _ r=>r,rfl,rfl,_,Qb4 ..,?_⟩
    have q1:=(eS _ b1).symm;have q2:=(eM _ b2).symm
    repeat' first|with_reducible refine QK ?_ ?_|exact tv|exact q1|exact q2|exact qRr|exact QS _ _ _ _|exact KW h (by omega)|refine aI ?_ ?_
   .refine⟨c+1,h,by show x.d.ps.n-(c+1)<x.d.ps.n-c;omega,λ_ _ r=>r,rfl,rfl,_,QgN ..,?_⟩
    have q1:=(eS _ b1).symm;have q2:=(eM _ b2).symm
    repeat' first|with_reducible refine QK ?_ ?_|exact tv|exact q1|exact q2|exact qRr|exact QS _ _ _ _|exact KW h (by omega)|refine aI ?_ ?_
  .refine QH ?_ ?_<;>intro b3
   .refine QF (by first|exact ws|exact wm) ?_
    refine⟨c+1,h,by show x.d.ps.n-(c+1)<x.d.ps.n-c;omega,λ_ _ r=>r,rfl,rfl,_,QfG ..,?_⟩
    have q1:=(eS _ b1).symm;have q2:=(eM _ b3).symm
    repeat' first|with_reducible refine QK ?_ ?_|exact tv|exact q1|exact q2|exact qRr|exact QS _ _ _ _|exact KW h (by omega)|refine aI ?_ ?_
   .refine⟨c+1,h,by show x.d.ps.n-(c+1)<x.d.ps.n-c;omega,λ_ _ r=>r,rfl,rfl,_,QdC ..,?_⟩
    have q1:=(eS _ b1).symm;have q2:=(eM _ b3).symm
    repeat' first|with_reducible refine QK ?_ ?_|exact tv|exact q1|exact q2|exact qRr|exact QS _ _ _ _|exact KW h (by omega)|refine aI ?_ ?_
 .have h:c=x.d.ps.n:=by have:=qdf b0;omega
  subst h;refine⟨_,⟨rfl,rfl⟩,rfl,rfl,_,QWf ..,?_⟩
  repeat' first|with_reducible refine QK ?_ ?_|exact tv|refine aI ?_ ?_
abbrev rqH(P:Program)(pb:List Prop->Bool)(x:QD)(T:List (List QB))(e:Int)(fy:Nat->Int)(ay:Int)(fz:Nat->Int)(az:Int):Hnd:={ hnd (mkE P (VZ pb x T e)) 1 with loop:=λ_=>Jp (e=0) (Q4 8 [] (qh T x.sK.n fy ay (0:Nat)) [(True,.exit 0,QID x.sK.n fz az)]) }
theorem QTn(x:QD)(T:List (List QB))(e:Int)(fy:Nat->Int)(ay:Int)(fz:Nat->Int)(az:Int):KI (mkE prog (VZ pb x T e)) (rqH prog pb x T e fy ay fz az) f9 (QW.vals 0 ((x,()):QD×Unit)) (QW.blks 0 ((x,()):QD×Unit)) 8 = .need (pb (xq x++(xp x))) (.br (e != 0) (.leaf (.tup [.nils,vj 0,vi e]) ([])) (.need (decide ((x.sK.n:Int)=(x.sK.n:Int))&&decide ((0:Int)<=(x.sK.n:Int)/\(x.sK.n:Int)<=17179869184)) (.ak [e=0,0=0,T.length=T.length,cO=cO,0=0,x.sK.n=x.sK.n,cO=cO,(0:Int)=ay,(0:Int)=0,T.length=T.length,Q1 2 T.length (λi=>(QG T i).length) (λi=>(QG T i).length) (λi j=>QA.enc ((QG T i).getD j ⟨0,0⟩)) λi j=>QA.enc ((QG T i).getD j ⟨0,0⟩),x.sK.n<=x.sK.n,QC 1 x.sK.n (λx x_1=>(0:Int)) λi=>QA.enc (fy i)] (.asm (True) (.all (λ(g0:Nat->Value)=>.leaf (.tup [.slz 40 0 x.sK.n cO,vi az,vj 0]) ([(40,.rowz true 3 [.int .i64] x.sK.n λi=>QA.enc (fz i))]))))))):=by kernel_rfl
theorem QeM(f:List Int)(a e':Int):QI 8 [(AV.tup [AV.nils,vj (0:Int),vi e])] ([]) (KY 8 (Wu f a e') [KF 3 0 f 0])=( some [f.length=(0:Nat),(0:Int)=a,e=e',f.length=(0:Nat)]):=by kernel_rfl
theorem QW6(fz:Nat->Int)(az:Int)(f:List Int)(a e':Int):QI 8 [(AV.tup [AV.slz (40:Nat) (0:Nat) x.sK.n cO,vi az,vj (0:Int)])] ([((40:Nat),Blk.rowz true (3:Nat) [CK.int i64] x.sK.n λi=>QA.enc (fz i))]) (KY 8 (Wu f a e') [KF 3 0 f 0])=( some [0=0,x.sK.n=f.length,cO=cO,az=a,(0:Int)=e',f.length<=x.sK.n,QC (1:Nat) f.length (λi=>QA.enc (fz i)) λi=>QA.enc (f.getD i (0:Int))]):=by kernel_rfl
def XY:Bool:=decide (x.d.ps.n<=1000/\x.sK.n<=1000/\x.hang.n<=1000)&&(!x.ok||decide (x.sK.n<=4))
theorem QGO{x:QD}(h:XY x=true):XZ x/\(x.ok=true->x.sK.n<=4):=by
 unfold XY at h;rw[qbA]at h;obtain⟨h1,h2,h3⟩:=qdt h.1;refine⟨⟨h1,h2,h3⟩,λho=>?_⟩;have:=h.2;rw[ho]at this;simpa using this
theorem QIy{x:QD}(h:Qo x=0):QY x=Qb x:=by unfold QY;rw[h];rfl
theorem Qad{x:QD}(hx:x.ok=true)(h4:x.sK.n<=4):(Qb x).length<=100000000:=by
 have hg:=Jo hx
 have h:=QDb (λl=>QG (Qn x x.sK.n) l.length) (okC x) (zL x) (B:=37) (λl=>by
  show(QG (Qn x x.sK.n) l.length).length<=37
  by_cases h:l.length<x.sK.n
  .rw[Y3 h];have:=Z9 x.d (x.sK.get l.length) x.d.ps.n;have:=hg.d.n9;simp only[K3,List.length_cons];omega
  .rw[j4 (by rw[YJ];omega)];exact Nat.zero_le _) x.sK.n []
 have h2:37^x.sK.n<=37^4:=Nat.pow_le_pow_right (by omega) h4
 have h3:37^4<=100000000:=by decide
 show(VX _ _ _ _ _).length<=_;omega
structure QgS (x:QD) (T:List (List QB)):Prop where
 e:T=Qb x
 g:Xf T x.sK.n x.d.ps.n
 l:T.length<=100000000
theorem vr{x:QD}(h4:x.ok=true->x.sK.n<=4)(he:Qo x=0):QgS x (QY x):=by
 have hx:=(zu he).1;have e:=QIy he;exact⟨e,by rw[e];exact QGc hx,by rw[e];exact Qad hx (h4 hx)⟩
theorem QXq(h4:x.ok=true->x.sK.n<=4)(hT:QZ (VZ QV x (QY x) (Qo x)))(G:Ctx)(hrd:G.rd=none)(hG:G.n=8):Q8 (mkE prog (VZ QV x (QY x) (Qo x))) G (rqH prog QV x (QY x) (Qo x) (pF (QY x) 0 0) (pA (QY x) 0 0) (pF (QY x) (QY x).length 0) (pA (QY x) (QY x).length 0)) (Qi f9):=by
 refine Kg (body:=QT f9 0) (QL hT) hrd (by kernel_rfl) ?_
 refine Vv λhe=>?_;have g:=vr h4 he;refine YG (E:=mkE prog Km) rfl (Kr (I:=λi=>qh (QY x) x.sK.n (pF (QY x) i 0) (pA (QY x) i 0) i) (n0:=8) (QL VD) (by omega) (λs hs=>QbX (QY x) x.sK.n x.d.ps.n s g.g G hrd (by omega)) (λs hs=>(by decide:8<=48)) ?_ (QdU (QY x) x.sK.n x.d.ps.n g.g g.l) (s0:=0) (Nat.zero_le _) ?_)
 .rintro s e J ⟨_,rfl⟩;exact(by decide:8<=48)
 .rintro e J ⟨rfl,rfl⟩;exact⟨_,qmc,trivial,rfl,rfl⟩
def qc:WF (QD×Unit):=λ|(x,_)=>(XY x,Wu (Q2 x).1 (Q2 x).2.1 (Q2 x).2.2,[KF 3 0 (Q2 x).1 0])
def QLx:FC:=wFC qc
theorem Qde:WOk (qc (x,())).2.1 (qc (x,())).2.2:=⟨rfl,by simp[qc,KF,Blk.own,Blk.all],rfl⟩
theorem Qby(hx:(qc (x,())).1=true):QO prog 9 (wFC (JN qc (x,()))):=by
 obtain⟨hs,h4⟩:=QGO hx;have s1:=hs.s;have hT:QZ (VZ QV x (QY x) (Qo x)):=VD.add (QDT x hs h4);refine Vt (c:=Qi f9) (E:=mkE prog (VZ QV x (QY x) (Qo x))) (H:=rqH prog QV x (QY x) (Qo x) (pF (QY x) 0 0) (pA (QY x) 0 0) (pF (QY x) (QY x).length 0) (pA (QY x) (QY x).length 0)) (QL hT) func9 (by kernel_rfl) (by kernel_rfl) (N:=8) (by decide) (x,()) (λG h1 h2=>QXq x h4 hT G h1 h2) (Qde x) ?_
 refine Qp (QTn QV x (QY x) (Qo x) (pF (QY x) 0 0) (pA (QY x) 0 0) (pF (QY x) (QY x).length 0) (pA (QY x) (QY x).length 0)) ?_;obtain⟨v1,v2,v3⟩:=QC3 x;refine QF ?_ ?_
 .refine KP.2 ?_
  repeat' first|with_reducible refine QK ?_ ?_|exact tv|refine aI ?_ ?_
 refine QH ?_ ?_<;>intro b0
 .have he:Qo x≠0:=by simpa using b0
  have hw:qc (x,())=(XY x,Wu [] 0 (Qo x),[KF 3 0 ([]:List Int) 0]):=by
   simp only[qc,v1,(v2 he).1,(v2 he).2]
  rw[hw];refine⟨rfl,rfl,_,QeM (Qo x) [] 0 (Qo x),?_⟩
  repeat' first|with_reducible refine QK ?_ ?_|exact tv|exact rfl|refine aI ?_ ?_
 .have he:Qo x=0:=by simpa using b0
  have hr:=vr h4 he;have hp:=Qgp he;have hn:=(v3 he).len
  have f0:QC 1 x.sK.n (λ_ _=>(0:Int)) (λi=>QA.enc (pF (QY x) 0 0 i)):=by
   intro j hj;show eqF 1 0 (λ_=>(0:Int)) (QA.enc (pF (QY x) 0 0 j));rw[GG (Nat.not_lt_zero _)];exact XC _ _ _
  refine QF (by simp;omega) ?_
  iterate 13 refine QX (by first|exact tv|exact he|exact f0|exact rfl) ?_
  refine KB λa0=>?_;refine Q7 λg0=>?_;have hq:pA (QY x) (QY x).length 0=(Q2 x).2.1:=by rw[hp.2,hr.e];rfl
  have hz:Qo x=(Q2 x).2.2:=v1.symm;refine⟨rfl,rfl,_,QW6 x (pF (QY x) (QY x).length 0) (pA (QY x) (QY x).length 0) (Q2 x).1 (Q2 x).2.1 (Q2 x).2.2,?_⟩
  have hrow:QC 1 (Q2 x).1.length (λi=>QA.enc (pF (QY x) (QY x).length 0 i)) (λi=>QA.enc ((Q2 x).1.getD i 0)):=by
   intro j hj;show eqF 1 0 (QA.enc (pF (QY x) (QY x).length 0 j)) (QA.enc ((Q2 x).1.getD j 0));have hj':j<x.sK.n:=by rw[<-hn];exact hj
   have e2:(Q2 x).1.getD j 0=Vp (Qb x) j (Qb x).length:=by rw[hp.1];simp[List.getD_eq_getElem?_getD,hj']
   rw[GG (Nat.not_lt_zero _),e2,hr.e];exact XC _ _ _
  repeat' first|with_reducible refine QK ?_ ?_|exact tv|exact hn.symm|exact Nat.le_of_eq hn|exact hrow|exact hq|exact he.symm.trans hz|exact rfl|refine aI ?_ ?_
theorem QdH:QO prog 9 QLx:=WL (by kernel_rfl) λ|(x,()),hx=>Qby x hx
abbrev rmH(P:Program)(pb:List Prop->Bool)(x:QD)(T:List (List QB))(e sz mz:Int):Hnd:={ hnd (mkE P (VZ pb x T e)) 1 with loop:=λ_=>Jp (e=0) (Q4 8 [] (qL x T 0 0 (0:Nat)) [(True,.exit 0,QHo sz mz)]) }
theorem QYQ(e sz mz:Int):KI (mkE prog (VZ pb x T e)) (rmH prog pb x T e sz mz) f13 (QW.vals 0 ((x,()):QD×Unit)) (QW.blks 0 ((x,()):QD×Unit)) 8 = .need (pb (xq x++(xp x))) (.br (e != 0) (.leaf (.tup [vj 0,vj 0,vi e]) ([])) (.ak [e=0,0=0,0=0,0=0,T.length=T.length,cO=cO,(0:Int)=0,(0:Int)=0,(0:Int)=0] (.ak (xq x) (.ak [T.length=T.length,Q1 2 T.length (λi=>(QG T i).length) (λi=>(QG T i).length) (λi j=>QA.enc ((QG T i).getD j ⟨0,0⟩)) λi j=>QA.enc ((QG T i).getD j ⟨0,0⟩)] (.ak (xp x) (.asm (True) (.all (λ(g0:Nat->Value)=>.leaf (.tup [vi sz,vi mz,vj 0]) ([]))))))))):=by kernel_rfl
theorem QbA(e s m e':Int):QI 8 [(AV.tup [vj (0:Int),vj (0:Int),vi e])] ([]) (KY 8 (.tup [vi s,vi m,vi e']) [])=( some [(0:Int)=s,(0:Int)=m,e=e']):=by kernel_rfl
theorem QWR(sz mz s m e':Int):QI 8 [(AV.tup [vi sz,vi mz,vj (0:Int)])] ([]) (KY 8 (.tup [vi s,vi m,vi e']) [])=( some [sz=s,mz=m,(0:Int)=e']):=by kernel_rfl
theorem QLT(T:List (List QB)):∀ c,c<=9->0<=JQ T c/\JQ T c<2^9
 | 0,_=>⟨Int.le_refl _,by show(0:Int)<2^9;decide⟩
 | c+1,h=>by
  obtain⟨i0,i1⟩:=QLT T c (by omega)
  rw[JQ];cases Ko T c T.length==T.length with
  | true=>have w:=vy (n:=c) i0 i1 (by omega) (by omega);exact⟨w.lo,w.hi⟩
  | false=>exact⟨i0,i1⟩
theorem QRT(T:List (List QB)):∀ c,c<=9->0<=JK T c/\JK T c<2^9
 | 0,_=>⟨Int.le_refl _,by show(0:Int)<2^9;decide⟩
 | c+1,h=>by
  obtain⟨i0,i1⟩:=QRT T c (by omega)
  rw[JK];cases decide (0<Ko T c T.length)with
  | true=>have w:=vy (n:=c) i0 i1 (by omega) (by omega);exact⟨w.lo,w.hi⟩
  | false=>exact⟨i0,i1⟩
theorem QVp{c:Nat}(h:c<=9):MsB T c:=by
 have a:=QLT T c h;have b:=QRT T c h;have e9:(2:Int)^9=512:=by decide
 exact⟨⟨a.1,by omega⟩,b.1,by omega⟩
theorem QZA(sure may:Int)(c:Nat)(mm:Int)(n m i:Nat)(g:Xf T n m)(G:Ctx)(hrd:G.rd=none)(hG:G.n<=8):Q8 (mkE prog Km) G (QGA prog x T sure may c mm i (J6 (QG T i) c n)) (Kl (QT f13 0)):=by
 refine Kg (body:=Kl (Kl (QT f13 0))) (QL VD) hrd (by kernel_rfl) ?_
 refine Vv λhi=>?_;refine Kr (I:=λk=>vl x T sure may c mm i (J6 (QG T i) c k) k) (n0:=8) (QL VD) hG (λs hs=>Qw (QL VD) 3 G _ hrd) (λs hs=>(by decide:8<=48)) ?_ (Qfv x T sure may c mm n m i g hi) (s0:=0) (Nat.zero_le _) ?_
 .rintro s e J ⟨_,rfl⟩;exact(by decide:8<=48)
 .rintro e J ⟨rfl,rfl⟩;exact⟨_,qmc,trivial,rfl,rfl⟩
theorem QXv(sure may:Int)(c n m:Nat)(g:Xf T n m)(hT:T.length<=100000000)(G:Ctx)(hrd:G.rd=none)(hG:G.n<=8):Q8 (mkE prog Km) G (QFs prog x T sure may c (Ko T c T.length:Nat)) (QT f13 0):=by
 refine Kg (body:=Kl (QT f13 0)) (QL VD) hrd (by kernel_rfl) ?_
 refine Kr (I:=λi=>zn x T sure may c (Ko T c i:Nat) i) (n0:=8) (QL VD) hG (λs hs=>QZA x T sure may c _ n m s g G hrd hG) (λs hs=>(by decide:8<=48)) ?_ (QXV x T sure may c n m g hT) (s0:=0) (Nat.zero_le _) ?_
 .rintro s e J ⟨_,rfl⟩;exact(by decide:8<=48)
 .rintro e J ⟨rfl,rfl⟩;exact⟨_,qmc,trivial,rfl,rfl⟩
theorem QWn(h4:x.ok=true->x.sK.n<=4)(hT:QZ (VZ QV x (QY x) (Qo x)))(G:Ctx)(hrd:G.rd=none)(hG:G.n=8):Q8 (mkE prog (VZ QV x (QY x) (Qo x))) G (rmH prog QV x (QY x) (Qo x) (JQ (QY x) x.d.ps.n) (JK (QY x) x.d.ps.n)) (Qi f13):=by
 refine Kg (body:=QT f13 0) (QL hT) hrd (by kernel_rfl) ?_
 refine Vv λhe=>?_;have g:=vr h4 he;have n9:=g.g.m9;refine YG (E:=mkE prog Km) rfl (Kr (I:=λc=>qL x (QY x) (JQ (QY x) c) (JK (QY x) c) c) (n0:=8) (QL VD) (by omega) (λs hs=>QXv x (QY x) _ _ s x.sK.n x.d.ps.n g.g g.l G hrd (by omega)) (λs hs=>(by decide:8<=48)) ?_ (Qb0 x (QY x) n9 (λc hc=>QVp _ (by omega))) (s0:=0) (Nat.zero_le _) ?_)
 .rintro s e J ⟨_,rfl⟩;exact(by decide:8<=48)
 .rintro e J ⟨rfl,rfl⟩;exact⟨_,qmc,trivial,rfl,rfl⟩
def zP:WF (QD×Unit):=λ|(x,_)=>(XY x,.tup [.int false .i64 (miV x).1,.int false .i64 (miV x).2.1,.int false .i64 (miV x).2.2],[])
def QLW:FC:=wFC zP
theorem QWe(hx:(zP (x,())).1=true):QO prog 13 (wFC (JN zP (x,()))):=by
 obtain⟨hs,h4⟩:=QGO hx;have hT:QZ (VZ QV x (QY x) (Qo x)):=VD.add (QDT x hs h4);refine Vt (c:=Qi f13) (E:=mkE prog (VZ QV x (QY x) (Qo x))) (H:=rmH prog QV x (QY x) (Qo x) (JQ (QY x) x.d.ps.n) (JK (QY x) x.d.ps.n)) (QL hT) func13 (by kernel_rfl) (by kernel_rfl) (N:=8) (by decide) (x,()) (λG h1 h2=>QWn x h4 hT G h1 h2) ⟨rfl,by simp[zP],rfl⟩ ?_
 refine Qp (QYQ QV x (QY x) (Qo x) (JQ (QY x) x.d.ps.n) (JK (QY x) x.d.ps.n)) ?_;obtain⟨v1,v2,_⟩:=QRs x;refine QF ?_ ?_
 .refine KP.2 ?_
  repeat' first|with_reducible refine QK ?_ ?_|exact tv|refine aI ?_ ?_
 refine QH ?_ ?_<;>intro b0
 .have he:Qo x≠0:=by simpa using b0
  have hw:zP (x,())=(XY x,.tup [.int false .i64 0,.int false .i64 0,.int false .i64 (Qo x)],[]):=by
   simp only[zP,v1,(v2 he).1,(v2 he).2]
  rw[hw];refine⟨rfl,rfl,_,QbA (Qo x) 0 0 (Qo x),?_⟩
  repeat' first|with_reducible refine QK ?_ ?_|exact tv|exact rfl|refine aI ?_ ?_
 .have he:Qo x=0:=by simpa using b0
  have hr:=vr h4 he;have hp:=QVi he
  iterate 36 refine QX (by first|exact tv|exact he|exact rfl) ?_
  refine KB λa0=>?_;refine Q7 λg0=>?_;refine⟨rfl,rfl,_,QWR (JQ (QY x) x.d.ps.n) (JK (QY x) x.d.ps.n) (miV x).1 (miV x).2.1 (miV x).2.2,?_⟩;have q1:JQ (QY x) x.d.ps.n=(miV x).1:=by rw[hp.1,hr.e]
  have q2:JK (QY x) x.d.ps.n=(miV x).2.1:=by rw[hp.2,hr.e]
  have q3:0=(miV x).2.2:=he.symm.trans v1.symm
  repeat' first|with_reducible refine QK ?_ ?_|exact tv|exact q1|exact q2|exact q3|refine aI ?_ ?_
theorem QaF:QO prog 13 QLW:=WL (by kernel_rfl) λ|(x,()),hx=>QWe x hx
end Go.Proofs.YtbpffdkemeoajaaGreat
namespace Go.SX
open Go Go.RowKit Go.Proofs.YtbpffdkemeoajaaGreat
def QDO(c:Code):Code:=match JB c with
 | _ :: .loop b::_=>b
 | _ => .skip
end Go.SX
namespace Go.Proofs.YtbpffdkemeoajaaGreat
open Go Go.SX
variable (pb:List Prop->Bool)(x:QD)(T:List (List QB))(o:List QB)(e:Int)(k i:Nat)(s s':QB)
def rhS:List (Nat×AV):=[(1,.ptr 8 0 0),(4,.slz 24 0 T.length (.of 0)),(6,.slz 40 0 o.length (.of 0)),(7,.int false .i64 k)]
def rhB:List (Nat×Blk):=[(8,.cells 0 31 (K2 0 x)),Jm false 24 T,KF 80 40 o ⟨0,0⟩]++JC 0 x
def rhC:Nat×Blk:=(48,.cells 0 80 [vi s.cell,vi s.turn])
def QAQ:JSt:=⟨90,rhS T o k,rhB x T o,48⟩
def QIq:JSt:=⟨90,[(6,.slz 40 0 o.length (.of 0))],[KF 80 40 o ⟨0,0⟩],48⟩
def qr(i:Nat):JSt:=⟨90,rhS T o k++[(8,.ptr 48 0 0),(9,.int false .i64 i)],rhC s::rhB x T o,56⟩
def jA(i:Nat):JSt:=⟨90,rhS T o k++[(8,.ptr 48 0 0),(10,.int false .i64 i)],rhC s::rhB x T o,56⟩
def W3:JSt:=⟨90,rhS T o k++[(8,.ptr 48 0 0)],rhC s::rhB x T o,56⟩
def QOb:Ex->List Nat
 | .normal=>[1,4,6,7]
 | .exit _=>[6]
 | .ret=>[]
def QLj:Ex->List Nat
 | .normal=>[1,4,6,7,8,9]
 | .exit _=>[1,4,6,7,8]
 | .ret=>[]
def QRk:Ex->List Nat
 | .normal=>[1,4,6,7,8,10]
 | .exit _=>[1,4,6,7,8]
 | .ret=>[]
noncomputable abbrev QAv(k:Nat)(o:List QB):List AV:=
  [.nilp,.ptr 90 0 0,.ptr 8 0 0,.slz 24 0 T.length cO,.slz 40 0 o.length cO,vi (k:Int),.ptr 48 0 0,vi (i64.wrap ((i:Int) +
  1))]
noncomputable abbrev XH:Nat×Blk:=
  (8,.cells 0 31 [vi x.d.pK.length,vi x.d.pK.aK,vi x.d.pK.oK,vi x.d.pK.dK.lo,vi x.d.pK.dK.hi,
  vi x.d.wide,vi x.d.high,.bool false x.d.turn,.slz 0 0 x.d.ps.n cO,.slz 1 0 x.sK.n cO,.slz 2 0 x.hang.n cO,.int false .i64
  x.lost,vi x.fK])
noncomputable abbrev Ye(i:Nat):Nat×Blk:=
  (24,.frz2 false 38 kB T.length (λi=>(QG T i).length) λi j=>QA.enc ((QG T i).getD j ⟨0,0⟩))
noncomputable abbrev YY(i:Nat)(o:List QB):Nat×Blk:=
  (40,.rowz true 80 kB o.length λi=>QA.enc (o.getD i ⟨0,0⟩))
abbrev K1:List CK:=
  [.int .i64,.int .i64,.int .i64,.int .i64,.int .i64,.int .i64,.int .i64,.int .i64,.int .i64,.int .i64,.int .i64,.int .i64,.int .i64,.int .i64,.int .i64,.int .i64,.int
  .i64,.int .i64,.int .i64,.int .i64,.int .i64,.int .i64,.int .i64,.int .i64,.int .i64,.int .i64,.int .i64,.int .i64]
noncomputable abbrev Yo(i:Nat)(x:QD):Nat×Blk:=
  (2,.frz [.int .i64,.int .i64,.int .i64,.int .i64] x.hang.n λi=>QA.enc (x.hang.get i))
noncomputable abbrev QD2:Nat×Blk:=
  (48,.cells 0 80 [vi s.cell,vj 0])
noncomputable abbrev qF:Nat×Blk:=
  (48,.cells 0 80 [vi s.cell,vi s.turn])
theorem QW2(i:Nat)(g:Nat->Value):exec (mkE prog Km) (hnd (mkE prog Km) 3) (Kl (QT f11 0)) (JSt.inst (qr x T o k s i) g) (KG [] QLj) = .br (decide ((i:Int)<(T.length:Int))) (.need (decide ((0:Int)<=(i:Int)/\(i:Int)<(T.length:Int))&&decide (T.length<=T.length)) (.need (decide (i<T.length)) (.need (decide ((0:Int)<=(k:Int)/\(k:Int)<(↑(QG T i).length:Int))&&decide ((QG T i).length<=(QG T i).length)) (.need (decide (k<(QG T i).length)) (.br (((QG T i).getD k ⟨0,0⟩).cell != s.cell) (.leaf (.tup (QAv T i k o)) ([(XH x),(Ye T i),(YY i o),(48,.cells 0 80 [vj (-1),vj 0]),(0,.frz K1 x.d.ps.n λi=>QA.enc (x.d.ps.get i)), (1,.frz K1 x.sK.n λi=>QA.enc (x.sK.get i)),(Yo i x)])) (.need (decide ((0:Int)<=(i:Int)/\(i:Int)<(T.length:Int))&&decide (T.length<=T.length)) (.need (decide (i<T.length)) (.need (decide ((0:Int)<=(k:Int)/\(k:Int)<(↑(QG T i).length:Int))&&decide ((QG T i).length<=(QG T i).length)) (.need (decide (k<(QG T i).length)) (.br (((QG T i).getD k ⟨0,0⟩).turn != s.turn) (.leaf (.tup (QAv T i k o)) ([(XH x),(Ye T i),(YY i o),(QD2 s),(0,.frz K1 x.d.ps.n λi=>QA.enc (x.d.ps.get i)),(1,.frz K1 x.sK.n λi=>QA.enc (x.sK.get i)),(Yo i x)])) (.leaf (.tup (QAv T i k o)) ([(XH x),(Ye T i),(YY i o),(qF s),(0, .frz K1 x.d.ps.n λi=>QA.enc (x.d.ps.get i)),(1,.frz K1 x.sK.n λi=>QA.enc (x.sK.get i)),(Yo i x)])))))))))))) (.leaf (.tup [.ptr 2 0 0,.ptr 90 0 0,.ptr 8 0 0,.slz 24 0 T.length cO,.slz 40 0 o.length cO,vi (k:Int),.ptr 48 0 0]) ([(XH x),(Ye T i),(YY i o),(qF s),(0,.frz K1 x.d.ps.n λi=>QA.enc (x.d.ps.get i)),(1,.frz K1 x.sK.n λi=>QA.enc (x.sK.get i)),(Yo i x)])):=by kernel_rfl
theorem Qbf(i:Nat)(g:Nat->Value):exec (mkE prog Km) (hnd (mkE prog Km) 3) (QDO (QT f11 0)) (JSt.inst (jA x T o k s i) g) (KG [] QRk) = .br (decide ((i:Int)<(T.length:Int))) (.need (decide ((0:Int)<=(i:Int)/\(i:Int)<(T.length:Int))&&decide (T.length<=T.length)) (.need (decide (i<T.length)) (.need (decide ((0:Int)<=(k:Int)/\(k:Int)<(↑(QG T i).length:Int))&&decide ((QG T i).length<=(QG T i).length)) (.need (decide (k<(QG T i).length)) (.need (decide ((0:Int)<=0/\(0:Int)<(T.length:Int))&&decide (T.length<=T.length)) (.need (decide (Int.toNat (0:Int)<T.length)) (.need (decide ((0:Int)<=(k:Int)/\(k:Int)<(↑(QG T (Int.toNat (0:Int))).length:Int))&&decide ((QG T (Int.toNat (0:Int))).length<=(QG T (Int.toNat (0:Int))).length)) (.need (decide (k<(QG T (Int.toNat (0:Int))).length)) (.br (((QG T i).getD k ⟨0,0⟩).turn != ((QG T (Int.toNat (0:Int))).getD k ⟨0,0⟩).turn) (.leaf (.tup (QAv T i k o)) ([(XH x),(Ye T i),(YY i o),(QD2 s),(0,.frz K1 x.d.ps.n λi=>QA.enc (x.d.ps.get i)),(1,.frz K1 x.sK.n λi=>QA.enc (x.sK.get i)),(Yo i x)])) (.leaf (.tup (QAv T i k o)) ([(XH x),(Ye T i),(YY i o),(qF s),(0,.frz K1 x.d.ps.n λi=>QA.enc (x.d.ps.get i)),(1,.frz K1 x.sK.n λi=>QA.enc (x.sK.get i)),(Yo i x)]))))))))))) (.leaf (.tup [.ptr 4 0 0, .ptr 90 0 0,.ptr 8 0 0,.slz 24 0 T.length cO,.slz 40 0 o.length cO,vi (k:Int),.ptr 48 0 0]) ([(XH x),(Ye T i),(YY i o),(qF s),(0, .frz K1 x.d.ps.n λi=>QA.enc (x.d.ps.get i)),(1,.frz K1 x.sK.n λi=>QA.enc (x.sK.get i)),(Yo i x)])):=by kernel_rfl
abbrev QFS(s1 s2 s3:QB):Code->St->(Ex->St->QE)->QE:=QFd [(10,Jp (k<x.sK.n) (Q4 8 [] (qr x T o k s1 (0:Nat)) [(True,.exit 2,W3 x T o k s2)])),(17,Jp (k<x.sK.n) (Q4 8 [] (jA x T o k s2 (0:Nat)) [(True,.exit 4,W3 x T o k s3)]))]
abbrev QGa(P:Program)(x:QD)(T:List (List QB))(o:List QB)(k:Nat)(s1 s2 s3:QB):Hnd:={ hnd (mkE P Km) 2 with loop:=QFS x T o k s1 s2 s3 }
noncomputable abbrev QER:Nat×Blk:=
  (24,.frz2 false 38 kB T.length (λi=>(QG T i).length) λi j=>QA.enc ((QG T i).getD j ⟨0,0⟩))
noncomputable abbrev QJf(s3:QB):Nat×Blk:=
  (80,.rowz true 80 kB (o.length+1) (Qa o.length (λi=>QA.enc (o.getD i ⟨0,0⟩)) (QU [[vi s3.cell,vi s3.turn]] 0)))
noncomputable abbrev QB7:Nat×Blk:=
  (2,.frz [.int .i64,.int .i64,.int .i64,.int .i64] x.hang.n λi=>QA.enc (x.hang.get i))
noncomputable abbrev QD9:Nat×Blk:=
  (40,.rowz true 80 kB o.length λi=>QA.enc (o.getD i ⟨0,0⟩))
theorem QWT(s1 s2 s3:QB)(g:Nat->Value):exec (mkE prog Km) (QGa prog x T o k s1 s2 s3) (QT f11 0) (JSt.inst (QAQ x T o k) g) (KG [] QOb) = .br (decide ((k:Int)<(x.sK.n:Int))) (.need (decide ((0:Int)<=0/\(0:Int)<(T.length:Int))&&decide (T.length<=T.length)) (.need (decide (Int.toNat (0:Int)<T.length)) (.need (decide ((0:Int)<=(k:Int)/\(k:Int)<(↑(QG T (Int.toNat (0:Int))).length:Int))&&decide ((QG T (Int.toNat (0:Int))).length<=(QG T (Int.toNat (0:Int))).length)) (.need (decide (k<(QG T (Int.toNat (0:Int))).length)) (.ak [k<x.sK.n,0=0,0=0,0=0,T.length=T.length,cO=cO,0=0,o.length=o.length,cO=cO,(k:Int)=(k:Int),0=0,0=0,(0:Int)=0,((QG T (Int.toNat (0:Int))).getD k ⟨0,0⟩).cell=s1.cell,((QG T (Int.toNat (0:Int))).getD k ⟨0,0⟩).turn=s1.turn] (.ak (xq x) (.ak [T.length=T.length,Q1 2 T.length (λi=>(QG T i).length) (λi=>(QG T i).length) (λi j=>QA.enc ((QG T i).getD j ⟨0,0⟩)) λi j=>QA.enc ((QG T i).getD j ⟨0,0⟩),o.length<=o.length,QC 2 o.length (λi=>QA.enc (o.getD i ⟨0,0⟩)) λi=>QA.enc (o.getD i ⟨0,0⟩)] (.ak (xp x) (.asm (True) (.all (λ(g0:Nat->Value)=>.ak [k<x.sK.n,0=0,0=0,0=0,T.length=T.length,cO=cO,0=0,o.length=o.length,cO=cO,(k:Int)=(k:Int),0=0,0=0,(0:Int)=0,s2.cell=s2.cell,s2.turn=s2.turn] (.ak (xq x) (.ak [T.length=T.length,Q1 2 T.length (λi=>(QG T i).length) (λi=>(QG T i).length) (λi j=>QA.enc ((QG T i).getD j ⟨0,0⟩)) λi j=>QA.enc ((QG T i).getD j ⟨0,0⟩),o.length<=o.length,QC 2 o.length (λi=>QA.enc (o.getD i ⟨0,0⟩)) λi=>QA.enc (o.getD i ⟨0,0⟩)] (.ak (xp x) (.asm (True) (.all (λ(g1:Nat->Value)=>.need (decide (o.length<=o.length)&&(true&&decide ((o.length+1+(o.length+1) / 4+192)*16<=281474976710656/\o.length+1<=9223372036854775807))) (.leaf (.tup [.nilp,.ptr 90 0 0,.ptr 8 0 0,.slz 24 0 T.length cO,.slz 80 0 (o.length+1) cO,vi (i64.wrap ((k:Int)+1))]) ([(XH x),(QER T), (QJf o s3),(0,.frz K1 x.d.ps.n λi=>QA.enc (x.d.ps.get i)),(1,.frz K1 x.sK.n λi=>QA.enc (x.sK.get i)),(QB7 x)]))))))))))))))))))) (.leaf (.tup [.ptr 0 0 0,.ptr 90 0 0,.slz 40 0 o.length cO]) ([(QD9 o)])):=by kernel_rfl
abbrev rhH(P:Program)(pb:List Prop->Bool)(x:QD)(T:List (List QB))(e:Int)(o:List QB):Hnd:={ hnd (mkE P (VZ pb x T e)) 1 with loop:=λ_=>Jp (e=0) (Q4 8 [] (QAQ x T [] (0:Nat)) [(True,.exit 0,QIq o)]) }
theorem QZm(o:List QB):KI (mkE prog (VZ pb x T e)) (rhH prog pb x T e o) f11 (QW.vals 0 ((x,()):QD×Unit)) (QW.blks 0 ((x,()):QD×Unit)) 8 = .need (pb (xq x++(xp x))) (.br (e != 0) (.leaf (.tup [.nils,vi e]) ([])) (.ak [e=0,0=0,0=0,0=0,T.length=T.length,cO=cO,0=0,(0:Int)=0] (.ak (xq x) (.ak [T.length=T.length,Q1 2 T.length (λi=>(QG T i).length) (λi=>(QG T i).length) (λi j=>QA.enc ((QG T i).getD j ⟨0,0⟩)) λi j=>QA.enc ((QG T i).getD j ⟨0,0⟩),0=0] (.ak (xp x) (.asm (True) (.all (λ(g0:Nat->Value)=>.leaf (.tup [.slz 40 0 o.length cO,vj 0]) ([(QD9 o)]))))))))):=by kernel_rfl
noncomputable abbrev HH(k:Nat)(o:List QB):List AV:=
  [.ptr 8 0 0,.slz 24 0 T.length cO,.slz 40 0 o.length cO,vi (k:Int),.ptr 48 0 0,vi (i64.wrap ((i:Int)+1))]
abbrev QMV(x:QD):List Prop:=
  [x.d.pK.length=x.d.pK.length,x.d.pK.aK=x.d.pK.aK,x.d.pK.oK=x.d.pK.oK,x.d.pK.dK.lo=x.d.pK.dK.lo,x.d.pK.dK.hi=x.d.pK.dK.hi,
  x.d.wide=x.d.wide,x.d.high=x.d.high,x.d.turn=x.d.turn,0=0,x.d.ps.n=x.d.ps.n,cO=cO,0=0,x.sK.n=x.sK.n,cO=cO,0=0,x.hang.n =
  x.hang.n,cO=cO,x.lost=x.lost,x.fK=x.fK,T.length=T.length]
theorem QfB(i i':Nat):QI 8 (HH T i k o) ([(XH x),(Ye T i),(YY i o),(48,.cells 0 80 [vj (-1),vj 0]),(0,.frz K1 x.d.ps.n λi=>QA.enc (x.d.ps.get i)),(1, .frz K1 x.sK.n λi=>QA.enc (x.sK.get i)),(Yo i x)]) (qr x T o k s' i')=(some ([0=0,0=0,0=0,T.length=T.length,cO=cO,0=0,o.length=o.length,cO=cO,(k:Int)=(k:Int),0=0,0=0,i64.wrap ((i:Int)+1)=(i':Int),(-1:Int)=s'.cell,(0:Int)=s'.turn]++(QMV T x) ++ [Q1 2 T.length (λi=>(QG T i).length) (λi=>(QG T i).length) (λi j=>QA.enc ((QG T i).getD j ⟨0,0⟩)) λi j=>QA.enc ((QG T i).getD j ⟨0,0⟩), o.length<=o.length,QC 2 o.length (λi=>QA.enc (o.getD i ⟨0,0⟩)) λi=>QA.enc (o.getD i ⟨0,0⟩),x.d.ps.n<=x.d.ps.n,QC 28 x.d.ps.n (λi=>QA.enc (x.d.ps.get i)) λi=>QA.enc (x.d.ps.get i),x.sK.n<=x.sK.n,QC 28 x.sK.n (λi=>QA.enc (x.sK.get i)) λi=>QA.enc (x.sK.get i),x.hang.n<=x.hang.n,QC 4 x.hang.n (λi=>QA.enc (x.hang.get i)) λi=>QA.enc (x.hang.get i)])):=by kernel_rfl
abbrev QRx(i:Nat)(i':Nat)(k:Nat)(o:List QB)(s:QB)(s':QB)(x:QD):List Prop:=
  [0=0,0=0,0=0,T.length=T.length,cO=cO,0=0,o.length=o.length,cO=cO,(k:Int)=(k:Int),0=0,0=0,i64.wrap ((i:Int) +
  1)=(i':Int),s.cell=s'.cell,(0:Int)=s'.turn,x.d.pK.length=x.d.pK.length,x.d.pK.aK=x.d.pK.aK,x.d.pK.oK=x.d.pK.oK,x.d.pK.dK.lo =
  x.d.pK.dK.lo,x.d.pK.dK.hi=x.d.pK.dK.hi,x.d.wide=x.d.wide,x.d.high=x.d.high,x.d.turn=x.d.turn,0=0,x.d.ps.n=x.d.ps.n,cO=cO,0=0,
  x.sK.n=x.sK.n,cO=cO,0=0,x.hang.n=x.hang.n,cO=cO,x.lost=x.lost,x.fK=x.fK,T.length=T.length,Q1 2 T.length (λi
  => (QG T i).length) (λi=>(QG T i).length) (λi j=>QA.enc ((QG T i).getD j ⟨0,0⟩)) λi j=>QA.enc ((QG T i).getD j ⟨0,0⟩),o.length<=o.length,QC 2
  o.length (λi=>QA.enc (o.getD i ⟨0,0⟩)) λi=>QA.enc (o.getD i ⟨0,0⟩),x.d.ps.n<=x.d.ps.n,QC 28 x.d.ps.n (λi=>QA.enc (x.d.ps.get i)) λi=>QA.enc
  (x.d.ps.get i),x.sK.n<=x.sK.n,QC 28 x.sK.n (λi=>QA.enc (x.sK.get i)) λi=>QA.enc (x.sK.get i),x.hang.n<=x.hang.n,QC 4 x.hang.n (λi=>
  QA.enc (x.hang.get i)) λi=>QA.enc (x.hang.get i)]
theorem QXF(i i':Nat):QI 8 (HH T i k o) ([(XH x),(Ye T i),(YY i o),(QD2 s),(0,.frz K1 x.d.ps.n λi=>QA.enc (x.d.ps.get i)),(1,.frz K1 x.sK.n λi=>QA.enc (x.sK.get i)),(Yo i x)]) (qr x T o k s' i')=(some (QRx T i i' k o s s' x)):=by kernel_rfl
abbrev QQK(i:Nat)(i':Nat)(k:Nat)(o:List QB)(s:QB)(s':QB)(x:QD):List Prop:=
  [0=0,0=0,0=0,T.length=T.length,cO=cO,0=0,o.length=o.length,cO=cO,(k:Int)=(k:Int),0=0,0=0,i64.wrap ((i:Int) +
  1)=(i':Int),s.cell=s'.cell,s.turn=s'.turn,x.d.pK.length=x.d.pK.length,x.d.pK.aK=x.d.pK.aK,x.d.pK.oK=x.d.pK.oK,x.d.pK.dK.lo =
  x.d.pK.dK.lo,x.d.pK.dK.hi=x.d.pK.dK.hi,x.d.wide=x.d.wide,x.d.high=x.d.high,x.d.turn=x.d.turn,0=0,x.d.ps.n=x.d.ps.n,cO=cO,0=0,
  x.sK.n=x.sK.n,cO=cO,0=0,x.hang.n=x.hang.n,cO=cO,x.lost=x.lost,x.fK=x.fK,T.length=T.length,Q1 2 T.length (λi
  => (QG T i).length) (λi=>(QG T i).length) (λi j=>QA.enc ((QG T i).getD j ⟨0,0⟩)) λi j=>QA.enc ((QG T i).getD j ⟨0,0⟩),o.length<=o.length,QC 2
  o.length (λi=>QA.enc (o.getD i ⟨0,0⟩)) λi=>QA.enc (o.getD i ⟨0,0⟩),x.d.ps.n<=x.d.ps.n,QC 28 x.d.ps.n (λi=>QA.enc (x.d.ps.get i)) λi=>QA.enc
  (x.d.ps.get i),x.sK.n<=x.sK.n,QC 28 x.sK.n (λi=>QA.enc (x.sK.get i)) λi=>QA.enc (x.sK.get i),x.hang.n<=x.hang.n,QC 4 x.hang.n (λi=>
  QA.enc (x.hang.get i)) λi=>QA.enc (x.hang.get i)]
theorem QYW(i i':Nat):QI 8 (HH T i k o) ([(XH x),(Ye T i),(YY i o),(qF s),(0,.frz K1 x.d.ps.n λi=>QA.enc (x.d.ps.get i)),(1,.frz K1 x.sK.n λi=>QA.enc (x.sK.get i)),(Yo i x)]) (qr x T o k s' i')=(some (QQK T i i' k o s s' x)):=by kernel_rfl
noncomputable abbrev QQD(o:List QB):List AV:=
  [.ptr 8 0 0,.slz 24 0 T.length cO,.slz 40 0 o.length cO,vi (k:Int),.ptr 48 0 0]
abbrev QLC(o:List QB)(s:QB)(s':QB)(x:QD):List Prop:=
  [0=0,0=0,0=0,T.length=T.length,cO=cO,0=0,o.length=o.length,cO=cO,(k:Int)=(k:Int),0=0,0=0,s.cell=s'.cell,s.turn =
  s'.turn,x.d.pK.length=x.d.pK.length,x.d.pK.aK=x.d.pK.aK,x.d.pK.oK=x.d.pK.oK,x.d.pK.dK.lo=x.d.pK.dK.lo,x.d.pK.dK.hi =
  x.d.pK.dK.hi,x.d.wide=x.d.wide,x.d.high=x.d.high,x.d.turn=x.d.turn,0=0,x.d.ps.n=x.d.ps.n,cO=cO,0=0,x.sK.n=x.sK.n,cO=cO,
  0=0,x.hang.n=x.hang.n,cO=cO,x.lost=x.lost,x.fK=x.fK,T.length=T.length,Q1 2 T.length (λi=>(QG T i).length) (λi=>(QG T
  i).length) (λi j=>QA.enc ((QG T i).getD j ⟨0,0⟩)) λi j=>QA.enc ((QG T i).getD j ⟨0,0⟩),o.length<=o.length,QC 2 o.length (λi=>QA.enc (o.getD i ⟨0,
  0⟩)) λi=>QA.enc (o.getD i ⟨0,0⟩),x.d.ps.n<=x.d.ps.n,QC 28 x.d.ps.n (λi=>QA.enc (x.d.ps.get i)) λi=>QA.enc (x.d.ps.get i),x.sK.n<=x.sK.n,QC
  28 x.sK.n (λi=>QA.enc (x.sK.get i)) λi=>QA.enc (x.sK.get i),x.hang.n<=x.hang.n,QC 4 x.hang.n (λi=>QA.enc (x.hang.get i)) λi=>QA.enc
  (x.hang.get i)]
theorem QcM :QI 8 (QQD T k o) ([(XH x),(QER T),(QD9 o),(qF s),(0,.frz K1 x.d.ps.n λi=>QA.enc (x.d.ps.get i)),(1,.frz K1 x.sK.n λi=>QA.enc (x.sK.get i)),(QB7 x)]) (W3 x T o k s')=(some (QLC T k o s s' x)):=by kernel_rfl
theorem QXc(i i':Nat):QI 8 (HH T i k o) ([(XH x),(Ye T i),(YY i o),(QD2 s),(0,.frz K1 x.d.ps.n λi=>QA.enc (x.d.ps.get i)),(1,.frz K1 x.sK.n λi=>QA.enc (x.sK.get i)),(Yo i x)]) (jA x T o k s' i')=(some (QRx T i i' k o s s' x)):=by kernel_rfl
theorem Qdz(i i':Nat):QI 8 (HH T i k o) ([(XH x),(Ye T i),(YY i o),(qF s),(0,.frz K1 x.d.ps.n λi=>QA.enc (x.d.ps.get i)),(1,.frz K1 x.sK.n λi=>QA.enc (x.sK.get i)),(Yo i x)]) (jA x T o k s' i')=(some (QQK T i i' k o s s' x)):=by kernel_rfl
theorem QWA :QI 8 (QQD T k o) ([(XH x),(QER T),(QD9 o),(qF s),(0,.frz K1 x.d.ps.n λi=>QA.enc (x.d.ps.get i)),(1,.frz K1 x.sK.n λi=>QA.enc (x.sK.get i)),(QB7 x)]) (W3 x T o k s')=(some (QLC T k o s s' x)):=by kernel_rfl
theorem QTx(o o':List QB)(k k':Nat)(s3:QB):QI 8 [.ptr 8 0 0,.slz 24 0 T.length cO,.slz 80 0 (o.length+1) cO,vi (i64.wrap ((k:Int)+1))] ([(XH x),(QER T),(QJf o s3),(0, .frz K1 x.d.ps.n λi=>QA.enc (x.d.ps.get i)),(1,.frz K1 x.sK.n λi=>QA.enc (x.sK.get i)),(QB7 x)]) (QAQ x T o' k')=(some ([0=0,0=0,0=0, T.length=T.length,cO=cO,0=0,o.length+1=o'.length,cO=cO,i64.wrap ((k:Int)+1)=(k':Int)]++(QMV T x)++[Q1 2 T.length (λi=>(QG T i).length) (λi=>(QG T i).length) (λi j=>QA.enc ((QG T i).getD j ⟨0,0⟩)) λi j=>QA.enc ((QG T i).getD j ⟨0,0⟩),o'.length<=o.length+1, QC 2 o'.length (Qa o.length (λi=>QA.enc (o.getD i ⟨0,0⟩)) (QU [[vi s3.cell,vi s3.turn]] 0)) λi=>QA.enc (o'.getD i ⟨0,0⟩), x.d.ps.n<=x.d.ps.n,QC 28 x.d.ps.n (λi=>QA.enc (x.d.ps.get i)) λi=>QA.enc (x.d.ps.get i),x.sK.n<=x.sK.n,QC 28 x.sK.n (λi=>QA.enc (x.sK.get i)) λi=>QA.enc (x.sK.get i),x.hang.n<=x.hang.n,QC 4 x.hang.n (λi=>QA.enc (x.hang.get i)) λi=>QA.enc (x.hang.get i)])):=by kernel_rfl
theorem QZi(o o':List QB):QI 8 [AV.slz (40:Nat) (0:Nat) o.length cO] ([((40:Nat),Blk.rowz true (80:Nat) [CK.int i64,CK.int i64] o.length λi=>QA.enc (o.getD i (QB.mk (0:Int) (0:Int))))]) (QIq o')=( some [0=0,o.length=o'.length,cO=cO,o'.length<=o.length,QC (2:Nat) o'.length (λi=>QA.enc (o.getD i (QB.mk (0:Int) (0:Int)))) λi=>QA.enc (o'.getD i (QB.mk (0:Int) (0:Int)))]):=by kernel_rfl
theorem QbW(f:List QB)(e':Int):QI 8 [(AV.tup [AV.nils,vi e])] ([]) (KY 8 (Yx f e') [KF 80 0 f ⟨0,0⟩])=( some [f.length=(0:Nat),e=e',f.length=(0:Nat)]):=by kernel_rfl
theorem QTU(f:List QB)(e':Int):QI 8 [(AV.tup [AV.slz (40:Nat) (0:Nat) o.length cO,vj (0:Int)])] ([((40:Nat),Blk.rowz true (80:Nat) [CK.int i64,CK.int i64] o.length λi=>QA.enc (o.getD i (QB.mk (0:Int) (0:Int))))]) (KY 8 (Yx f e') [KF 80 0 f ⟨0,0⟩])=( some [0=0,o.length=f.length,cO=cO,(0:Int)=e',f.length<=o.length,QC (2:Nat) f.length (λi=>QA.enc (o.getD i (QB.mk (0:Int) (0:Int)))) λi=>QA.enc (f.getD i (QB.mk (0:Int) (0:Int)))]):=by kernel_rfl
