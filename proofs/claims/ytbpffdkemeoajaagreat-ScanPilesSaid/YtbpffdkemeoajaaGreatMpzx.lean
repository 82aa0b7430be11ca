/- - -/
import Derived.Test.YtbpffdkemeoajaaGreatMpzs
import Derived.Test.YtbpffdkemeoajaaGreatMpzw
open Go.Proofs.Tryz
namespace Go.Proofs.YtbpffdkemeoajaaGreat
open Go Go.SX
variable {x:QD}
theorem QOp(h:Wg x 4 4=false):(x.d.ps.n<=14/\x.sK.n<=18/\x.hang.n<=18)/\(x.ok=true->x.sK.n<=4):=by
 simp only[Wg,Bool.or_eq_false_iff,decide_eq_false_iff_not]at h;obtain⟨h1,h2,h3,h4⟩:=h;refine⟨by omega,λho=>?_⟩
 rw[ho,Bool.true_and,Bool.or_eq_false_iff,decide_eq_false_iff_not,decide_eq_false_iff_not]at h4;omega
theorem QU0(h:(x.d.ps.n<=14/\x.sK.n<=18/\x.hang.n<=18)/\(x.ok=true->x.sK.n<=4)):XY x=true:=by
 unfold XY;rw[qbA];refine⟨qde (by omega),?_⟩
 cases ho:x.ok with
 | false=>rfl
 | true=>rw[qde (h.2 ho)];rfl
theorem QGe{a b:Rw QB}(ha:a.n=0)(hb:b.n=0):Ke a b=true:=by
 unfold Ke;rw[ha,hb];rfl
structure Qan (x:QD):Prop where
 p:(Q2 x).1.length<=1000
 t:(JP x).1.length<=1000
 a:(Qg x).1.length<=1000
 b:(Qg x).2.1.length<=1000
theorem Qfl(h:x.sK.n<=18):Qan x:=by
 have hall:Qo x=0->∀ i,((Qb x).getD i []).length<=18:=λhe i=>by
  by_cases hi:i<(Qb x).length
  .have:=((Z4 (zu he).1).1 (XN hi)).len;omega
  .have:(Qb x).getD i []=[]:=by simp[List.getD_eq_getElem?_getD,List.getElem?_eq_none (by omega:(Qb x).length<=i)]
   rw[this];simp
 have hh:(Qb x).headD []=(Qb x).getD 0 []:=by cases Qb x<;>rfl
 refine⟨?_,?_,?_,?_⟩
 .by_cases he:Qo x=0
  .rw[((QC3 x).2.2 he).len];omega
  .rw[((QC3 x).2.1 he).1];simp
 .rw[QQJ]
  by_cases he:Qo x=0
  .rw[he];show(Y9 (Qb x) x.sK.n).length<=1000;rw[QMq];omega
  .have:(Qo x==0)=false:=by simpa using he
   rw[this];simp
 .rw[QEK]
  by_cases he:Qo x=0
  .rw[he];show((Qb x).headD []).length<=1000;rw[hh];have:=hall he 0;omega
  .have:(Qo x==0)=false:=by simpa using he
   rw[this];simp
 .rw[QEK]
  by_cases he:Qo x=0
  .rw[he];show((Qb x).getD 1 []).length<=1000;have:=hall he 1;omega
  .have:(Qo x==0)=false:=by simpa using he
   rw[this];simp
def Zv:WF (QD×Unit):=λ_=>(true,.bool false true,[])
theorem QRu(x:QD):WOk (Zv (x,())).2.1 (Zv (x,())).2.2:=⟨rfl,by simp[Zv],rfl⟩
theorem QOY{pb:List Prop->Bool}{T:List (List QB)}{e:Int}(h:QO prog 39 (QDC (Jj pb (roU x T e)))):QZ (ZT pb x T e):=(((((((((((QEG.add Qg0).add (ZA QXe)).add (ZA QYf)).add (ZA QZs)).add (ZA Qd0)).add (ZA QZy)).add (ZA QX5)).add (ZA QdH)).add (ZA QU1)).add (ZA QaF)).add h)
theorem QTh(x:QD)(hg:Wg x 4 4=true):XU (VQ 8 (Zv (x,())).2.1 (Zv (x,())).2.2) (KI (mkS prog (ZT (λ_=>false) x [] 0)) (hnd (mkS prog (ZT (λ_=>false) x [] 0)) 3) f3 (QW.vals 0 ((x,()):QD×Unit)) (QW.blks 0 ((x,()):QD×Unit)) 8):=by
 refine Qp (QJd (λ_=>false) x [] 0) ?_;refine QF (by simp) (QH (λ_=>KT rfl rfl) (λh=>by rw[hg]at h;cases h))
theorem QdE(x:QD)(hg:Wg x 4 4=false):XU (VQ 8 (Zv (x,())).2.1 (Zv (x,())).2.2) (KI (mkS prog (ZT QV x (QY x) (Qo x))) (hnd (mkS prog (ZT QV x (QY x) (Qo x))) 3) f3 (QW.vals 0 ((x,()):QD×Unit)) (QW.blks 0 ((x,()):QD×Unit)) 8):=by
 refine Qp (QJd QV x (QY x) (Qo x)) ?_;obtain⟨hz,h4⟩:=QOp hg;have hq:=QU0 ⟨hz,h4⟩;have sA:(decide (x.d.ps.n<=x.d.ps.n)&&(decide (x.sK.n<=x.sK.n)&&(decide (x.hang.n<=x.hang.n)&&true))&&decide (x.d.ps.n<=(1000:Nat)/\x.sK.n<=(1000:Nat)/\x.hang.n<=(1000:Nat)))=true:=by simp;omega
 have sB:(decide (x.d.ps.n<=x.d.ps.n)&&(decide (x.sK.n<=x.sK.n)&&(decide (x.hang.n<=x.hang.n)&&true))&&XY x)=true:=by rw[hq];simp
 obtain⟨l1,l2,l3,l4⟩:=Qfl (x:=x) hz.2.1;have nB:QV ([])=true:=KP.2 trivial;refine QF (by first|exact sA|exact sB|(simp[Qf,Qd];done)|(simp[Qf,Qd];omega)|(simp[q3,q4];done)|(simp[q3,q4];omega)|(rw[q1];simp;omega)) ?_
 refine QH ?_ ?_<;>intro b0
 .rw[hg]at b0;cases b0
 .refine QF (by first|exact sA|exact sB|(simp[Qf,Qd];done)|(simp[Qf,Qd];omega)|(simp[q3,q4];done)|(simp[q3,q4];omega)|(rw[q1];simp;omega)) ?_
  iterate 8 refine QF (by first|exact sA|exact sB|(simp[Qf,Qd];done)|(simp[Qf,Qd];omega)|(simp[q3,q4];done)|(simp[q3,q4];omega)|(rw[q1];simp;omega)) ?_
  refine K6 λz0 y0=>?_;obtain rfl:z0=false:=y0.trans (by rw[Qf];simp)
  iterate 2 refine QF (by first|exact sA|exact sB|(simp[Qf,Qd];done)|(simp[Qf,Qd];omega)|(simp[q3,q4];done)|(simp[q3,q4];omega)|(rw[q1];simp;omega)) ?_
  refine K6 λz1 y1=>?_;obtain rfl:z1=false:=y1.trans (by simp)
  iterate 3 refine QF (by first|exact sA|exact sB|(simp[Qf,Qd];done)|(simp[Qf,Qd];omega)|(simp[q3,q4];done)|(simp[q3,q4];omega)|(rw[q1];simp;omega)) ?_
  refine K6 λz2 y2=>?_;obtain rfl:z2=false:=y2.trans (by rw[Qd];rfl)
  iterate 2 refine QF (by first|exact sA|exact sB|(simp[Qf,Qd];done)|(simp[Qf,Qd];omega)|(simp[q3,q4];done)|(simp[q3,q4];omega)|(rw[q1];simp;omega)) ?_
  refine K6 λz3 y3=>?_;obtain rfl:z3=false:=y3.trans (by simp)
  iterate 2 refine QF (by first|exact sA|exact sB|(simp[Qf,Qd];done)|(simp[Qf,Qd];omega)|(simp[q3,q4];done)|(simp[q3,q4];omega)|(rw[q1];simp;omega)) ?_
  refine K6 λz4 y4=>?_;obtain rfl:z4=false:=y4.trans (by simp)
  iterate 2 refine QF (by first|exact sA|exact sB|(simp[Qf,Qd];done)|(simp[Qf,Qd];omega)|(simp[q3,q4];done)|(simp[q3,q4];omega)|(rw[q1];simp;omega)) ?_
  refine K6 λz5 y5=>?_;obtain rfl:z5=false:=y5.trans (by simp)
  iterate 2 refine QF (by first|exact sA|exact sB|(simp[Qf,Qd];done)|(simp[Qf,Qd];omega)|(simp[q3,q4];done)|(simp[q3,q4];omega)|(rw[q1];simp;omega)) ?_
  refine K6 λz6 y6=>?_;obtain rfl:z6=false:=y6.trans (by simp)
  refine QH ?_ ?_<;>intro b1
  .cases b1
  .refine QF (by first|exact sA|exact sB|(simp[Qf,Qd];done)|(simp[Qf,Qd];omega)|(simp[q3,q4];done)|(simp[q3,q4];omega)|(rw[q1];simp;omega)) ?_
   refine QF (by (refine KP.2 ?_;repeat' first|with_reducible refine QK ?_ ?_|exact tv|refine aI ?_ ?_)) ?_
   refine QH ?_ ?_<;>intro b2
   .have he:Qo x≠0:=by simpa using b2
    have hv:Qg x=([],[],0,Qo x):=by
     have:(Qo x==0)=false:=by simpa using he
     rw[QEK,this];rfl
    have q1:Ke (Rw.mk (Qg x).1.length λi=>(Qg x).1.getD i (QB.mk 0 0)) (Rw.mk 0 λ_=>QB.mk 0 0)=true:=QGe (by rw[hv];rfl) rfl
    have q2:Ke (Rw.mk (Qg x).2.1.length λi=>(Qg x).2.1.getD i (QB.mk 0 0)) (Rw.mk 0 λ_=>QB.mk 0 0)=true:=QGe (by rw[hv];rfl) rfl
    have q3:=q1;have q4:=q2;refine QF (by first|exact sA|exact sB|(simp[Qf,Qd];done)|(simp[Qf,Qd];omega)|(simp[q3,q4];done)|(simp[q3,q4];omega)|(rw[q1];simp;omega)) ?_
    iterate 2 refine QF (by first|exact sA|exact sB|(simp[Qf,Qd];done)|(simp[Qf,Qd];omega)|(simp[q3,q4];done)|(simp[q3,q4];omega)|(rw[q1];simp;omega)) ?_
    refine K6 λz7 y7=>?_;obtain rfl:z7=true:=y7.trans (by rw[q1,q2];rfl)
    iterate 2 refine QF (by first|exact sA|exact sB|(simp[Qf,Qd];done)|(simp[Qf,Qd];omega)|(simp[q3,q4];done)|(simp[q3,q4];omega)|(rw[q1];simp;omega)) ?_
    refine K6 λz8 y8=>?_;obtain rfl:z8=true:=y8.trans (by rw[hv];rfl)
    iterate 2 refine QF (by first|exact sA|exact sB|(simp[Qf,Qd];done)|(simp[Qf,Qd];omega)|(simp[q3,q4];done)|(simp[q3,q4];omega)|(rw[q1];simp;omega)) ?_
    refine K6 λz9 y9=>?_;obtain rfl:z9=true:=y9.trans (by rw[hv];simp)
    refine QF (by first|exact sA|exact sB|(simp[Qf,Qd];done)|(simp[Qf,Qd];omega)|(simp[q3,q4];done)|(simp[q3,q4];omega)|(rw[q1];simp;omega)) ?_
    refine K6 λz10 y10=>?_;obtain rfl:z10=true:=y10.trans (rfl);exact KT rfl rfl
   .have he:Qo x=0:=by simpa using b2
    have hT:=QIy he;have hp:=QNd he;have hv:Qg x=((Qb x).headD [],(Qb x).getD 1 [],((min (Qb x).length 100:Nat):Int),0):=by rw[QEK,he];rfl
    have t1:(Qg x).1=QG (QY x) (Int.toNat 0):=by
     rw[hv,hT];show(Qb x).headD []=(Qb x).getD 0 [];cases Qb x<;>rfl
    have t2:(Qg x).2.1=QG (QY x) (Int.toNat 1):=by rw[hv,hT];rfl
    have t3:(Qg x).2.2.1=((min (QY x).length 100:Nat):Int):=by rw[hv,hT]
    have t4:(Qg x).2.2.2=0:=by rw[hv]
    have q1:Ke (Rw.mk (Qg x).1.length λi=>(Qg x).1.getD i (QB.mk 0 0)) (Rw.mk (QG (QY x) (Int.toNat 0)).length λi=>(QG (QY x) (Int.toNat 0)).getD i (QB.mk 0 0))=true:=by rw[t1];exact Qd _
    have k1:(QG (QY x) (Int.toNat 0)).length<=1000:=by rw[<-t1];exact l3
    have k2:(QG (QY x) (Int.toNat 1)).length<=1000:=by rw[<-t2];exact l4
    have q3:Ke ⟨(Qg x).1.length,λi=>(Qg x).1.getD i ⟨0,0⟩⟩ ⟨(QG (QY x) 0).length,λi=>(QG (QY x) 0).getD i ⟨0,0⟩⟩=true:=q1;have k3:(QG (QY x) 0).length<=1000:=k1;have k4:(QG (QY x) 1).length<=1000:=k2;refine QH ?_ ?_<;>intro b3
    .have h1:(QY x).length=1:=by simp at b3;omega
     have q2:Ke (Rw.mk (Qg x).2.1.length λi=>(Qg x).2.1.getD i (QB.mk 0 0)) (Rw.mk 0 λ_=>QB.mk 0 0)=true:=by
      refine QGe ?_ rfl;show(Qg x).2.1.length=0;rw[t2];show((QY x).getD 1 []).length=0;rw[List.getD_eq_getElem?_getD,List.getElem?_eq_none (by omega:(QY x).length<=1)];rfl
     have q4:=q2;refine QF (by first|exact sA|exact sB|(simp[Qf,Qd];done)|(simp[Qf,Qd];omega)|(simp[q3,q4];done)|(simp[q3,q4];omega)|(rw[q1];simp;omega)) ?_
     iterate 4 refine QF (by first|exact sA|exact sB|(simp[Qf,Qd];done)|(simp[Qf,Qd];omega)|(simp[q3,q4];done)|(simp[q3,q4];omega)|(rw[q1];simp;omega)) ?_
     refine K6 λz11 y11=>?_;obtain rfl:z11=true:=y11.trans (by rw[q1,q2];rfl)
     iterate 2 refine QF (by first|exact sA|exact sB|(simp[Qf,Qd];done)|(simp[Qf,Qd];omega)|(simp[q3,q4];done)|(simp[q3,q4];omega)|(rw[q1];simp;omega)) ?_
     refine K6 λz12 y12=>?_;obtain rfl:z12=true:=y12.trans (by rw[t3,h1];rfl)
     iterate 2 refine QF (by first|exact sA|exact sB|(simp[Qf,Qd];done)|(simp[Qf,Qd];omega)|(simp[q3,q4];done)|(simp[q3,q4];omega)|(rw[q1];simp;omega)) ?_
     refine K6 λz13 y13=>?_;obtain rfl:z13=true:=y13.trans (by rw[t4];rfl)
     refine QF (by first|exact sA|exact sB|(simp[Qf,Qd];done)|(simp[Qf,Qd];omega)|(simp[q3,q4];done)|(simp[q3,q4];omega)|(rw[q1];simp;omega)) ?_
     refine K6 λz14 y14=>?_;obtain rfl:z14=true:=y14.trans (rfl);exact KT rfl rfl
    .have h2:2<=(QY x).length:=by simp at b3;omega
     have q2:Ke (Rw.mk (Qg x).2.1.length λi=>(Qg x).2.1.getD i (QB.mk 0 0)) (Rw.mk (QG (QY x) (Int.toNat 1)).length λi=>(QG (QY x) (Int.toNat 1)).getD i (QB.mk 0 0))=true:=by rw[t2];exact Qd _
     have q4:Ke ⟨(Qg x).2.1.length,λi=>(Qg x).2.1.getD i ⟨0,0⟩⟩ ⟨(QG (QY x) 1).length,λi=>(QG (QY x) 1).getD i ⟨0,0⟩⟩=true:=q2;refine QF (by first|exact sA|exact sB|(simp[Qf,Qd];done)|(simp[Qf,Qd];omega)|(simp[q3,q4];done)|(simp[q3,q4];omega)|(rw[q1];simp;omega)) ?_
     iterate 6 refine QF (by first|exact sA|exact sB|(simp[Qf,Qd];done)|(simp[Qf,Qd];omega)|(simp[q3,q4];done)|(simp[q3,q4];omega)|(rw[q1];simp;omega)) ?_
     refine K6 λz15 y15=>?_;obtain rfl:z15=true:=y15.trans (by rw[q1,q2];rfl)
     iterate 2 refine QF (by first|exact sA|exact sB|(simp[Qf,Qd];done)|(simp[Qf,Qd];omega)|(simp[q3,q4];done)|(simp[q3,q4];omega)|(rw[q1];simp;omega)) ?_
     refine K6 λz16 y16=>?_;obtain rfl:z16=true:=y16.trans (by rw[t3];simp;omega)
     iterate 2 refine QF (by first|exact sA|exact sB|(simp[Qf,Qd];done)|(simp[Qf,Qd];omega)|(simp[q3,q4];done)|(simp[q3,q4];omega)|(rw[q1];simp;omega)) ?_
     refine K6 λz17 y17=>?_;obtain rfl:z17=true:=y17.trans (by rw[t4];rfl)
     refine QF (by first|exact sA|exact sB|(simp[Qf,Qd];done)|(simp[Qf,Qd];omega)|(simp[q3,q4];done)|(simp[q3,q4];omega)|(rw[q1];simp;omega)) ?_
     refine K6 λz18 y18=>?_;obtain rfl:z18=true:=y18.trans (rfl);exact KT rfl rfl
theorem QVP(x:QD){r:Nat->Go.SX.Loc}{w:World}(hr:∀ q∈QW.blks 0 ((x,()):QD×Unit),QR r q.1 w q.2):
  Calls prog 3 (AV.denL r (QW.vals 0 ((x,()):QD×Unit))).toArray w λe w'=>e = .returned (.bool true)/\Fr w w' (λ_=>False):=by
 have one:(JN Zv (x,()) (x,())).1=true:=by
  show(QV [(x,())=(x,())]&&true)=true;rw[KP.2 (show KX [(x,())=(x,())]from⟨rfl,trivial⟩)];rfl
 cases hg:Wg x 4 4 with
 | true=>
  have hT:QZ (ZT (λ_=>false) x [] 0):=QOY (QLS (Zm (by kernel_rfl) _))
  exact QKO (H:=λ_=>hnd (mkS prog (ZT (λ_=>false) x [] 0)) 3) (F:=JN Zv (x,())) (Vq hT) func3 (c:=Qi f3) (by kernel_rfl) ⟨λy _ G h1 _=>Qw (Vq hT) 3 G _ h1⟩ ⟨λy hy=>by
   obtain⟨rfl,_⟩:=QIg hy;exact⟨QRu x,QTh x hg⟩⟩ (x,()) one (u := .bool true) rfl hr (λ_=>rfl)
 | false=>
  obtain⟨hz,h4⟩:=QOp hg;have hT:QZ (ZT QV x (QY x) (Qo x)):=QOY (QLS (QDT x ⟨by omega,by omega,by omega⟩ h4))
  exact QKO (H:=λ_=>hnd (mkS prog (ZT QV x (QY x) (Qo x))) 3) (F:=JN Zv (x,())) (Vq hT) func3 (c:=Qi f3) (by kernel_rfl) ⟨λy _ G h1 _=>Qw (Vq hT) 3 G _ h1⟩ ⟨λy hy=>by
   obtain⟨rfl,_⟩:=QIg hy;exact⟨QRu x,QdE x hg⟩⟩ (x,()) one (u := .bool true) rfl hr (λ_=>rfl)
