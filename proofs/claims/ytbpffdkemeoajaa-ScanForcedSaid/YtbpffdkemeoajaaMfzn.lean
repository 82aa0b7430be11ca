/- - -/
import Derived.Test.YtbpffdkemeoajaaMfzm
set_option maxRecDepth 100000
namespace Go.Proofs.Ytbpffdkemeoajaa
open Go.SX
noncomputable abbrev QE0(P:Program)(two:Bool)(x:QE)(o:Frc)(k:Nat):Hnd:={ hnd (mkS P Kw) 3 with loop:=GQ P (Vn (QX Try.f6 1)) two x o k (o.cells.getD k 0) (Q3 x.d (x.scans.get k)) (VQ (Q3 x.d (x.scans.get k)) (Q3 x.d (x.scans.get k)).length) }
variable (x:QE)
set_option maxHeartbeats 3200000 in
theorem QXY(o:Frc)(ho:QDs x o):JJ (Y8 false x o) (fun k=>k≤x.scans.n) (fun k=>x.scans.n-k) (fun _ e J=>e = .exit 2∧J=WW) 8 QBN [] (mkS Try.prog Kw) (fun k=>QE0 Try.prog false x o k) (QX Try.f6 1):=by
 refine⟨fun k g hk=>Q2 (QVw x o k (VQ (Q3 x.d (x.scans.get k)) (Q3 x.d (x.scans.get k)).length) g) ?_⟩;have hk:k≤x.scans.n:=hk;have hn:=ho.n;have hd:=ho.d;have lc:=ho.c;have lt:=ho.t;have la:=ho.a
 by_cases h:k<x.scans.n
 ·have hK:=ho.k k h;have f1:=hK.so.f1;have f2:=hK.so.f2;have f3:=hK.so.f3;have r1:(decide ((0:Int)≤(k:Int)∧(k:Int)<(o.a.length:Int))&&decide (o.a.length≤o.a.length))=true:=by simp;omega
  have r2:decide (k<o.a.length)=true:=by simp;omega
  refine QG (fun b0 => ?_) (fun b0 => ?_)
  ·refine QF (by simp;omega) ?_
   refine QF (by simp;omega) ?_
   refine QF (by simp;omega) ?_
   refine QF (by simp;omega) ?_
   refine Qo ?_;refine Ko (fun q=>by first|(simp;done)|(simp at q ⊢;omega)) ?_
   iterate 2 refine Qo ?_
   refine Jh ?_;refine Qo ?_;refine Qz fun z0 y0 => ?_
   iterate 4 refine Qo ?_
   refine JK (fun q=>by first|(simp;done)|(simp at q ⊢;omega)) ?_
   refine Jh ?_;refine Xc ?_;refine Qz fun z1 y1 => ?_;obtain rfl:z1=false:=y1.trans (f2);refine Jf ?_;refine Qz fun z2 y2 => ?_;obtain rfl:z2=false:=y2.trans (by rw[show(z0==((o.told.getD k (⟨0,0⟩:QB)).cell != (-1:Int)))=true from(by rw[y0];exact f1)];rfl)
   iterate 4 refine Qo ?_
   refine Xc ?_;refine Qz fun z3 y3 => ?_;obtain rfl:z3=false:=y3.trans (f3);refine Jf ?_;refine Qz fun z4 y4 => ?_;obtain rfl:z4=false:=y4.trans (rfl);refine QG (fun b1 => ?_) (fun b1 => ?_)
   ·cases b1
   ·refine Ko (fun q=>by first|(simp;done)|(simp at q ⊢;omega)) ?_
    refine Qo ?_;refine JK (fun q=>by first|(simp;done)|(simp at q ⊢;omega)) ?_
    refine Qo ?_;refine Jh ?_;refine Qo ?_;refine Qz fun z5 y5 => ?_;obtain rfl:z5=false:=y5.trans (hK.sa.f4);refine Ko (fun q=>by first|(simp;done)|(simp at q ⊢;omega)) ?_
    refine Qo ?_;refine JK (fun q=>by first|(simp;done)|(simp at q ⊢;omega)) ?_
    iterate 2 refine Qo ?_
    refine Ko (fun q=>by first|(simp;done)|(simp at q ⊢;omega)) ?_
    refine Qo ?_;refine JK (fun q=>by first|(simp;done)|(simp at q ⊢;omega)) ?_
    refine Ko (fun q=>by first|(simp;done)|(simp at q ⊢;omega)) ?_
    iterate 2 refine Qo ?_
    refine Xc ?_;refine Qz fun z6 y6 => ?_;obtain rfl:z6=false:=y6.trans (hK.sa.f5);refine Jf ?_;refine Qz fun z7 y7 => ?_;obtain rfl:z7=false:=y7.trans (rfl);refine Ko (fun q=>by first|(simp;done)|(simp at q ⊢;omega)) ?_
    refine Qo ?_;refine JK (fun q=>by first|(simp;done)|(simp at q ⊢;omega)) ?_
    iterate 2 refine Qo ?_
    refine Ko (fun q=>by first|(simp;done)|(simp at q ⊢;omega)) ?_
    iterate 2 refine Qo ?_
    refine Xc ?_;refine Qz fun z8 y8 => ?_;obtain rfl:z8=false:=y8.trans (hK.sa.f6);refine Jf ?_;refine Qz fun z9 y9 => ?_;obtain rfl:z9=false:=y9.trans (rfl);refine QG (fun b2 => ?_) (fun b2 => ?_)
    ·cases b2
    ·iterate 3 refine Qo ?_
     refine Qz fun z10 y10 => ?_;refine Ko (fun q=>by first|(simp;done)|(simp at q ⊢;omega)) ?_
     refine Qo ?_;refine JK (fun q=>by first|(simp;done)|(simp at q ⊢;omega)) ?_
     refine Qo ?_;refine Jh ?_;refine Qo ?_;refine Qz fun z11 y11 => ?_;obtain rfl:z11=false:=y11.trans (by rw[y10];exact hK.sa.f7)
     refine QG (fun b3 => ?_) (fun b3 => ?_)
     ·cases b3
     ·refine QF (by simp;omega) ?_
      refine QF (by simp;omega) ?_
      refine QF (by simp;omega) ?_
      refine QG (fun b4 => ?_) (fun b4 => ?_)
      ·rw[hK.e]at b4;cases b4
      ·iterate 57 refine Qa (by first|with_reducible rfl|exact qlr _|exact qRr|exact QY _ _ _ _|exact trivial) ?_
       refine KJ fun a0 => ?_;refine KF fun g0 => ?_;refine QG (fun b5 => ?_) (fun b5 => ?_)
       ·rw[hK.c]at b5;cases b5
       ·refine⟨k+1,h,by show x.scans.n-(k+1)<x.scans.n-k;omega,fun _ _ r=>r,rfl,rfl,_,QPq ..,?_⟩
        repeat' first|with_reducible refine QQ ?_ ?_|exact trivial|with_reducible rfl|exact qlr _|exact qRr|exact Kn h (by omega)|refine And.intro ?_ ?_
  ·exact absurd (of_decide_eq_false b0) (by omega)
 ·have e:k=o.told.length:=by omega
  subst e;refine QG (fun b0=>absurd (qdt b0) (by omega)) (fun _ => ?_)
  exact⟨_,⟨rfl,rfl⟩,rfl,rfl,_,QQp,trivial⟩
set_option maxHeartbeats 3200000 in
theorem QSQ(o:Frc)(ho:QLp x o):JJ (Y8 true x o) (fun k=>k≤x.scans.n) (fun k=>x.scans.n-k) (fun _ e J=>e = .exit 2∧J=WW) 8 QBN [] (mkS Try.prog Kw) (fun k=>QE0 Try.prog true x o k) (QX Try.f6 1):=by
 refine⟨fun k g hk=>Q2 (QTT x o k (VQ (Q3 x.d (x.scans.get k)) (Q3 x.d (x.scans.get k)).length) g) ?_⟩;have hk:k≤x.scans.n:=hk;have hn:=ho.n;have hd:=ho.d;have lc:=ho.c;have lt:=ho.t;have la:=ho.a;have lb:=ho.b
 by_cases h:k<x.scans.n
 ·have hK:=ho.k k h;have hT:=ho.kb k h;have f1:=hK.so.f1;have f2:=hK.so.f2;have f3:=hK.so.f3;have r1:(decide ((0:Int)≤(k:Int)∧(k:Int)<(o.a.length:Int))&&decide (o.a.length≤o.a.length))=true:=by simp;omega
  have r2:decide (k<o.a.length)=true:=by simp;omega
  have r3:(decide ((0:Int)≤(k:Int)∧(k:Int)<(o.b.length:Int))&&decide (o.b.length≤o.b.length))=true:=by simp;omega
  have r4:decide (k<o.b.length)=true:=by simp;omega
  refine QG (fun b0 => ?_) (fun b0 => ?_)
  ·refine QF (by simp;omega) ?_
   refine QF (by simp;omega) ?_
   refine QF (by simp;omega) ?_
   refine QF (by simp;omega) ?_
   refine Qo ?_;refine Ko (fun q=>by first|(simp;done)|(simp at q ⊢;omega)) ?_
   iterate 2 refine Qo ?_
   refine Jh ?_;refine Qo ?_;refine Qz fun z0 y0 => ?_
   iterate 4 refine Qo ?_
   refine JK (fun q=>by first|(simp;done)|(simp at q ⊢;omega)) ?_
   refine Jh ?_;refine Xc ?_;refine Qz fun z1 y1 => ?_;obtain rfl:z1=false:=y1.trans (f2);refine Jf ?_;refine Qz fun z2 y2 => ?_;obtain rfl:z2=false:=y2.trans (by rw[show(z0==((o.told.getD k (⟨0,0⟩:QB)).cell != (-1:Int)))=true from(by rw[y0];exact f1)];rfl)
   iterate 4 refine Qo ?_
   refine Xc ?_;refine Qz fun z3 y3 => ?_;obtain rfl:z3=false:=y3.trans (f3);refine Jf ?_;refine Qz fun z4 y4 => ?_;obtain rfl:z4=false:=y4.trans (rfl);refine QG (fun b1 => ?_) (fun b1 => ?_)
   ·cases b1
   ·refine Ko (fun q=>by first|(simp;done)|(simp at q ⊢;omega)) ?_
    refine Qo ?_;refine JK (fun q=>by first|(simp;done)|(simp at q ⊢;omega)) ?_
    refine Qo ?_;refine Jh ?_;refine Qo ?_;refine Qz fun z5 y5 => ?_;obtain rfl:z5=false:=y5.trans (hK.sa.f4);refine Ko (fun q=>by first|(simp;done)|(simp at q ⊢;omega)) ?_
    refine Qo ?_;refine JK (fun q=>by first|(simp;done)|(simp at q ⊢;omega)) ?_
    iterate 2 refine Qo ?_
    refine Ko (fun q=>by first|(simp;done)|(simp at q ⊢;omega)) ?_
    refine Qo ?_;refine JK (fun q=>by first|(simp;done)|(simp at q ⊢;omega)) ?_
    refine Ko (fun q=>by first|(simp;done)|(simp at q ⊢;omega)) ?_
    iterate 2 refine Qo ?_
    refine Xc ?_;refine Qz fun z6 y6 => ?_;obtain rfl:z6=false:=y6.trans (hK.sa.f5);refine Jf ?_;refine Qz fun z7 y7 => ?_;obtain rfl:z7=false:=y7.trans (rfl);refine Ko (fun q=>by first|(simp;done)|(simp at q ⊢;omega)) ?_
    refine Qo ?_;refine JK (fun q=>by first|(simp;done)|(simp at q ⊢;omega)) ?_
    iterate 2 refine Qo ?_
    refine Ko (fun q=>by first|(simp;done)|(simp at q ⊢;omega)) ?_
    iterate 2 refine Qo ?_
    refine Xc ?_;refine Qz fun z8 y8 => ?_;obtain rfl:z8=false:=y8.trans (hK.sa.f6);refine Jf ?_;refine Qz fun z9 y9 => ?_;obtain rfl:z9=false:=y9.trans (rfl);refine QG (fun b2 => ?_) (fun b2 => ?_)
    ·cases b2
    ·iterate 3 refine Qo ?_
     refine Qz fun z10 y10 => ?_;refine Ko (fun q=>by first|(simp;done)|(simp at q ⊢;omega)) ?_
     refine Qo ?_;refine JK (fun q=>by first|(simp;done)|(simp at q ⊢;omega)) ?_
     refine Qo ?_;refine Jh ?_;refine Qo ?_;refine Qz fun z11 y11 => ?_;obtain rfl:z11=false:=y11.trans (by rw[y10];exact hK.sa.f7)
     refine QG (fun b3 => ?_) (fun b3 => ?_)
     ·cases b3
     ·refine Ko (fun q=>by first|(simp;done)|(simp at q ⊢;omega)) ?_
      refine Qo ?_;refine JK (fun q=>by first|(simp;done)|(simp at q ⊢;omega)) ?_
      refine Qo ?_;refine Jh ?_;refine Qo ?_;refine Qz fun z12 y12 => ?_;obtain rfl:z12=false:=y12.trans (hT.f4);refine Ko (fun q=>by first|(simp;done)|(simp at q ⊢;omega)) ?_
      refine Qo ?_;refine JK (fun q=>by first|(simp;done)|(simp at q ⊢;omega)) ?_
      iterate 2 refine Qo ?_
      refine Ko (fun q=>by first|(simp;done)|(simp at q ⊢;omega)) ?_
      refine Qo ?_;refine JK (fun q=>by first|(simp;done)|(simp at q ⊢;omega)) ?_
      refine Ko (fun q=>by first|(simp;done)|(simp at q ⊢;omega)) ?_
      iterate 2 refine Qo ?_
      refine Xc ?_;refine Qz fun z13 y13 => ?_;obtain rfl:z13=false:=y13.trans (hT.f5);refine Jf ?_;refine Qz fun z14 y14 => ?_;obtain rfl:z14=false:=y14.trans (rfl);refine Ko (fun q=>by first|(simp;done)|(simp at q ⊢;omega)) ?_
      refine Qo ?_;refine JK (fun q=>by first|(simp;done)|(simp at q ⊢;omega)) ?_
      iterate 2 refine Qo ?_
      refine Ko (fun q=>by first|(simp;done)|(simp at q ⊢;omega)) ?_
      iterate 2 refine Qo ?_
      refine Xc ?_;refine Qz fun z15 y15 => ?_;obtain rfl:z15=false:=y15.trans (hT.f6);refine Jf ?_;refine Qz fun z16 y16 => ?_;obtain rfl:z16=false:=y16.trans (rfl);refine QG (fun b4 => ?_) (fun b4 => ?_)
      ·cases b4
      ·iterate 3 refine Qo ?_
       refine Qz fun z17 y17 => ?_;refine Ko (fun q=>by first|(simp;done)|(simp at q ⊢;omega)) ?_
       refine Qo ?_;refine JK (fun q=>by first|(simp;done)|(simp at q ⊢;omega)) ?_
       refine Qo ?_;refine Jh ?_;refine Qo ?_;refine Qz fun z18 y18 => ?_;obtain rfl:z18=false:=y18.trans (by rw[y17];exact hT.f7)
       refine QG (fun b5 => ?_) (fun b5 => ?_)
       ·cases b5
       ·refine QF (by simp;omega) ?_
        refine QF (by simp;omega) ?_
        refine QF (by simp;omega) ?_
        refine QG (fun b6 => ?_) (fun b6 => ?_)
        ·rw[hK.e]at b6;cases b6
        ·iterate 62 refine Qa (by first|with_reducible rfl|exact qlr _|exact qRr|exact QY _ _ _ _|exact trivial) ?_
         refine KJ fun a0 => ?_;refine KF fun g0 => ?_;refine QG (fun b7 => ?_) (fun b7 => ?_)
         ·rw[hK.c]at b7;cases b7
         ·refine⟨k+1,h,by show x.scans.n-(k+1)<x.scans.n-k;omega,fun _ _ r=>r,rfl,rfl,_,QPi ..,?_⟩
          repeat' first|with_reducible refine QQ ?_ ?_|exact trivial|with_reducible rfl|exact qlr _|exact qRr|exact Kn h (by omega)|refine And.intro ?_ ?_
  ·exact absurd (of_decide_eq_false b0) (by omega)
 ·have e:k=o.told.length:=by omega
  subst e;refine QG (fun b0=>absurd (qdt b0) (by omega)) (fun _ => ?_)
  exact⟨_,⟨rfl,rfl⟩,rfl,rfl,_,QPc,trivial⟩
end Go.Proofs.Ytbpffdkemeoajaa
namespace Go.Proofs.Ytbpffdkemeoajaa
open Go Go.SX
def Zc(n:Nat):Bool:=n==0||(List.range 9).any fun j=>n==2^j
theorem QYr:∀ n:Fin 512,(IntKind.i64.wrap ((BitVec.ofInt 64 ((n.val:Nat):Int) &&& BitVec.ofInt 64 (IntKind.i64.wrap (((n.val:Nat):Int)-1))).toNat:Nat)==0)=Zc n.val:=by decide +kernel
variable {q:Nat}{c:Int}{p:Nat→Bool}(x:QE)
theorem QDw(hq:q<9):Kq ((2^q:Nat):Int)∧1≤((2^q:Nat):Int):=by
 have h9:2^q≤2^8:=Nat.pow_le_pow_right (by omega) (by omega)
 have h1:1≤2^q:=Nat.one_le_two_pow;generalize 2^q=n at *;exact⟨⟨by omega,by omega⟩,by omega⟩
theorem QSO(hq:q<9)(k:Nat):Qx ((2^q:Nat):Int) k=decide (k=q):=by
 rw[QKE (Int.natCast_nonneg _) (QDw hq).1,Int.toNat_natCast,Nat.testBit_two_pow];exact decide_eq_decide.2 eq_comm
structure ve (c:Int) (p:Nat→Bool):Prop where
 i:Kq c
 b:∀ k,Qx c k=p k
 lt:∀ k,9≤k→p k=false
theorem QSa(h:ve c p)(hp:∀ k,p k=false):c=0:=
 QEp h.i ⟨by omega,by omega⟩ fun k=>by rw[h.b,hp,Zp]
theorem QUj(h:ve c p)(hq:q<9)(hp:∀ k,p k=decide (k=q)):c=((2^q:Nat):Int):=by
 exact QEp h.i (QDw hq).1 fun k=>by rw[h.b,hp,QSO hq]
theorem QKT(h:ve c p):∃ n:Fin 512,c=((n.val:Nat):Int):=by
 obtain⟨h1,h2⟩:=QYI h.i (n:=9) (by omega) (fun k hk=>by rw[h.b,h.lt k hk])
 obtain⟨n,rfl⟩:=Int.eq_ofNat_of_zero_le h1;exact⟨⟨n,by omega⟩,rfl⟩
theorem Zj(h:ve c p):(IntKind.i64.wrap ((BitVec.ofInt 64 c &&& BitVec.ofInt 64 (IntKind.i64.wrap (c-1))).toNat:Nat)==0)=Zc c.toNat:=by
 obtain⟨n,rfl⟩:=QKT h;rw[QYr n,Int.toNat_natCast]
theorem QPG(hq:q<9):Zc (2^q)=true:=by
 unfold Zc;rw[qbO];exact .inr (List.any_eq_true.2 ⟨q,List.mem_range.2 hq,by simp⟩)
theorem QPb(h:ve c p){i j:Nat}(hi:p i=true)(hj:p j=true)(hij:i≠j):Zc c.toNat=false:=by
 obtain⟨n,e⟩:=QKT h
 have b:∀ k,p k=n.val.testBit k:=fun k=>by
  rw[←h.b,e,QKE (Int.natCast_nonneg _) ⟨by omega,by omega⟩,Int.toNat_natCast]
 rw[e,Int.toNat_natCast];rw[b]at hi hj;cases ho:Zc n.val with
 | false=>rfl
 | true=>
  unfold Zc at ho;rw[qbO]at ho;rcases ho with ho|ho
  ·have:n.val=0:=by simpa using ho
   rw[this]at hi;simp at hi
  ·obtain⟨q,_,hq⟩:=List.any_eq_true.1 ho;have hq:n.val=2^q:=by simpa using hq
   rw[hq,Nat.testBit_two_pow,qdE]at hi hj;omega
theorem QTN{x:QE}(hx:x.ok=true){k:Nat}(hk:k<x.scans.n):ZW x.d (x.scans.get k)=true:=by
 simp only[QE.ok,qbA]at hx;obtain⟨_,hd,hs,_⟩:=hx;rw[QHQ hd]at hs;have:=QKV hs k hk;unfold YD at this;unfold ZW VK;rw[hd,Bool.true_and,QM]
 have e:Kz ⟨x.d.play⟩ ⟨1,fun _=>x.scans.get k⟩ 0=false:=by
  unfold Kz;rw[QOM hd];simpa using this
 rw[e];rfl
theorem QJV{L:List QB}(hL:∀ c∈L,0≤c.cell)(k:Nat)(hk:k<64):∀ n,n≤L.length→Qx (VQ L n) k=(L.take n).any fun s=>s.cell==(k:Int)
 | 0,_=>by rw[VQ,Zp];rfl
 | n+1,h=>by
  have hc:=hL L[n] (List.getElem_mem _);rw[vO (by omega),List.any_append,←QJV hL k hk n (by omega),VQ,qD (by omega),jB hc]
  congr 1;rw[decide_eq_true hk,Bool.true_and];simp only[List.any_cons,List.any_nil,Bool.or_false]
  by_cases e:L[n].cell=(k:Int)
  ·simp[e]
  ·simp[e]
def J2:Frc:=⟨(Qb x).headD [],(Qb x).getD 1 [],(Q1 x).1,(Q1 x).2.1,(Kd x).1⟩
section
variable {x:QE}
theorem QLW{t:List QB}{k:Nat}(hx:x.ok=true)(hp:QBL x (Q1 x).1 (Q1 x).2.1)(hk:k<x.scans.n)(ht:t∈Qb x):QD0 ((Q1 x).1.getD k 0) (Q1 x).2.1 k (Jy (Qb x) k) (t.getD k ⟨0,0⟩):=by
 have htr:=(Ys hx).1 ht;have hs:=(JM hx).s;have n9:=(JM hx).d.n9;have hmem:t.getD k ⟨0,0⟩∈t:=vW (by rw[htr.len];exact hk)
 have hc:=QCj htr _ hmem;refine⟨?_,?_,?_,?_⟩
 ·by_cases e:(Jy (Qb x) k).cell = -1
  ·simp[e]
  ·have:=QOg e t ht;rw[this];simp
 ·by_cases e:(t.getD k ⟨0,0⟩).cell≥0
  ·have:Qx ((Q1 x).1.getD k 0) (t.getD k ⟨0,0⟩).cell.toNat=true:=by
    rw[hp.cb k hk];exact List.any_eq_true.2 ⟨t,ht,by rw[beq_iff_eq];omega⟩
   rw[Ha (hp.ci k) (by omega),if_pos this];simp
  ·rw[decide_eq_false e];rfl
 ·by_cases e:(t.getD k ⟨0,0⟩).cell = -2
  ·have:Qx (Q1 x).2.1 k=true:=by
    rw[hp.ab,decide_eq_true hk,Bool.true_and];exact List.any_eq_true.2 ⟨t,ht,by simpa using e⟩
   rw[Ha hp.ai (by omega),if_pos this];simp
  ·rw[show((t.getD k ⟨0,0⟩).cell == -2)=false by simpa using e];rfl
 ·by_cases e:(Jy (Qb x) k).turn=0
  ·simp[e]
  ·have e2:(Jy (Qb x) k).turn=(t.getD k ⟨0,0⟩).turn:=by
    unfold Jy at e ⊢;cases q:(Qb x).any fun l=>(l.getD k ⟨0,0⟩).cell != (((Qb x).headD []).getD k ⟨0,0⟩).cell with
    | true=>rw[q]at e;exact absurd rfl e
    | false=>
     rw[q,cond_false]at e;cases q2:(Qb x).any fun l=>XD l ((Qb x).headD []) k with
     | true=>rw[q2]at e;exact absurd rfl e
     | false=>
      rw[cond_false,cond_false];rw[List.any_eq_false]at q2;have:=q2 t ht;unfold XD at this;simp only[Bool.not_eq_true',Bool.not_eq_false,qbA,Bool.and_true]at this;have q3:(t.getD k ⟨0,0⟩).turn=(((Qb x).headD []).getD k ⟨0,0⟩).turn:=by simpa using this.2
      exact q3.symm
   rw[e2];simp
theorem QWy{k:Nat}(hx:x.ok=true)(hne:Qb x≠[])(hp:QBL x (Q1 x).1 (Q1 x).2.1)(hk:k<x.scans.n):QGZ ((Q1 x).1.getD k 0) (Q1 x).2.1 k (Jy (Qb x) k):=by
 have hs:=(JM hx).s;have n9:=(JM hx).d.n9;obtain⟨t0,ht0⟩:=List.exists_mem_of_ne_nil _ hne
 have hcell:∀ t∈Qb x,(t.getD k ⟨0,0⟩).cell = -2∨0≤(t.getD k ⟨0,0⟩).cell∧(t.getD k ⟨0,0⟩).cell<9:=fun t ht=>by
  have htr:=(Ys hx).1 ht;rcases QCj htr _ (vW (by rw[htr.len];exact hk):t.getD k ⟨0,0⟩∈t)with ⟨e,_⟩|⟨h1,h2,_⟩<;>omega
 have hN:ve ((Q1 x).1.getD k 0) (fun j=>(Qb x).any fun l=>(l.getD k ⟨0,0⟩).cell==(j:Int)):=⟨hp.ci k,hp.cb k hk,fun j hj=>by
  rw[List.any_eq_false];intro t ht q;have q:(t.getD k ⟨0,0⟩).cell=(j:Int):=by simpa using q
  have:=hcell t ht;omega⟩
 have hal:(qX (Q1 x).2.1 k==1)=(Qb x).any fun l=>(l.getD k ⟨0,0⟩).cell == -2:=by
  rw[Ha hp.ai (by omega),hp.ab,decide_eq_true hk,Bool.true_and]
  cases (Qb x).any fun l=>(l.getD k ⟨0,0⟩).cell == -2<;>rfl
 rw[show QGZ _ _ _ _=_ from rfl]
 by_cases es:(Jy (Qb x) k).cell = -1
 ·
  have e3:((Jy (Qb x) k).cell != -1)=false:=by simp[es]
  refine⟨?_,by rw[es];rfl,by rw[es];rfl⟩
  rw[e3,Zj hN,hal];unfold Jy at es;cases q:(Qb x).any fun l=>(l.getD k ⟨0,0⟩).cell != (((Qb x).headD []).getD k ⟨0,0⟩).cell with
  | false=>
   exfalso;rw[q,cond_false]at es;obtain⟨f,L,hL⟩:∃ f L,Qb x=f::L:=by cases e:Qb x with|nil=>exact absurd e hne|cons f L=>exact⟨f,L,rfl⟩
   have:=hcell f (by rw[hL];simp)
   rw[hL,List.headD_cons]at es;cases q2:(f::L).any fun l=>XD l f k<;>rw[q2]at es<;>simp only[cond_true,cond_false]at es<;>omega
  | true=>
   obtain⟨f,L,hL⟩:∃ f L,Qb x=f::L:=by cases e:Qb x with|nil=>exact absurd e hne|cons f L=>exact⟨f,L,rfl⟩
   obtain⟨l,hl,hd⟩:=List.any_eq_true.1 q;have hf:f∈Qb x:=by rw[hL];simp
   have hd:(l.getD k ⟨0,0⟩).cell≠(f.getD k ⟨0,0⟩).cell:=by
    rw[hL,List.headD_cons]at hd;simpa using hd
   have c1:=hcell l hl;have c2:=hcell f hf;have al:∀ t∈Qb x,(t.getD k ⟨0,0⟩).cell = -2→((Qb x).any fun l=>(l.getD k ⟨0,0⟩).cell == -2)=true:=fun t ht e=>List.any_eq_true.2 ⟨t,ht,by simpa using e⟩
   have ce:∀ t∈Qb x,∀ q:Nat,(t.getD k ⟨0,0⟩).cell=(q:Int)→((Qb x).any fun l=>(l.getD k ⟨0,0⟩).cell==(q:Int))=true:=fun t ht q e=>List.any_eq_true.2 ⟨t,ht,by simpa using e⟩
   have nz:∀ t∈Qb x,0≤(t.getD k ⟨0,0⟩).cell→((Q1 x).1.getD k 0 != 0)=true:=fun t ht e=>by
    obtain⟨q,hq⟩:=Int.eq_ofNat_of_zero_le e;cases hz:(Q1 x).1.getD k 0 != 0 with
    | true=>rfl
    | false=>
     have hz:(Q1 x).1.getD k 0=0:=by simpa using hz
     have:=hN.b q;rw[hz,Zp]at this;rw[ce t ht q hq]at this;cases this
   rcases c1 with c1|c1
   ·have c2:0≤(f.getD k ⟨0,0⟩).cell∧(f.getD k ⟨0,0⟩).cell<9:=by omega
    rw[al l hl c1,nz f hf c2.1];cases Zc _<;>rfl
   ·rcases c2 with c2|c2
    ·rw[al f hf c2,nz l hl c1.1];cases Zc _<;>rfl
    ·obtain⟨q1,h1⟩:=Int.eq_ofNat_of_zero_le c1.1;obtain⟨q2,h2⟩:=Int.eq_ofNat_of_zero_le c2.1;rw[QPb hN (ce l hl q1 h1) (ce f hf q2 h2) (by omega)];rfl
 ·
  have hsame:=QOg es;have e3:((Jy (Qb x) k).cell != -1)=true:=by simpa using es
  have c0:=hcell t0 ht0;rw[hsame t0 ht0]at c0;rcases c0 with c0|c0
  ·have hc:(Q1 x).1.getD k 0=0:=QSa hN fun j=>by
    rw[List.any_eq_false];intro t ht q;have q:(t.getD k ⟨0,0⟩).cell=(j:Int):=by simpa using q
    have:=hsame t ht;omega
   have ha:((Qb x).any fun l=>(l.getD k ⟨0,0⟩).cell == -2)=true:=List.any_eq_true.2 ⟨t0,ht0,by rw[hsame t0 ht0,c0];rfl⟩
   refine⟨?_,?_,?_⟩
   ·rw[e3,hal,ha,hc];decide +kernel
   ·rw[c0];rfl
   ·rw[hc];simp
  ·obtain⟨q,hq⟩:=Int.eq_ofNat_of_zero_le c0.1
   have hc:(Q1 x).1.getD k 0=((2^q:Nat):Int):=QUj hN (by omega) fun j=>by
    by_cases e:j=q
    ·subst e;rw[decide_eq_true rfl];exact List.any_eq_true.2 ⟨t0,ht0,by rw[hsame t0 ht0,hq];simp⟩
    ·rw[decide_eq_false e,List.any_eq_false];intro t ht q';have q':(t.getD k ⟨0,0⟩).cell=(j:Int):=by simpa using q'
     have:=hsame t ht;omega
   have ha:((Qb x).any fun l=>(l.getD k ⟨0,0⟩).cell == -2)=false:=by
    rw[List.any_eq_false];intro t ht q';have q':(t.getD k ⟨0,0⟩).cell = -2:=by simpa using q'
    have:=hsame t ht;omega
   obtain⟨hp0,hp1⟩:=QDw (q:=q) (by omega)
   refine⟨?_,?_,?_⟩
   ·rw[Zj hN,e3,hal,ha,hc,Int.toNat_natCast,QPG (by omega)]
    have:((((2^q:Nat):Int)) != 0)=true:=by rw[bne_iff_ne];omega
    rw[this];rfl
   ·rw[hc,hq];have e:((q:Int)).toNat=q:=Int.toNat_natCast q;rw[e,Nat.min_eq_left (by omega),Int.one_mul,show((2:Int)^q)=((2^q:Nat):Int) by simp,Xb hp0]
    simp
   ·rw[hq];have:(((q:Nat):Int) == -2)=false:=by rw[beq_eq_false_iff_ne];omega
    rw[this];rfl
theorem QEZ(hne:Qb x≠[]):(Qb x).headD []∈Qb x:=by
 cases e:Qb x with
 | nil=>exact absurd e hne
 | cons f L=>simp
theorem QUt{k:Nat}(hx:x.ok=true)(hne:Qb x≠[])(hp:QBL x (Q1 x).1 (Q1 x).2.1)(hT:(Kd x).1=X9 (Qb x) x.scans.n)(hk:k<x.scans.n):QHF x (J2 x) k:=by
 have hs:=(JM hx).s;have n9:=(JM hx).d.n9;have hO:=QTN hx hk;have hL:Q3 x.d (x.scans.get k)=KI x.d (x.scans.get k) x.d.ps.n:=by simp only[Q3,hO]
 have hE:Yv x.d (x.scans.get k)=0:=by simp only[Yv,hO]
 have hlen:=Wt x.d (x.scans.get k) x.d.ps.n
 have hpos:∀ c∈Q3 x.d (x.scans.get k),0≤c.cell:=fun c hc=>by
  rw[hL]at hc;obtain⟨a,u,h1,_,rfl⟩:=Wx hc;simp only;omega
 have ht:(J2 x).told.getD k ⟨0,0⟩=Jy (Qb x) k:=by
  show(Kd x).1.getD k ⟨0,0⟩=_;rw[hT,QHa hk]
 refine⟨by rw[ht];exact QWy hx hne hp hk,by rw[ht];exact QLW hx hp hk (QEZ hne),hE,hpos,by rw[hL];omega,?_⟩
 rw[bne_eq_false_iff_eq];refine QEp (GN _) ⟨by omega,by omega⟩ fun j => ?_
 rw[QYo,Zp];show(Qx ((Q1 x).1.getD k 0) j&&_)=false;rw[hp.cb k hk];cases q:(Qb x).any fun l=>(l.getD k ⟨0,0⟩).cell==(j:Int)with
 | false=>rfl
 | true=>
  obtain⟨t,ht,hj⟩:=List.any_eq_true.1 q;have hj:(t.getD k ⟨0,0⟩).cell=(j:Int):=by simpa using hj
  have htr:=(Ys hx).1 ht;have hkl:k<t.length:=by rw[htr.len];exact hk
  have hc:=QEW htr hkl;rw[qD hkl]at hj;simp only[X4,List.mem_cons]at hc
  have hj64:j<64:=by
   have:=QCj htr t[k] (List.getElem_mem _);rw[hj]at this;omega
  rcases hc with hc|hc
  ·rw[hc]at hj;simp only[Z2]at hj;omega
  ·rw[QJV hpos j hj64 _ (qlr _),List.take_length];have:(Q3 x.d (x.scans.get k)).any (fun s=>s.cell==(j:Int))=true:=List.any_eq_true.2 ⟨t[k],by rw[hL];exact hc,by simpa using hj⟩
   rw[this];rfl
theorem QDT(h:Kx x=0):QDs x (J2 x):=by
 obtain⟨hx,hr,hne⟩:=zH h;have hp:=(H2 x).2.2 h;have hT:(Kd x).1=X9 (Qb x) x.scans.n:=by rw[QCY,h];rfl
 have hs:=(JM hx).s;have n9:=(JM hx).d.n9;exact⟨by omega,by omega,hp.len,by show(Kd x).1.length=_;rw[hT,QF9],((Ys hx).1 (QEZ hne)).len,fun k hk=>QUt hx hne hp hT hk⟩
theorem QFx(h:2≤(Qb x).length):(Qb x).getD 1 []∈Qb x:=vW (by omega)
theorem QE1(h:Kx x=0)(h2:2≤(Qb x).length):QLp x (J2 x):=by
 obtain⟨hx,hr,hne⟩:=zH h;have hp:=(H2 x).2.2 h;have hT:(Kd x).1=X9 (Qb x) x.scans.n:=by rw[QCY,h];rfl
 refine{ QDT h with b:=((Ys hx).1 (QFx h2)).len,kb:=fun k hk => ?_ }
 have ht:(J2 x).told.getD k ⟨0,0⟩=Jy (Qb x) k:=by
  show(Kd x).1.getD k ⟨0,0⟩=_;rw[hT,QHa hk]
 rw[ht];exact QLW hx hp hk (QFx h2)
theorem QXg(h:Kx x=0)(h2:2≤(Qb x).length):∃ p,p<x.scans.n∧(∀ k,k<p→Xn (J2 x).a (J2 x).b k=true)∧Xn (J2 x).a (J2 x).b p=false∧ltS ((J2 x).a.getD p ⟨0,0⟩) ((J2 x).b.getD p ⟨0,0⟩):=by
 obtain⟨hx,hr,hne⟩:=zH h
 obtain⟨f,g,L,hL⟩:∃ f g L,Qb x=f::g::L:=by
  cases e:Qb x with
  | nil=>rw[e]at h2;simp at h2
  | cons f L=>
   cases L with
   | nil=>rw[e]at h2;simp at h2
   | cons g L=>exact⟨f,g,L,rfl⟩
 have hs:=QSE x;rw[hL,List.pairwise_cons]at hs;obtain⟨p,a,b,s,t,e1,e2,hlt⟩:=hs.1 g (by simp)
 have hfl:f.length=x.scans.n:=((Ys hx).1 (by rw[hL];simp)).len
 have ea:(J2 x).a=p++a::s:=by show(Qb x).headD []=_;rw[hL,←e1];rfl
 have eb:(J2 x).b=p++b::t:=by show(Qb x).getD 1 []=_;rw[hL,←e2];rfl
 have ga:(J2 x).a.getD p.length ⟨0,0⟩=a:=by rw[ea,List.getD_eq_getElem?_getD];simp
 have gb:(J2 x).b.getD p.length ⟨0,0⟩=b:=by rw[eb,List.getD_eq_getElem?_getD];simp
 refine⟨p.length,?_,fun k hk => ?_,?_,by rw[ga,gb];exact hlt⟩
 ·rw[e1,List.length_append,List.length_cons]at hfl;omega
 ·have:(J2 x).a.getD k ⟨0,0⟩=(J2 x).b.getD k ⟨0,0⟩:=by
   rw[ea,eb,List.getD_eq_getElem?_getD,List.getD_eq_getElem?_getD,List.getElem?_append_left hk,List.getElem?_append_left hk]
  unfold Xn;rw[this];simp
 ·unfold Xn;rw[ga,gb];unfold ltS at hlt;cases q:(a.cell==b.cell)&&((a.turn==b.turn)&&true)with
  | false=>rfl
  | true=>
   simp only[qbA,beq_iff_eq,and_true]at q;omega
end
def QI:Frc:=⟨(QO x).1,(QO x).2.1,(Q1 x).1,(Q1 x).2.1,(Kd x).1⟩
theorem qa{x:QE}(h:Kx x=0):QI x=J2 x:=by
 unfold QI J2;rw[Gr,h];rfl
def Qm:Nat:=(QM (fun k => !Xn (QI x).a (QI x).b k) x.scans.n 0).getD 0
theorem QJ3{x:QE}(h:Kx x=0)(h2:2≤(Qb x).length):Qm x<x.scans.n∧(∀ k,k<Qm x→Xn (QI x).a (QI x).b k=true)∧Xn (QI x).a (QI x).b (Qm x)=false∧ltS ((QI x).a.getD (Qm x) ⟨0,0⟩) ((QI x).b.getD (Qm x) ⟨0,0⟩):=by
 obtain⟨p,h1,h2,h3,h4⟩:=QXg h h2;rw[←qa h]at h2 h3 h4
 have e:Qm x=p:=by
  unfold Qm
  have key:∀ m k,k+m=x.scans.n→k≤p→QM (fun k => !Xn (QI x).a (QI x).b k) m k=some p:=by
   intro m
   induction m with
   | zero=>intro k h5 h6;omega
   | succ m ih=>
    intro k h5 h6;rw[QM]
    by_cases e:k=p
    ·subst e;rw[h3];rfl
    ·rw[h2 k (by omega)];exact ih (k+1) (by omega) (by omega)
  rw[key x.scans.n 0 (by omega) (Nat.zero_le _)];rfl
 rw[e];exact⟨h1,h2,h3,h4⟩
def jX:Prop:=Kx x=0∧2≤(Qb x).length
def Yo(A B:St→(Ex→St→QD)→QD)(st:St)(K:Ex→St→QD):QD:=match QJ st.tm 12 with
 | .slice _ _ _ n _=>(match Nat.beq n 2 with
  | true=>A st K
  | false=>B st K)
 | _ => .fail "which"
theorem Hk{E:Env}{G:Ctx}{c:Code}{A B:St→(Ex→St→QD)→QD}(h1:JV E G c A)(h2:JV E G c B):JV E G c (Yo A B):=by
 intro st K T Q a w hn hd hr hQ;unfold Yo at hd;split at hd
 ·split at hd
  ·exact h1 st K T Q a w hn hd hr hQ
  ·exact h2 st K T Q a w hn hd hr hQ
 ·exact hd.elim
noncomputable abbrev lfL:Code→St→(Ex→St→QD)→QD:=QBw [
 (16,XG (jX x) (KD 8 [] (ZT x (QI x) (0:Nat)) [(True,.exit 0,ZT x (QI x) (Qm x))])),
 (21,Yo (XG (jX x) (KD 8 [] (Y8 true x (QI x) (0:Nat)) [(True,.exit 2,WW)])) (XG (Kx x=0) (KD 8 [] (Y8 false x (QI x) (0:Nat)) [(True,.exit 2,WW)])))]
noncomputable abbrev lfH(P:Program)(x:QE):Hnd:={ hnd (mkS P Kw) 1 with loop:=lfL x }
theorem QMK(two:Bool)(x:QE)(o:Frc)(k:Nat)(hl:(Q3 x.d (x.scans.get k)).length≤1000)(hc:∀ c∈Q3 x.d (x.scans.get k),0≤c.cell)(G:Ctx)(hrd:G.rd=none)(hG:G.n=8):KC (mkS Try.prog Kw) G (QE0 Try.prog two x o k) (QX Try.f6 1):=by
 refine QA6 (Jt YB) hrd fun c hcm => ?_;have he:Km (QX Try.f6 1)=[.loop (Vn (QX Try.f6 1)),.loop (za (QX Try.f6 1))]:=by kernel_rfl
 rw[he]at hcm;simp only[List.mem_cons,List.not_mem_nil,or_false]at hcm;rcases hcm with rfl|rfl
 ·have e1:∀ c0,GQ Try.prog c0 two x o k (o.cells.getD k 0) (Q3 x.d (x.scans.get k)) (VQ (Q3 x.d (x.scans.get k)) (Q3 x.d (x.scans.get k)).length) (.loop (Vn (QX Try.f6 1)))=zI (mkS Try.prog Kw) (hnd (mkS Try.prog Kw) 3) c0 4:=by intro c0;kernel_rfl
  rw[e1];exact QT7 (Jt YB) (Qy (Jt YB) 3 G _ hrd) 4
 ·have e1:∀ c0,GQ Try.prog c0 two x o k (o.cells.getD k 0) (Q3 x.d (x.scans.get k)) (VQ (Q3 x.d (x.scans.get k)) (Q3 x.d (x.scans.get k)).length) (.loop (za (QX Try.f6 1)))=KD 8 [] (qP two x o k (o.cells.getD k 0) (Q3 x.d (x.scans.get k)) 0 0) [(True,.exit 6,zC two x o k (o.cells.getD k 0) (VQ (Q3 x.d (x.scans.get k)) (Q3 x.d (x.scans.get k)).length))]:=by intro c0;kernel_rfl
  rw[e1];refine ZG (E:=mkE Try.prog Kw) rfl (JW (n0:=8) (QT YB) (by omega) (fun s hs=>Qy (QT YB) 3 G _ hrd) (fun s hs=>(by decide:8≤1000)) ?_ (QTu two x o k (o.cells.getD k 0) (Q3 x.d (x.scans.get k)) hl hc) (s0:=0) (Nat.zero_le _) ?_)
  ·rintro s e J ⟨_,rfl⟩;exact(by decide:8≤1000)
  ·rintro e J ⟨rfl,rfl⟩;exact⟨_,List.mem_cons_self,trivial,rfl,rfl⟩
theorem QCP(x:QE)(k:Nat)(hn:x.d.ps.n≤100):(Q3 x.d (x.scans.get k)).length≤1000∧∀ c∈Q3 x.d (x.scans.get k),0≤c.cell:=by
 unfold Q3;split
 ·have:=Wt x.d (x.scans.get k) x.d.ps.n;refine⟨by omega,fun c hc => ?_⟩
  obtain⟨a,u,h1,_,rfl⟩:=Wx hc;simp only;omega
 ·exact⟨Nat.zero_le _,fun c hc=>by cases hc⟩
theorem QPy(G:Ctx)(hrd:G.rd=none)(hG:G.n=8):KC (mkS Try.prog Kw) G (lfH Try.prog x) (Qs Try.f6):=by
 refine QA6 (Jt YB) hrd fun c hc => ?_;have he:Km (Qs Try.f6)=[.loop (QX Try.f6 0),.loop (QX Try.f6 1)]:=by kernel_rfl
 rw[he]at hc;simp only[List.mem_cons,List.not_mem_nil,or_false]at hc;have nine:∀{h:Kx x=0},x.d.ps.n≤100:=fun{h}=>by have:=(JM (zH h).1).d.n9;omega
 rcases hc with rfl|rfl
 ·have e1:lfL x (.loop (QX Try.f6 0))=XG (jX x) (KD 8 [] (ZT x (QI x) (0:Nat)) [(True,.exit 0,ZT x (QI x) (Qm x))]):=by kernel_rfl
  rw[e1];refine qV fun hp => ?_;obtain⟨p1,p2,p3,_⟩:=QJ3 hp.1 hp.2;have hB:=QE1 hp.1 hp.2;rw[←qa hp.1]at hB;have ha:=hB.a;have hb:=hB.b;have hn:=hB.n;refine JW (n0:=8) (Jt YB) (by omega) (fun k hk=>Qy (Jt YB) 3 G _ hrd) (fun s hs=>(by decide:8≤832)) ?_ (QZU x (QI x) (Qm x) (by omega) (by omega) (by omega) p2 p3) (s0:=0) (Nat.zero_le _) ?_
  ·rintro s e J ⟨_,rfl⟩;exact(by decide:8≤832)
  ·rintro e J ⟨rfl,rfl⟩;exact⟨_,List.mem_cons_self,trivial,rfl,rfl⟩
 ·have e1:lfL x (.loop (QX Try.f6 1))=Yo (XG (jX x) (KD 8 [] (Y8 true x (QI x) (0:Nat)) [(True,.exit 2,WW)])) (XG (Kx x=0) (KD 8 [] (Y8 false x (QI x) (0:Nat)) [(True,.exit 2,WW)])):=by kernel_rfl
  rw[e1];refine Hk (qV fun hp => ?_) (qV fun hp => ?_)
  ·have hB:=QE1 hp.1 hp.2;rw[←qa hp.1]at hB;refine JW (n0:=8) (Jt YB) (by omega) (fun k hk=>QMK true x (QI x) k (QCP x k (nine (h:=hp.1))).1 (QCP x k (nine (h:=hp.1))).2 G hrd hG) (fun s hs=>(by decide:8≤832)) ?_ (QSQ x (QI x) hB) (s0:=0) (Nat.zero_le _) ?_
   ·rintro s e J ⟨_,rfl⟩;exact(by decide:8≤832)
   ·rintro e J ⟨rfl,rfl⟩;exact⟨_,List.mem_cons_self,trivial,rfl,rfl⟩
  ·have hB:=QDT hp;rw[←qa hp]at hB;refine JW (n0:=8) (Jt YB) (by omega) (fun k hk=>QMK false x (QI x) k (QCP x k (nine (h:=hp))).1 (QCP x k (nine (h:=hp))).2 G hrd hG) (fun s hs=>(by decide:8≤832)) ?_ (QXY x (QI x) hB) (s0:=0) (Nat.zero_le _) ?_
   ·rintro s e J ⟨_,rfl⟩;exact(by decide:8≤832)
   ·rintro e J ⟨rfl,rfl⟩;exact⟨_,List.mem_cons_self,trivial,rfl,rfl⟩
end Go.Proofs.Ytbpffdkemeoajaa
