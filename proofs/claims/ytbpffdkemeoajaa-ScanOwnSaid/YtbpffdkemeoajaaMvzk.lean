/- - -/
import Derived.Test.YtbpffdkemeoajaaMvzj
open Go.IntKind (i64)
set_option maxRecDepth 100000
namespace Go.Proofs.Ytbpffdkemeoajaa
open Go Go.SX
variable {d:Puz}{c s:Nat}(b:Qj)
def tN(c:Nat):Int:=i64.wrap (IntKind.u32.wrap ((BitVec.ofInt 32 (b.n.fdiv (2^min (i64.wrap (2*(c:Int))).toNat 32)) &&& BitVec.ofInt 32 3).toNat:Nat))
theorem GT(c:Nat):tN b c=0∨tN b c=1∨tN b c=2∨tN b c=3:=by
 unfold tN;generalize BitVec.ofInt 32 (b.n.fdiv (2^min (i64.wrap (2*(c:Int))).toNat 32))=v
 have h:(v &&& BitVec.ofInt 32 3).toNat≤3:=by
  rw[BitVec.toNat_and];exact Nat.and_le_right
 generalize (v &&& BitVec.ofInt 32 3).toNat=n at h;rcases(by omega:n=0∨n=1∨n=2∨n=3)with rfl|rfl|rfl|rfl
 ·exact .inl (by decide)
 ·exact .inr (.inl (by decide))
 ·exact .inr (.inr (.inl (by decide)))
 ·exact .inr (.inr (.inr (by decide)))
def zeP:QG:=⟨⟨0,⟨0,0⟩,⟨0,0⟩,⟨0,0⟩⟩,⟨0,⟨0,0⟩,⟨0,0⟩,⟨0,0⟩⟩,⟨0,⟨0,0⟩,⟨0,0⟩,⟨0,0⟩⟩,⟨0,⟨0,0⟩,⟨0,0⟩,⟨0,0⟩⟩⟩
abbrev QKk(q:QG):Nat→Edge→QG
 | 0,e=>⟨e,q.right,q.down,q.left⟩
 | 1,e=>⟨q.up,e,q.down,q.left⟩
 | 2,e=>⟨q.up,q.right,e,q.left⟩
 | _,e=>⟨q.up,q.right,q.down,e⟩
def toS(t:Int)(s:Nat):Int:=(i64.wrap (((s+4:Nat):Int)-t)).tmod 4
def VG(t:Int)(p:QG):Nat→QG
 | 0=>zeP
 | s+1=>QKk (VG t p s) (toS t s).toNat (Kc p s)
def Qx(d:Puz)(c:Nat)(r:Bool):Nat→Bool
 | 0=>r
 | s+1=>cond (decide (QN d.wide d.high c s<0)) (Qx d c r s&&(Kc (d.ps.get c) s).kind==0) ((Qx d c r s&&(Qw d.play (Kc (d.ps.get c) s) (Kc (d.ps.get (QN d.wide d.high c s).toNat) ((s+2) % 4))).2==0)&&(Qw d.play (Kc (d.ps.get c) s) (Kc (d.ps.get (QN d.wide d.high c s).toNat) ((s+2) % 4))).1==2)
def K6(d:Puz):Nat→Bool
 | 0=>true
 | c+1=>Qx d c (K6 d c) 4
def Q9(d:Puz)(b:Qj)(c:Nat):QG:=VG (tN b c) (d.ps.get c) 4
theorem QLS(p:QG):VG 0 p 4=p∧VG 1 p 4=⟨p.right,p.down,p.left,p.up⟩∧VG 2 p 4=⟨p.down,p.left,p.up,p.right⟩∧VG 3 p 4=⟨p.left,p.up,p.right,p.down⟩:=⟨rfl,rfl,rfl,rfl⟩
theorem HR(h:d.ok=true)(hc:c<d.ps.n):(d.ps.get c).ok=true:=by
 have h':=h;simp only[Puz.ok,qbA]at h;have hs:=h.2;unfold Jm at hs;have:=jb (Option.isNone_iff_eq_none.1 hs) c (Nat.zero_le _) (by omega)
 unfold Kk at this;rw[HA h']at this;simpa using this
theorem QHC(h:d.ok=true)(b:Qj)(hc:c<d.ps.n):(Q9 d b c).ok=true:=by
 have hp:=HR h hc;unfold Q9;obtain⟨e0,e1,e2,e3⟩:=QLS (d.ps.get c);simp only[QG.ok,qbA]at hp;rcases GT b c with e|e|e|e<;>rw[e]<;>(first|rw[e0]|rw[e1]|rw[e2]|rw[e3])<;>simp only[QG.ok,qbA]<;>simp[hp]
theorem QAZ{e:Edge}(h:e.ok=true):isS e e=true:=by
 unfold isS;cases hk:e.kind==0 with
 | true=>rfl
 | false=>
  have hk:e.kind≠0:=by simpa using hk
  rw[Edge.ok_iff]at h;have h:=h.resolve_left hk;simp only[cond_false,isF,com,qbA,qdE,beq_self_eq_true,true_and];omega
theorem QJ0(h:d.ok=true)(b:Qj)(hc:c<d.ps.n):Vg d (Q9 d b c) c (tN b c).toNat=true:=by
 have hp:=HR h hc;simp only[QG.ok,qbA]at hp;obtain⟨h0,h1,h2,h3⟩:=hp;obtain⟨e0,e1,e2,e3⟩:=QLS (d.ps.get c);have i0:=QAZ h0;have i1:=QAZ h1;have i2:=QAZ h2;have i3:=QAZ h3;unfold Q9 Vg;rcases GT b c with e|e|e|e<;>rw[e]<;>(first|rw[e0]|rw[e1]|rw[e2]|rw[e3])<;>(show(isS _ _&&(isS _ _&&(isS _ _&&isS _ _)))=true)<;>simp only[qbA]<;>exact⟨i0,i1,i2,i3⟩
theorem QMC(h:d.ok=true)(b:Qj)(hc:c<d.ps.n):Yh d (Q9 d b c)=true:=by
 unfold Yh Jm;rw[h,Bool.true_and,QP]
 have e:Kk ⟨d.play⟩ ⟨1,fun _=>Q9 d b c⟩ 0=false:=by
  unfold Kk;rw[HA h];simp[QHC h b hc]
 rw[e];rfl
theorem QE3(c:Nat):tN b c=((tN b c).toNat:Int)∧(tN b c).toNat<4:=by
 rcases GT b c with e|e|e|e<;>rw[e]<;>decide
theorem QWR(h:d.ok=true)(b:Qj)(hc:c<d.ps.n):(⟨c,tN b c⟩:QB)∈JD d (Q9 d b c):=by
 unfold JD;rw[QMC h b hc];obtain⟨t1,t2⟩:=QE3 b c;exact QDj.2 ⟨c,(tN b c).toNat,hc,t2,QJ0 h b hc,by rw[←t1]⟩
def Ke(d:Puz)(b:Qj):QE:=QE.mk d (Rw.mk d.ps.n (Q9 d b)) (Rw.mk 0 fun _=>Jn.mk 0 0 0 0) 0 0
theorem QLn(h:d.ok=true)(b:Qj):(Ke d b).ok=true:=by
 have hd:=Y2 h;have hn:=hd.n9;unfold QE.ok
 have e1:(Ke d b).sz=true:=by
  show(decide ((d.ps.n:Int)≤12)&&(decide (((0:Nat):Int)≤12)&&(QY 0 0 9&&QY 0 0 3)))=true;rw[decide_eq_true (show(d.ps.n:Int)≤12 by omega)];rfl
 have e2:(Ke d b).d.ok=true:=h
 have e3:Jm (Ke d b).d.play (Ke d b).scans=true:=by
  rw[QIJ e2];rw[Ht]
  ·rfl
  ·intro k _ hk;show(!(Q9 d b k).ok)=false;rw[QHC h b (by simpa[Ke]using hk)];rfl
 rw[e1,e2,e3];rfl
def XG(d:Puz)(b:Qj):List QB:=(List.range d.ps.n).map fun(c:Nat)=>(⟨(c:Int),tN b c⟩:QB)
theorem QAJ{b:Qj}(hc:c<(XG d b).length):(XG d b)[c]=⟨(c:Int),tN b c⟩:=by simp[XG]
theorem QDA(h:d.ok=true)(b:Qj):XG d b∈JA (Ke d b):=by
 have hx:=QLn h b;rw[QB9 hx];have hl:(XG d b).length=d.ps.n:=by simp[XG]
 have hal:QL (XG d b) (-2)=0:=by
  have:=(QBr (l:=XG d b) (n := -2)).2 fun s hs=>by
   simp only[XG,List.mem_map,List.mem_range]at hs;obtain⟨c,_,rfl⟩:=hs;simp only;omega
  have:=vE (XG d b) (-2);omega
 refine⟨hl,fun i hi => ?_,fun i j hi hj _ => ?_,by rw[hal];exact Int.le_refl _,fun k hk=>absurd hk (Nat.not_lt_zero _),?_⟩
 ·have hi':i<d.ps.n:=by omega
  rw[qY (show i<(Ke d b).scans.n from hi'),QAJ hi];simp only[Yv,List.mem_cons];right;obtain⟨t1,t2⟩:=QE3 b i;exact QDj.2 ⟨i,(tN b i).toNat,hi',t2,QJ0 h b hi',by rw[←t1]⟩
 ·rw[QAJ (by omega),QAJ hj]
  simp only;omega
 ·unfold Yl;rw[hl,hal];exact decide_eq_false (by show ¬ ((d.ps.n:Int)-((d.ps.n:Int)-0)>0);omega)
theorem QKv(h:d.ok=true)(b:Qj):Yo (Ke d b)=0:=by
 unfold Yo;rw[QLn h b,show VB (Ke d b)=false from rfl];have hm:=QDA h b;cases e:JA (Ke d b)with
 | nil=>rw[e]at hm;cases hm
 | cons a L=>rfl
theorem VI{r:Bool}(h:decide (QN d.wide d.high c s<0)=true):Qx d c r (s+1)=(Qx d c r s&&(Kc (d.ps.get c) s).kind==0):=by rw[Qx,h];rfl
theorem VJ{r:Bool}(h:decide (QN d.wide d.high c s<0)=false):Qx d c r (s+1)=((Qx d c r s&&(Qw d.play (Kc (d.ps.get c) s) (Kc (d.ps.get (QN d.wide d.high c s).toNat) ((s+2) % 4))).2==0)&&(Qw d.play (Kc (d.ps.get c) s) (Kc (d.ps.get (QN d.wide d.high c s).toNat) ((s+2) % 4))).1==2):=by rw[Qx,h];rfl
theorem Ka{t:Int}{p:QG}{j:Nat}(e:toS t s=(j:Int)):VG t p (s+1)=QKk (VG t p s) j (Kc p s):=by
 rw[VG,e,Int.toNat_natCast]
theorem G9{b:Qj}(hs:s<4):0≤toS (tN b c) s∧toS (tN b c) s<4:=by
 rcases GT b c with e|e|e|e<;>rw[e]<;>rcases(by omega:s=0∨s=1∨s=2∨s=3)with rfl|rfl|rfl|rfl<;>decide
set_option maxHeartbeats 6400000 in
theorem QWa(d:Puz)(b:Qj)(P:Nat→QG)(c:Nat)(r:Bool)(hd:Zw d)(hc:c<d.ps.n):JW (fun s=>K9 d b P c (tN b c) (Qx d c r s) (VG (tN b c) (d.ps.get c) s) s) (fun s=>s≤4) (fun s=>4-s) (fun _ e J=>e = .exit 2∧J=jj d b P c (tN b c) (Qx d c r 4) (VG (tN b c) (d.ps.get c) 4)) 8 qp [] (mkX Try.prog KZ) (fun _=>hnd (mkX Try.prog KZ) 3) (VZ (Qa Try.f8 0)):=by
 have n9:=hd.n9;have w1:=hd.w1;have wn:=hd.wn;have h1:=hd.h1;have hn:=hd.hn;refine⟨fun s g hs => ?_⟩;rcases(by have:=hs;omega:s=0∨s=1∨s=2∨s=3∨s=4)with rfl|rfl|rfl|rfl|rfl
 ·have hi:0≤toS (tN b c) 0∧toS (tN b c) 0<4:=G9 (by decide)
  refine KB (QUj d b P c (tN b c) (Qx d c r 0) (VG (tN b c) (d.ps.get c) 0) g) ?_;refine QF (by first|(simp;done)|exact decide_eq_true hi|(simp;omega)) ?_
  refine QI (fun b0 => ?_) (fun b0 => ?_)
  ·refine QF (by first|(simp;done)|exact decide_eq_true hi|(simp;omega)) ?_
   refine QF (by first|(simp;done)|exact decide_eq_true hi|(simp;omega)) ?_
   refine QF (by first|(simp;done)|exact decide_eq_true hi|(simp;omega)) ?_
   refine JK fun z0 y0 => ?_;refine QF (by first|(simp;done)|exact decide_eq_true hi|(simp;omega)) ?_
   refine QI (fun b1 => ?_) (fun b1 => ?_)
   ·have e:toS (tN b c) 0=(0:Nat):=by have:=qdt b1;exact this
    have q:=Ka (p:=d.ps.get c) e;have w:z0=Qx d c r 1:=y0.trans (VI (r:=r) (s:=0) b0).symm;refine⟨1,by decide,by decide,fun _ _ r=>r,rfl,rfl,_,QLG (r:=true) ..,?_⟩
    rw[q]
    repeat' first|with_reducible refine QO ?_ ?_|exact trivial|with_reducible rfl|exact qlr _|exact qRr|exact w|refine And.intro ?_ ?_|rfl
   ·refine QI (fun b2 => ?_) (fun b2 => ?_)
    ·have e:toS (tN b c) 0=(1:Nat):=by have:=qdt b2;exact this
     have q:=Ka (p:=d.ps.get c) e;have w:z0=Qx d c r 1:=y0.trans (VI (r:=r) (s:=0) b0).symm;refine⟨1,by decide,by decide,fun _ _ r=>r,rfl,rfl,_,QGG (r:=true) ..,?_⟩
     rw[q]
     repeat' first|with_reducible refine QO ?_ ?_|exact trivial|with_reducible rfl|exact qlr _|exact qRr|exact w|refine And.intro ?_ ?_|rfl
    ·refine QI (fun b3 => ?_) (fun b3 => ?_)
     ·have e:toS (tN b c) 0=(2:Nat):=by have:=qdt b3;exact this
      have q:=Ka (p:=d.ps.get c) e;have w:z0=Qx d c r 1:=y0.trans (VI (r:=r) (s:=0) b0).symm;refine⟨1,by decide,by decide,fun _ _ r=>r,rfl,rfl,_,QHI (r:=true) ..,?_⟩
      rw[q]
      repeat' first|with_reducible refine QO ?_ ?_|exact trivial|with_reducible rfl|exact qlr _|exact qRr|exact w|refine And.intro ?_ ?_|rfl
     ·have e:toS (tN b c) 0=(3:Nat):=by have h0:¬ toS (tN b c) 0=0:=of_decide_eq_false b1;have h1:¬ toS (tN b c) 0=1:=of_decide_eq_false b2;have h2:¬ toS (tN b c) 0=2:=of_decide_eq_false b3;omega
      have q:=Ka (p:=d.ps.get c) e;have w:z0=Qx d c r 1:=y0.trans (VI (r:=r) (s:=0) b0).symm;refine⟨1,by decide,by decide,fun _ _ r=>r,rfl,rfl,_,QHa (r:=true) ..,?_⟩
      rw[q]
      repeat' first|with_reducible refine QO ?_ ?_|exact trivial|with_reducible rfl|exact qlr _|exact qRr|exact w|refine And.intro ?_ ?_|rfl
  ·have hb:=jR hd hc (s:=0) (by
    have:=of_decide_eq_false b0;rw[beq_eq_false_iff_ne];intro e;exact this (Int.lt_of_le_of_lt (Int.le_of_eq e) (by decide)))
   have hb:0≤QN d.wide d.high (c:Int) (0:Int)∧QN d.wide d.high (c:Int) (0:Int)<d.ps.n:=hb;refine QF (by first|(simp;done)|exact decide_eq_true hi|(simp;omega)) ?_
   refine QF (by first|(simp;done)|exact decide_eq_true hi|(simp;omega)) ?_
   refine QF (by first|(simp;done)|exact decide_eq_true hi|(simp;omega)) ?_
   refine QF (by first|(simp;done)|exact decide_eq_true hi|(simp;omega)) ?_
   refine QF (by first|(simp;done)|exact decide_eq_true hi|(simp;omega)) ?_
   refine JK fun z1 y1 => ?_;refine QF (by first|(simp;done)|exact decide_eq_true hi|(simp;omega)) ?_
   refine QF (by first|(simp;done)|exact decide_eq_true hi|(simp;omega)) ?_
   refine JK fun z2 y2 => ?_;refine QF (by first|(simp;done)|exact decide_eq_true hi|(simp;omega)) ?_
   refine QI (fun b4 => ?_) (fun b4 => ?_)
   ·have e:toS (tN b c) 0=(0:Nat):=by have:=qdt b4;exact this
    have q:=Ka (p:=d.ps.get c) e;have w:z2=Qx d c r 1:=y2.trans (by rw[y1];exact(VJ (r:=r) (s:=0) b0).symm)
    refine⟨1,by decide,by decide,fun _ _ r=>r,rfl,rfl,_,QLG (r:=true) ..,?_⟩
    rw[q]
    repeat' first|with_reducible refine QO ?_ ?_|exact trivial|with_reducible rfl|exact qlr _|exact qRr|exact w|refine And.intro ?_ ?_|rfl
   ·refine QI (fun b5 => ?_) (fun b5 => ?_)
    ·have e:toS (tN b c) 0=(1:Nat):=by have:=qdt b5;exact this
     have q:=Ka (p:=d.ps.get c) e;have w:z2=Qx d c r 1:=y2.trans (by rw[y1];exact(VJ (r:=r) (s:=0) b0).symm)
     refine⟨1,by decide,by decide,fun _ _ r=>r,rfl,rfl,_,QGG (r:=true) ..,?_⟩
     rw[q]
     repeat' first|with_reducible refine QO ?_ ?_|exact trivial|with_reducible rfl|exact qlr _|exact qRr|exact w|refine And.intro ?_ ?_|rfl
    ·refine QI (fun b6 => ?_) (fun b6 => ?_)
     ·have e:toS (tN b c) 0=(2:Nat):=by have:=qdt b6;exact this
      have q:=Ka (p:=d.ps.get c) e;have w:z2=Qx d c r 1:=y2.trans (by rw[y1];exact(VJ (r:=r) (s:=0) b0).symm)
      refine⟨1,by decide,by decide,fun _ _ r=>r,rfl,rfl,_,QHI (r:=true) ..,?_⟩
      rw[q]
      repeat' first|with_reducible refine QO ?_ ?_|exact trivial|with_reducible rfl|exact qlr _|exact qRr|exact w|refine And.intro ?_ ?_|rfl
     ·have e:toS (tN b c) 0=(3:Nat):=by have h0:¬ toS (tN b c) 0=0:=of_decide_eq_false b4;have h1:¬ toS (tN b c) 0=1:=of_decide_eq_false b5;have h2:¬ toS (tN b c) 0=2:=of_decide_eq_false b6;omega
      have q:=Ka (p:=d.ps.get c) e;have w:z2=Qx d c r 1:=y2.trans (by rw[y1];exact(VJ (r:=r) (s:=0) b0).symm)
      refine⟨1,by decide,by decide,fun _ _ r=>r,rfl,rfl,_,QHa (r:=true) ..,?_⟩
      rw[q]
      repeat' first|with_reducible refine QO ?_ ?_|exact trivial|with_reducible rfl|exact qlr _|exact qRr|exact w|refine And.intro ?_ ?_|rfl
 ·have hi:0≤toS (tN b c) 1∧toS (tN b c) 1<4:=G9 (by decide)
  refine KB (QQZ d b P c (tN b c) (Qx d c r 1) (VG (tN b c) (d.ps.get c) 1) g) ?_;refine QF (by first|(simp;done)|exact decide_eq_true hi|(simp;omega)) ?_
  refine QI (fun b0 => ?_) (fun b0 => ?_)
  ·refine QF (by first|(simp;done)|exact decide_eq_true hi|(simp;omega)) ?_
   refine QF (by first|(simp;done)|exact decide_eq_true hi|(simp;omega)) ?_
   refine QF (by first|(simp;done)|exact decide_eq_true hi|(simp;omega)) ?_
   refine JK fun z0 y0 => ?_;refine QF (by first|(simp;done)|exact decide_eq_true hi|(simp;omega)) ?_
   refine QI (fun b1 => ?_) (fun b1 => ?_)
   ·have e:toS (tN b c) 1=(0:Nat):=by have:=qdt b1;exact this
    have q:=Ka (p:=d.ps.get c) e;have w:z0=Qx d c r 2:=y0.trans (VI (r:=r) (s:=1) b0).symm;refine⟨2,by decide,by decide,fun _ _ r=>r,rfl,rfl,_,QHJ (r:=true) ..,?_⟩
    rw[q]
    repeat' first|with_reducible refine QO ?_ ?_|exact trivial|with_reducible rfl|exact qlr _|exact qRr|exact w|refine And.intro ?_ ?_|rfl
   ·refine QI (fun b2 => ?_) (fun b2 => ?_)
    ·have e:toS (tN b c) 1=(1:Nat):=by have:=qdt b2;exact this
     have q:=Ka (p:=d.ps.get c) e;have w:z0=Qx d c r 2:=y0.trans (VI (r:=r) (s:=1) b0).symm;refine⟨2,by decide,by decide,fun _ _ r=>r,rfl,rfl,_,QHj (r:=true) ..,?_⟩
     rw[q]
     repeat' first|with_reducible refine QO ?_ ?_|exact trivial|with_reducible rfl|exact qlr _|exact qRr|exact w|refine And.intro ?_ ?_|rfl
    ·refine QI (fun b3 => ?_) (fun b3 => ?_)
     ·have e:toS (tN b c) 1=(2:Nat):=by have:=qdt b3;exact this
      have q:=Ka (p:=d.ps.get c) e;have w:z0=Qx d c r 2:=y0.trans (VI (r:=r) (s:=1) b0).symm;refine⟨2,by decide,by decide,fun _ _ r=>r,rfl,rfl,_,QGE (r:=true) ..,?_⟩
      rw[q]
      repeat' first|with_reducible refine QO ?_ ?_|exact trivial|with_reducible rfl|exact qlr _|exact qRr|exact w|refine And.intro ?_ ?_|rfl
     ·have e:toS (tN b c) 1=(3:Nat):=by have h0:¬ toS (tN b c) 1=0:=of_decide_eq_false b1;have h1:¬ toS (tN b c) 1=1:=of_decide_eq_false b2;have h2:¬ toS (tN b c) 1=2:=of_decide_eq_false b3;omega
      have q:=Ka (p:=d.ps.get c) e;have w:z0=Qx d c r 2:=y0.trans (VI (r:=r) (s:=1) b0).symm;refine⟨2,by decide,by decide,fun _ _ r=>r,rfl,rfl,_,QEy (r:=true) ..,?_⟩
      rw[q]
      repeat' first|with_reducible refine QO ?_ ?_|exact trivial|with_reducible rfl|exact qlr _|exact qRr|exact w|refine And.intro ?_ ?_|rfl
  ·have hb:=jR hd hc (s:=1) (by
    have:=of_decide_eq_false b0;rw[beq_eq_false_iff_ne];intro e;exact this (Int.lt_of_le_of_lt (Int.le_of_eq e) (by decide)))
   have hb:0≤QN d.wide d.high (c:Int) (1:Int)∧QN d.wide d.high (c:Int) (1:Int)<d.ps.n:=hb;refine QF (by first|(simp;done)|exact decide_eq_true hi|(simp;omega)) ?_
   refine QF (by first|(simp;done)|exact decide_eq_true hi|(simp;omega)) ?_
   refine QF (by first|(simp;done)|exact decide_eq_true hi|(simp;omega)) ?_
   refine QF (by first|(simp;done)|exact decide_eq_true hi|(simp;omega)) ?_
   refine QF (by first|(simp;done)|exact decide_eq_true hi|(simp;omega)) ?_
   refine JK fun z1 y1 => ?_;refine QF (by first|(simp;done)|exact decide_eq_true hi|(simp;omega)) ?_
   refine QF (by first|(simp;done)|exact decide_eq_true hi|(simp;omega)) ?_
   refine JK fun z2 y2 => ?_;refine QF (by first|(simp;done)|exact decide_eq_true hi|(simp;omega)) ?_
   refine QI (fun b4 => ?_) (fun b4 => ?_)
   ·have e:toS (tN b c) 1=(0:Nat):=by have:=qdt b4;exact this
    have q:=Ka (p:=d.ps.get c) e;have w:z2=Qx d c r 2:=y2.trans (by rw[y1];exact(VJ (r:=r) (s:=1) b0).symm)
    refine⟨2,by decide,by decide,fun _ _ r=>r,rfl,rfl,_,QHJ (r:=true) ..,?_⟩
    rw[q]
    repeat' first|with_reducible refine QO ?_ ?_|exact trivial|with_reducible rfl|exact qlr _|exact qRr|exact w|refine And.intro ?_ ?_|rfl
   ·refine QI (fun b5 => ?_) (fun b5 => ?_)
    ·have e:toS (tN b c) 1=(1:Nat):=by have:=qdt b5;exact this
     have q:=Ka (p:=d.ps.get c) e;have w:z2=Qx d c r 2:=y2.trans (by rw[y1];exact(VJ (r:=r) (s:=1) b0).symm)
     refine⟨2,by decide,by decide,fun _ _ r=>r,rfl,rfl,_,QHj (r:=true) ..,?_⟩
     rw[q]
     repeat' first|with_reducible refine QO ?_ ?_|exact trivial|with_reducible rfl|exact qlr _|exact qRr|exact w|refine And.intro ?_ ?_|rfl
    ·refine QI (fun b6 => ?_) (fun b6 => ?_)
     ·have e:toS (tN b c) 1=(2:Nat):=by have:=qdt b6;exact this
      have q:=Ka (p:=d.ps.get c) e;have w:z2=Qx d c r 2:=y2.trans (by rw[y1];exact(VJ (r:=r) (s:=1) b0).symm)
      refine⟨2,by decide,by decide,fun _ _ r=>r,rfl,rfl,_,QGE (r:=true) ..,?_⟩
      rw[q]
      repeat' first|with_reducible refine QO ?_ ?_|exact trivial|with_reducible rfl|exact qlr _|exact qRr|exact w|refine And.intro ?_ ?_|rfl
     ·have e:toS (tN b c) 1=(3:Nat):=by have h0:¬ toS (tN b c) 1=0:=of_decide_eq_false b4;have h1:¬ toS (tN b c) 1=1:=of_decide_eq_false b5;have h2:¬ toS (tN b c) 1=2:=of_decide_eq_false b6;omega
      have q:=Ka (p:=d.ps.get c) e;have w:z2=Qx d c r 2:=y2.trans (by rw[y1];exact(VJ (r:=r) (s:=1) b0).symm)
      refine⟨2,by decide,by decide,fun _ _ r=>r,rfl,rfl,_,QEy (r:=true) ..,?_⟩
      rw[q]
      repeat' first|with_reducible refine QO ?_ ?_|exact trivial|with_reducible rfl|exact qlr _|exact qRr|exact w|refine And.intro ?_ ?_|rfl
 ·have hi:0≤toS (tN b c) 2∧toS (tN b c) 2<4:=G9 (by decide)
  refine KB (QPT d b P c (tN b c) (Qx d c r 2) (VG (tN b c) (d.ps.get c) 2) g) ?_;refine QF (by first|(simp;done)|exact decide_eq_true hi|(simp;omega)) ?_
  refine QI (fun b0 => ?_) (fun b0 => ?_)
  ·refine QF (by first|(simp;done)|exact decide_eq_true hi|(simp;omega)) ?_
   refine QF (by first|(simp;done)|exact decide_eq_true hi|(simp;omega)) ?_
   refine QF (by first|(simp;done)|exact decide_eq_true hi|(simp;omega)) ?_
   refine JK fun z0 y0 => ?_;refine QF (by first|(simp;done)|exact decide_eq_true hi|(simp;omega)) ?_
   refine QI (fun b1 => ?_) (fun b1 => ?_)
   ·have e:toS (tN b c) 2=(0:Nat):=by have:=qdt b1;exact this
    have q:=Ka (p:=d.ps.get c) e;have w:z0=Qx d c r 3:=y0.trans (VI (r:=r) (s:=2) b0).symm;refine⟨3,by decide,by decide,fun _ _ r=>r,rfl,rfl,_,QJ1 (r:=true) ..,?_⟩
    rw[q]
    repeat' first|with_reducible refine QO ?_ ?_|exact trivial|with_reducible rfl|exact qlr _|exact qRr|exact w|refine And.intro ?_ ?_|rfl
   ·refine QI (fun b2 => ?_) (fun b2 => ?_)
    ·have e:toS (tN b c) 2=(1:Nat):=by have:=qdt b2;exact this
     have q:=Ka (p:=d.ps.get c) e;have w:z0=Qx d c r 3:=y0.trans (VI (r:=r) (s:=2) b0).symm;refine⟨3,by decide,by decide,fun _ _ r=>r,rfl,rfl,_,QGI (r:=true) ..,?_⟩
     rw[q]
     repeat' first|with_reducible refine QO ?_ ?_|exact trivial|with_reducible rfl|exact qlr _|exact qRr|exact w|refine And.intro ?_ ?_|rfl
    ·refine QI (fun b3 => ?_) (fun b3 => ?_)
     ·have e:toS (tN b c) 2=(2:Nat):=by have:=qdt b3;exact this
      have q:=Ka (p:=d.ps.get c) e;have w:z0=Qx d c r 3:=y0.trans (VI (r:=r) (s:=2) b0).symm;refine⟨3,by decide,by decide,fun _ _ r=>r,rfl,rfl,_,QGQ (r:=true) ..,?_⟩
      rw[q]
      repeat' first|with_reducible refine QO ?_ ?_|exact trivial|with_reducible rfl|exact qlr _|exact qRr|exact w|refine And.intro ?_ ?_|rfl
     ·have e:toS (tN b c) 2=(3:Nat):=by have h0:¬ toS (tN b c) 2=0:=of_decide_eq_false b1;have h1:¬ toS (tN b c) 2=1:=of_decide_eq_false b2;have h2:¬ toS (tN b c) 2=2:=of_decide_eq_false b3;omega
      have q:=Ka (p:=d.ps.get c) e;have w:z0=Qx d c r 3:=y0.trans (VI (r:=r) (s:=2) b0).symm;refine⟨3,by decide,by decide,fun _ _ r=>r,rfl,rfl,_,QGx (r:=true) ..,?_⟩
      rw[q]
      repeat' first|with_reducible refine QO ?_ ?_|exact trivial|with_reducible rfl|exact qlr _|exact qRr|exact w|refine And.intro ?_ ?_|rfl
  ·have hb:=jR hd hc (s:=2) (by
    have:=of_decide_eq_false b0;rw[beq_eq_false_iff_ne];intro e;exact this (Int.lt_of_le_of_lt (Int.le_of_eq e) (by decide)))
   have hb:0≤QN d.wide d.high (c:Int) (2:Int)∧QN d.wide d.high (c:Int) (2:Int)<d.ps.n:=hb;refine QF (by first|(simp;done)|exact decide_eq_true hi|(simp;omega)) ?_
   refine QF (by first|(simp;done)|exact decide_eq_true hi|(simp;omega)) ?_
   refine QF (by first|(simp;done)|exact decide_eq_true hi|(simp;omega)) ?_
   refine QF (by first|(simp;done)|exact decide_eq_true hi|(simp;omega)) ?_
   refine QF (by first|(simp;done)|exact decide_eq_true hi|(simp;omega)) ?_
   refine JK fun z1 y1 => ?_;refine QF (by first|(simp;done)|exact decide_eq_true hi|(simp;omega)) ?_
   refine QF (by first|(simp;done)|exact decide_eq_true hi|(simp;omega)) ?_
   refine JK fun z2 y2 => ?_;refine QF (by first|(simp;done)|exact decide_eq_true hi|(simp;omega)) ?_
   refine QI (fun b4 => ?_) (fun b4 => ?_)
   ·have e:toS (tN b c) 2=(0:Nat):=by have:=qdt b4;exact this
    have q:=Ka (p:=d.ps.get c) e;have w:z2=Qx d c r 3:=y2.trans (by rw[y1];exact(VJ (r:=r) (s:=2) b0).symm)
    refine⟨3,by decide,by decide,fun _ _ r=>r,rfl,rfl,_,QJ1 (r:=true) ..,?_⟩
    rw[q]
    repeat' first|with_reducible refine QO ?_ ?_|exact trivial|with_reducible rfl|exact qlr _|exact qRr|exact w|refine And.intro ?_ ?_|rfl
   ·refine QI (fun b5 => ?_) (fun b5 => ?_)
    ·have e:toS (tN b c) 2=(1:Nat):=by have:=qdt b5;exact this
     have q:=Ka (p:=d.ps.get c) e;have w:z2=Qx d c r 3:=y2.trans (by rw[y1];exact(VJ (r:=r) (s:=2) b0).symm)
     refine⟨3,by decide,by decide,fun _ _ r=>r,rfl,rfl,_,QGI (r:=true) ..,?_⟩
     rw[q]
     repeat' first|with_reducible refine QO ?_ ?_|exact trivial|with_reducible rfl|exact qlr _|exact qRr|exact w|refine And.intro ?_ ?_|rfl
    ·refine QI (fun b6 => ?_) (fun b6 => ?_)
     ·have e:toS (tN b c) 2=(2:Nat):=by have:=qdt b6;exact this
      have q:=Ka (p:=d.ps.get c) e;have w:z2=Qx d c r 3:=y2.trans (by rw[y1];exact(VJ (r:=r) (s:=2) b0).symm)
      refine⟨3,by decide,by decide,fun _ _ r=>r,rfl,rfl,_,QGQ (r:=true) ..,?_⟩
      rw[q]
      repeat' first|with_reducible refine QO ?_ ?_|exact trivial|with_reducible rfl|exact qlr _|exact qRr|exact w|refine And.intro ?_ ?_|rfl
     ·have e:toS (tN b c) 2=(3:Nat):=by have h0:¬ toS (tN b c) 2=0:=of_decide_eq_false b4;have h1:¬ toS (tN b c) 2=1:=of_decide_eq_false b5;have h2:¬ toS (tN b c) 2=2:=of_decide_eq_false b6;omega
      have q:=Ka (p:=d.ps.get c) e;have w:z2=Qx d c r 3:=y2.trans (by rw[y1];exact(VJ (r:=r) (s:=2) b0).symm)
      refine⟨3,by decide,by decide,fun _ _ r=>r,rfl,rfl,_,QGx (r:=true) ..,?_⟩
      rw[q]
      repeat' first|with_reducible refine QO ?_ ?_|exact trivial|with_reducible rfl|exact qlr _|exact qRr|exact w|refine And.intro ?_ ?_|rfl
 ·have hi:0≤toS (tN b c) 3∧toS (tN b c) 3<4:=G9 (by decide)
  refine KB (QO8 d b P c (tN b c) (Qx d c r 3) (VG (tN b c) (d.ps.get c) 3) g) ?_;refine QF (by first|(simp;done)|exact decide_eq_true hi|(simp;omega)) ?_
  refine QI (fun b0 => ?_) (fun b0 => ?_)
  ·refine QF (by first|(simp;done)|exact decide_eq_true hi|(simp;omega)) ?_
   refine QF (by first|(simp;done)|exact decide_eq_true hi|(simp;omega)) ?_
   refine QF (by first|(simp;done)|exact decide_eq_true hi|(simp;omega)) ?_
   refine JK fun z0 y0 => ?_;refine QF (by first|(simp;done)|exact decide_eq_true hi|(simp;omega)) ?_
   refine QI (fun b1 => ?_) (fun b1 => ?_)
   ·have e:toS (tN b c) 3=(0:Nat):=by have:=qdt b1;exact this
    have q:=Ka (p:=d.ps.get c) e;have w:z0=Qx d c r 4:=y0.trans (VI (r:=r) (s:=3) b0).symm;refine⟨4,by decide,by decide,fun _ _ r=>r,rfl,rfl,_,QJv (r:=true) ..,?_⟩
    rw[q]
    repeat' first|with_reducible refine QO ?_ ?_|exact trivial|with_reducible rfl|exact qlr _|exact qRr|exact w|refine And.intro ?_ ?_|rfl
   ·refine QI (fun b2 => ?_) (fun b2 => ?_)
    ·have e:toS (tN b c) 3=(1:Nat):=by have:=qdt b2;exact this
     have q:=Ka (p:=d.ps.get c) e;have w:z0=Qx d c r 4:=y0.trans (VI (r:=r) (s:=3) b0).symm;refine⟨4,by decide,by decide,fun _ _ r=>r,rfl,rfl,_,QGV (r:=true) ..,?_⟩
     rw[q]
     repeat' first|with_reducible refine QO ?_ ?_|exact trivial|with_reducible rfl|exact qlr _|exact qRr|exact w|refine And.intro ?_ ?_|rfl
    ·refine QI (fun b3 => ?_) (fun b3 => ?_)
     ·have e:toS (tN b c) 3=(2:Nat):=by have:=qdt b3;exact this
      have q:=Ka (p:=d.ps.get c) e;have w:z0=Qx d c r 4:=y0.trans (VI (r:=r) (s:=3) b0).symm;refine⟨4,by decide,by decide,fun _ _ r=>r,rfl,rfl,_,QLs (r:=true) ..,?_⟩
      rw[q]
      repeat' first|with_reducible refine QO ?_ ?_|exact trivial|with_reducible rfl|exact qlr _|exact qRr|exact w|refine And.intro ?_ ?_|rfl
     ·have e:toS (tN b c) 3=(3:Nat):=by have h0:¬ toS (tN b c) 3=0:=of_decide_eq_false b1;have h1:¬ toS (tN b c) 3=1:=of_decide_eq_false b2;have h2:¬ toS (tN b c) 3=2:=of_decide_eq_false b3;omega
      have q:=Ka (p:=d.ps.get c) e;have w:z0=Qx d c r 4:=y0.trans (VI (r:=r) (s:=3) b0).symm;refine⟨4,by decide,by decide,fun _ _ r=>r,rfl,rfl,_,QIW (r:=true) ..,?_⟩
      rw[q]
      repeat' first|with_reducible refine QO ?_ ?_|exact trivial|with_reducible rfl|exact qlr _|exact qRr|exact w|refine And.intro ?_ ?_|rfl
  ·have hb:=jR hd hc (s:=3) (by
    have:=of_decide_eq_false b0;rw[beq_eq_false_iff_ne];intro e;exact this (Int.lt_of_le_of_lt (Int.le_of_eq e) (by decide)))
   have hb:0≤QN d.wide d.high (c:Int) (3:Int)∧QN d.wide d.high (c:Int) (3:Int)<d.ps.n:=hb;refine QF (by first|(simp;done)|exact decide_eq_true hi|(simp;omega)) ?_
   refine QF (by first|(simp;done)|exact decide_eq_true hi|(simp;omega)) ?_
   refine QF (by first|(simp;done)|exact decide_eq_true hi|(simp;omega)) ?_
   refine QF (by first|(simp;done)|exact decide_eq_true hi|(simp;omega)) ?_
   refine QF (by first|(simp;done)|exact decide_eq_true hi|(simp;omega)) ?_
   refine JK fun z1 y1 => ?_;refine QF (by first|(simp;done)|exact decide_eq_true hi|(simp;omega)) ?_
   refine QF (by first|(simp;done)|exact decide_eq_true hi|(simp;omega)) ?_
   refine JK fun z2 y2 => ?_;refine QF (by first|(simp;done)|exact decide_eq_true hi|(simp;omega)) ?_
   refine QI (fun b4 => ?_) (fun b4 => ?_)
   ·have e:toS (tN b c) 3=(0:Nat):=by have:=qdt b4;exact this
    have q:=Ka (p:=d.ps.get c) e;have w:z2=Qx d c r 4:=y2.trans (by rw[y1];exact(VJ (r:=r) (s:=3) b0).symm)
    refine⟨4,by decide,by decide,fun _ _ r=>r,rfl,rfl,_,QJv (r:=true) ..,?_⟩
    rw[q]
    repeat' first|with_reducible refine QO ?_ ?_|exact trivial|with_reducible rfl|exact qlr _|exact qRr|exact w|refine And.intro ?_ ?_|rfl
   ·refine QI (fun b5 => ?_) (fun b5 => ?_)
    ·have e:toS (tN b c) 3=(1:Nat):=by have:=qdt b5;exact this
     have q:=Ka (p:=d.ps.get c) e;have w:z2=Qx d c r 4:=y2.trans (by rw[y1];exact(VJ (r:=r) (s:=3) b0).symm)
     refine⟨4,by decide,by decide,fun _ _ r=>r,rfl,rfl,_,QGV (r:=true) ..,?_⟩
     rw[q]
     repeat' first|with_reducible refine QO ?_ ?_|exact trivial|with_reducible rfl|exact qlr _|exact qRr|exact w|refine And.intro ?_ ?_|rfl
    ·refine QI (fun b6 => ?_) (fun b6 => ?_)
     ·have e:toS (tN b c) 3=(2:Nat):=by have:=qdt b6;exact this
      have q:=Ka (p:=d.ps.get c) e;have w:z2=Qx d c r 4:=y2.trans (by rw[y1];exact(VJ (r:=r) (s:=3) b0).symm)
      refine⟨4,by decide,by decide,fun _ _ r=>r,rfl,rfl,_,QLs (r:=true) ..,?_⟩
      rw[q]
      repeat' first|with_reducible refine QO ?_ ?_|exact trivial|with_reducible rfl|exact qlr _|exact qRr|exact w|refine And.intro ?_ ?_|rfl
     ·have e:toS (tN b c) 3=(3:Nat):=by have h0:¬ toS (tN b c) 3=0:=of_decide_eq_false b4;have h1:¬ toS (tN b c) 3=1:=of_decide_eq_false b5;have h2:¬ toS (tN b c) 3=2:=of_decide_eq_false b6;omega
      have q:=Ka (p:=d.ps.get c) e;have w:z2=Qx d c r 4:=y2.trans (by rw[y1];exact(VJ (r:=r) (s:=3) b0).symm)
      refine⟨4,by decide,by decide,fun _ _ r=>r,rfl,rfl,_,QIW (r:=true) ..,?_⟩
      rw[q]
      repeat' first|with_reducible refine QO ?_ ?_|exact trivial|with_reducible rfl|exact qlr _|exact qRr|exact w|refine And.intro ?_ ?_|rfl
 ·refine KB (QRq d b P c (tN b c) (Qx d c r 4) (VG (tN b c) (d.ps.get c) 4) g) ?_;refine⟨_,⟨rfl,rfl⟩,rfl,rfl,_,QO3 ..,?_⟩
  repeat' first|with_reducible refine QO ?_ ?_|exact trivial|with_reducible rfl|exact qlr _|exact qRr|refine And.intro ?_ ?_
def YK(L:List QB)(c:Nat)(t:Int):Nat→Bool
 | 0=>false
 | k+1=>YK L c t k||((L.getD k ⟨0,0⟩).cell==(c:Int)&&((L.getD k ⟨0,0⟩).turn==t&&true))
theorem QTf{L:List QB}{t:Int}(h:(⟨c,t⟩:QB)∈L):YK L c t L.length=true:=by
 obtain⟨i,hi,e⟩:=List.mem_iff_getElem.1 h
 have key:∀ n,i<n→n≤L.length→YK L c t n=true:=by
  intro n
  induction n with
  | zero=>intro h _;omega
  | succ n ih=>
   intro h1 h2;rw[YK]
   by_cases q:i=n
   ·subst q;rw[QKx hi,e];simp
   ·rw[ih (by omega) (by omega)];rfl
 exact key _ hi (qlr _)
set_option maxHeartbeats 1600000 in
theorem QOC(d:Puz)(b:Qj)(P:Nat→QG)(c:Nat)(t:Int)(r:Bool)(q:QG)(e:Int)(L:List QB)(hn:L.length≤1000):JW (fun k=>qF d b P c t r q e L (YK L c t k) k) (fun k=>k≤L.length) (fun k=>L.length-k) (fun _ ex J=>ex = .exit 4∧J=zN d b P c r q e (YK L c t L.length)) 8 QGa [] (mkS Try.prog KZ) (fun _=>hnd (mkS Try.prog KZ) 3) (G8 (Qa Try.f8 0)):=by
 refine⟨fun k g hk=>KB (QRP d b P c t r q e L (YK L c t k) k g) ?_⟩;have hk:k≤L.length:=hk;refine QI (fun b0 => ?_) (fun b0 => ?_)
 ·refine QF (by have:=qdt b0;simp;omega) ?_
  refine QF (by have:=qdt b0;simp;omega) ?_
  iterate 2 refine QFB ?_
  refine Wf ?_;refine JK fun z0 y0 => ?_;have h:k<L.length:=by have:=qdt b0;omega
  refine⟨k+1,h,by show L.length-(k+1)<L.length-k;omega,fun _ _ r=>r,rfl,rfl,_,QRp (z:=true) ..,?_⟩
  repeat' first|with_reducible refine QO ?_ ?_|exact trivial|with_reducible rfl|exact qlr _|exact qRr|exact JO h hn|exact y0|refine And.intro ?_ ?_
 ·have h:k=L.length:=by have:=of_decide_eq_false b0;omega
  subst h;refine⟨_,⟨rfl,rfl⟩,rfl,rfl,_,QQ5 ..,?_⟩
  repeat' first|with_reducible refine QO ?_ ?_|exact trivial|with_reducible rfl|exact qlr _|exact qRr|refine And.intro ?_ ?_
set_option maxHeartbeats 1600000 in
theorem QWL(L:List Int)(hn:L.length≤1000)(hL:∀ k,k<L.length→(i64.wrap ((BitVec.ofInt 64 ((L.getD k 0).fdiv (2^min k 64)) &&& BitVec.ofInt 64 1).toNat:Nat)==0)=false):JW (fun k=>zi L k) (fun k=>k≤L.length) (fun k=>L.length-k) (fun _ ex J=>ex = .exit 6∧J=Hd) 8 QFa [] (mkE Try.prog KZ) (fun _=>hnd (mkE Try.prog KZ) 3) (Qa Try.f8 1):=by
 refine⟨fun k g hk=>KB (QRy L k g) ?_⟩;have hk:k≤L.length:=hk;refine QI (fun b0 => ?_) (fun b0 => ?_)
 ·refine QF (by have:=qdt b0;simp;omega) ?_
  refine QF (by have:=qdt b0;simp;omega) ?_
  refine QF (by simp) ?_
  refine QI (fun b1 => ?_) (fun b1 => ?_)
  ·rw[hL k (by have:=qdt b0;omega)]at b1;cases b1
  ·have h:k<L.length:=by have:=qdt b0;omega
   refine⟨k+1,h,by show L.length-(k+1)<L.length-k;omega,fun _ _ r=>r,rfl,rfl,_,QU3 ..,?_⟩
   repeat' first|with_reducible refine QO ?_ ?_|exact trivial|with_reducible rfl|exact qlr _|exact qRr|exact JO h hn|refine And.intro ?_ ?_
 ·exact⟨_,⟨rfl,rfl⟩,rfl,rfl,_,QSZ,trivial⟩
theorem QOf(P:Nat→QG)(c:Nat)(q:QG)(hq:P c=q):QD 28 (c+1) (QX c (fun i=>QA.enc (P i)) (QR [(Enc.enc q).cells] 0)) (fun i=>QA.enc (P i)):=by
 subst hq;intro i hi;show eqF 28 0 (QX c (fun i=>QA.enc (P i)) (QR [(Enc.enc (P c)).cells] 0) i) (QA.enc (P i))
 by_cases h:i<c
 ·have e2:QX c (fun i=>QA.enc (P i)) (QR [(Enc.enc (P c)).cells] 0) i=QA.enc (P i):=by
   funext j;rw[XI,if_pos h]
  rw[e2];exact zQ _ _ _
 ·have e:i=c:=by omega
  subst e
  have e2:QX i (fun i=>QA.enc (P i)) (QR [(Enc.enc (P i)).cells] 0) i=QR [(Enc.enc (P i)).cells] 0 0:=by
   funext j;rw[XI,if_neg h,Nat.sub_self]
  rw[e2];exact⟨rfl,rfl,rfl,rfl,rfl,rfl,rfl,rfl,rfl,rfl,rfl,rfl,rfl,rfl,rfl,rfl,rfl,rfl,rfl,rfl,rfl,rfl,rfl,rfl,rfl,rfl,rfl,rfl,trivial⟩
theorem QJi(d:Puz)(q:QG)(hd:d.ps.n≤9):(JD d q).length≤1000:=by
 unfold JD;split
 ·have:=qH d q d.ps.n;omega
 ·exact Nat.zero_le _
abbrev QHe(P0:Program)(d:Puz)(b:Qj)(c:Nat):Hnd:=QFS P0 d b (Q9 d b) c (K6 d c) (tN b c) (Qx d c (K6 d c) 4) zeP (Q9 d b c) (Xb d (Q9 d b c)) (JD d (Q9 d b c)) (YK (JD d (Q9 d b c)) c (tN b c) (JD d (Q9 d b c)).length)
set_option maxHeartbeats 3200000 in
theorem QSM(d:Puz)(b:Qj)(hd:d.ok=true):JW (fun c=>zE d b (Q9 d b) (K6 d c) c) (fun c=>c≤d.ps.n) (fun c=>d.ps.n-c) (fun _ ex J=>ex = .exit 0∧J=Gr d (Q9 d b) (K6 d d.ps.n) d.ps.n) 8 QGW [] (mkS Try.prog KZ) (fun c=>QHe Try.prog d b c) (Qa Try.f8 0):=by
 have n9:=(Y2 hd).n9;refine⟨fun c g hk=>KB (QVT d b (Q9 d b) c (K6 d c) (tN b c) (Qx d c (K6 d c) 4) zeP (Q9 d b c) (Xb d (Q9 d b c)) (JD d (Q9 d b c)) (YK (JD d (Q9 d b c)) c (tN b c) (JD d (Q9 d b c)).length) g) ?_⟩;have hk:c≤d.ps.n:=hk;refine QI (fun b0 => ?_) (fun b0 => ?_)
 ·have h:c<d.ps.n:=by have:=qdt b0;omega
  have e0:Xb d (Q9 d b c)=0:=by unfold Xb;rw[QMC hd b h]
  have hz:=QTf (QWR hd b h);refine QF (by simp;omega) ?_
  refine QF (by simp;omega) ?_
  refine QF (by rw[show i64.wrap (2*(c:Int))=2*(c:Int)from w64 (by omega) (by omega)];simp;omega) ?_
  refine Qc (by exact⟨h,hd⟩) ?_
  iterate 108 refine Qc (by first|rfl|exact qlr _|exact qRr|exact trivial|exact QJi d _ n9) ?_
  refine KY fun a0 => ?_;refine KX fun g0 => ?_;refine QF (by simp;omega) ?_
  iterate 89 refine Qc (by first|rfl|exact qlr _|exact qRr|exact trivial|exact QJi d _ n9) ?_
  refine KY fun a1 => ?_;refine KX fun g1 => ?_;refine Wo ?_;refine Wf ?_;refine JK fun z0 y0 => ?_;obtain rfl:z0=false:=y0.trans (by rw[e0,hz];rfl)
  refine QI (fun b1 => ?_) (fun b1 => ?_)
  ·cases b1
  ·refine QF (by simp;omega) ?_
   refine⟨c+1,h,by show d.ps.n-(c+1)<d.ps.n-c;omega,fun _ _ r=>r,rfl,rfl,_,QPy ..,?_⟩
   repeat' first|with_reducible refine QO ?_ ?_|exact trivial|with_reducible rfl|exact qlr _|exact qRr|exact JO h (by omega)|exact QOf _ _ _ rfl|refine And.intro ?_ ?_
 ·have h:c=d.ps.n:=by have:=of_decide_eq_false b0;omega
  subst h;refine⟨_,⟨rfl,rfl⟩,rfl,rfl,_,QV2 ..,?_⟩
  repeat' first|with_reducible refine QO ?_ ?_|exact trivial|with_reducible rfl|exact qlr _|exact qRr|refine And.intro ?_ ?_
abbrev QEk(P0:Program)(d:Puz)(b:Qj)(P:Nat→QG)(c:Nat)(r:Bool)(t:Int)(r':Bool)(q0 q:QG)(e:Int)(L:List QB)(z:Bool):Code→St→(Ex→St→QC)→QC:=z7 [(11,Xh (c<d.ps.n∧d.ok=true) (KF 8 [] (K9 d b P c t r q0 0) [(True,.exit 2,jj d b P c t r' q)])),(23,Xh (L.length≤1000) (KF 8 [] (qF d b P c t r' q e L false 0) [(True,.exit 4,zN d b P c r' q e z)]))]
theorem QWW(d:Puz)(b:Qj)(c:Nat)(G:Ctx)(hrd:G.rd=none)(hG:G.n=8):KH (mkS Try.prog KZ) G (QHe Try.prog d b c) (Qa Try.f8 0):=by
 refine QCo (Xl YU) hrd fun cc hcm => ?_;have he:Kg (Qa Try.f8 0)=[.loop (VZ (Qa Try.f8 0)),.loop (G8 (Qa Try.f8 0))]:=by kernel_rfl
 rw[he]at hcm;simp only[List.mem_cons,List.not_mem_nil,or_false]at hcm;show Ji _ _ _ (QEk Try.prog d b (Q9 d b) c (K6 d c) (tN b c) (Qx d c (K6 d c) 4) zeP (Q9 d b c) (Xb d (Q9 d b c)) (JD d (Q9 d b c)) (YK (JD d (Q9 d b c)) c (tN b c) (JD d (Q9 d b c)).length) cc);rcases hcm with rfl|rfl
 ·have e1:∀ P c r t r' q0 q e L z,QEk Try.prog d b P c r t r' q0 q e L z (.loop (VZ (Qa Try.f8 0)))=Xh (c<d.ps.n∧d.ok=true) (KF 8 [] (K9 d b P c t r q0 0) [(True,.exit 2,jj d b P c t r' q)]):=by intro P c r t r' q0 q e L z;kernel_rfl
  rw[e1];refine vn fun hp => ?_;refine W7 (E:=mkX Try.prog KZ) rfl (J3 (n0:=8) (QLc YU) (by omega) (fun s hs=>Q3 (QLc YU) 3 G _ hrd) (fun s hs=>(by decide:8≤320)) ?_ (QWa d b (Q9 d b) c (K6 d c) (Y2 hp.2) hp.1) (s0:=0) (Nat.zero_le _) ?_)
  ·rintro s e J ⟨_,rfl⟩;exact(by decide:8≤320)
  ·rintro e J ⟨rfl,rfl⟩;exact⟨_,List.mem_cons_self,trivial,rfl,rfl⟩
 ·have e1:∀ P c r t r' q0 q e L z,QEk Try.prog d b P c r t r' q0 q e L z (.loop (G8 (Qa Try.f8 0)))=Xh (L.length≤1000) (KF 8 [] (qF d b P c t r' q e L false 0) [(True,.exit 4,zN d b P c r' q e z)]):=by intro P c r t r' q0 q e L z;kernel_rfl
  rw[e1];refine vn fun hp => ?_;refine J3 (n0:=8) (Xl YU) (by omega) (fun s hs=>Q3 (Xl YU) 3 G _ hrd) (fun s hs=>(by decide:8≤500)) ?_ (QOC d b (Q9 d b) c (tN b c) (Qx d c (K6 d c) 4) (Q9 d b c) (Xb d (Q9 d b c)) (JD d (Q9 d b c)) hp) (s0:=0) (Nat.zero_le _) ?_
  ·rintro s e J ⟨_,rfl⟩;exact(by decide:8≤500)
  ·rintro e J ⟨rfl,rfl⟩;exact⟨_,List.mem_cons_self,trivial,rfl,rfl⟩
theorem QIC(h:d.ok=true)(b:Qj):(KO (Ke d b)).1.length=d.ps.n∧∀ k,k<d.ps.n→(i64.wrap ((BitVec.ofInt 64 (((KO (Ke d b)).1.getD k 0).fdiv (2^min k 64)) &&& BitVec.ofInt 64 1).toNat:Nat)==0)=false:=by
 have n9:=(Y2 h).n9;have px:=(QMd (Ke d b)).2.2 (QKv h b);refine⟨px.len,fun k hk => ?_⟩
 have hb:Ki ((KO (Ke d b)).1.getD k 0) k=true:=by
  rw[px.cb k hk];refine List.any_eq_true.2 ⟨XG d b,QDA h b,?_⟩;have hl:k<(XG d b).length:=by simp[XG];exact hk
  rw[QKx hl,QAJ hl];simp
 have e:=QQI (px.ci k) (k:=k) (by omega)
 rw[if_pos hb]at e;have e:i64.wrap ((BitVec.ofInt 64 (((KO (Ke d b)).1.getD k 0).fdiv (2^min k 64)) &&& BitVec.ofInt 64 1).toNat:Nat)=1:=e;rw[e];rfl
abbrev wnG(d:Puz)(b:Qj):Code→St→(Ex→St→QC)→QC:=z7 [
 (6,Xh (d.ok=true) (KF 8 [] (zE d b (Q9 d b) true (0:Nat)) [(True,.exit 0,Gr d (Q9 d b) (K6 d d.ps.n) d.ps.n)])),
 (37,Xh (d.ok=true) (KF 8 [] (zi (KO (Ke d b)).1 (0:Nat)) [(True,.exit 6,Hd)]))]
abbrev wnH(P0:Program)(d:Puz)(b:Qj):Hnd:={ hnd (mkS P0 KZ) 1 with loop:=wnG d b }
theorem QVw(d:Puz)(b:Qj)(G:Ctx)(hrd:G.rd=none)(hG:G.n=8):KH (mkS Try.prog KZ) G (wnH Try.prog d b) (Qr Try.f8):=by
 refine QCo (Xl YU) hrd fun c hc => ?_;have he:Kg (Qr Try.f8)=[.loop (Qa Try.f8 0),.loop (Qa Try.f8 1)]:=by kernel_rfl
 rw[he]at hc;simp only[List.mem_cons,List.not_mem_nil,or_false]at hc;rcases hc with rfl|rfl
 ·have e1:wnG d b (.loop (Qa Try.f8 0))=Xh (d.ok=true) (KF 8 [] (zE d b (Q9 d b) true (0:Nat)) [(True,.exit 0,Gr d (Q9 d b) (K6 d d.ps.n) d.ps.n)]):=by kernel_rfl
  rw[e1];refine vn fun hp => ?_;refine J3 (n0:=8) (Xl YU) (by omega) (fun s hs=>QWW d b s G hrd hG) (fun s hs=>(by decide:8≤300)) ?_ (QSM d b hp) (s0:=0) (Nat.zero_le _) ?_
  ·rintro s e J ⟨_,rfl⟩;exact(by decide:8≤300)
  ·rintro e J ⟨rfl,rfl⟩;exact⟨_,List.mem_cons_self,trivial,rfl,rfl⟩
 ·have e1:wnG d b (.loop (Qa Try.f8 1))=Xh (d.ok=true) (KF 8 [] (zi (KO (Ke d b)).1 (0:Nat)) [(True,.exit 6,Hd)]):=by kernel_rfl
  rw[e1];refine vn fun hp => ?_;have hq:=QIC hp b;have n9:=(Y2 hp).n9;refine W7 (E:=mkE Try.prog KZ) rfl (J3 (n0:=8) (QS YU) (by omega) (fun s hs=>Q3 (QS YU) 3 G _ hrd) (fun s hs=>(by decide:8≤700)) ?_ (QWL (KO (Ke d b)).1 (by rw[hq.1];omega) (fun k hk=>hq.2 k (by rw[←hq.1];exact hk))) (s0:=0) (Nat.zero_le _) ?_)
  ·rintro s e J ⟨_,rfl⟩;exact(by decide:8≤700)
  ·rintro e J ⟨rfl,rfl⟩;exact⟨_,List.mem_cons_self,trivial,rfl,rfl⟩
def okS(d:Puz)(c s:Nat):Bool:=cond (decide (QN d.wide d.high c s<0)) ((Kc (d.ps.get c) s).kind==0) ((Qw d.play (Kc (d.ps.get c) s) (Kc (d.ps.get (QN d.wide d.high c s).toNat) ((s+2) % 4))).2==0&&(Qw d.play (Kc (d.ps.get c) s) (Kc (d.ps.get (QN d.wide d.high c s).toNat) ((s+2) % 4))).1==2)
theorem QF4(d:Puz)(c:Nat)(r:Bool):∀ s,Qx d c r s=true↔r=true∧∀ i,i<s→okS d c i=true
 | 0=>by simp[Qx]
 | s+1=>by
  have ih:=QF4 d c r s
  have e:Qx d c r (s+1)=(Qx d c r s&&okS d c s):=by
   rw[Qx,okS];cases decide (QN d.wide d.high c s<0)<;>simp[Bool.and_assoc]
  rw[e,qbA,ih];constructor
  ·rintro⟨⟨h1,h2⟩,h3⟩;refine⟨h1,fun i hi => ?_⟩
   by_cases q:i=s
   ·subst q;exact h3
   ·exact h2 i (by omega)
  ·rintro⟨h1,h2⟩;exact⟨⟨h1,fun i hi=>h2 i (by omega)⟩,h2 s (by omega)⟩
theorem QH8(d:Puz):∀ c,K6 d c=true↔∀ k,k<c→∀ i,i<4→okS d k i=true
 | 0=>by simp[K6]
 | c+1=>by
  rw[K6,QF4,QH8 d c];constructor
  ·rintro⟨h1,h2⟩ k hk i hi
   by_cases q:k=c
   ·subst q;exact h2 i hi
   ·exact h1 k (by omega) i hi
  ·intro h;exact⟨fun k hk=>h k (by omega),h c (by omega)⟩
theorem QGw{s:QG}(h:s.ok=true)(i:Nat):(Kc s i).ok=true:=by
 simp only[QG.ok,qbA]at h;unfold Kc;split
 ·exact h.1
 ·exact h.2.1
 ·exact h.2.2.1
 ·exact h.2.2.2
theorem QJw(h:d.ok=true)(hc:c<d.ps.n):Xs d c s = !okS d c s:=by
 unfold Xs okS;cases hb:QN d.wide d.high c s == -1 with
 | true=>
  have e:QN d.wide d.high c s = -1:=by simpa using hb
  rw[decide_eq_true (show QN d.wide d.high c s<0 by omega)];rfl
 | false=>
  have hi:=jR (Y2 h) hc hb;rw[decide_eq_false (show ¬ QN d.wide d.high c s<0 by omega)]
  have e:(Qw d.play (Kc (d.ps.get c) s) (Kc (d.ps.get (QN d.wide d.high c s).toNat) ((s+2) % 4))).2=0:=by
   unfold Qw;rw[if_pos ⟨HA h,QGw (HR h hc) _,QGw (HR h (by omega)) _⟩]
  rw[cond_false,cond_false,e];rfl
theorem QTp(h:d.ok=true):((V6 d).2.2==4)=K6 d d.ps.n:=by
 have key:YJ d=none↔K6 d d.ps.n=true:=by
  rw[QH8];unfold YJ;constructor
  ·intro hn k hk i hi;have:=jb hn (4*k+i) (Nat.zero_le _) (by omega)
   unfold Vh at this;rw[show(4*k+i) / 4=k by omega,show(4*k+i) % 4=i by omega,QJw h hk]at this
   simpa using this
  ·intro hr;refine Ht fun i _ hi => ?_;unfold Vh;rw[QJw h (by omega),hr (i / 4) (by omega) (i % 4) (Nat.mod_lt _ (by omega))];rfl
 unfold V6;rw[h];cases hc:YJ d with
 | none=>rw[key.1 hc];rfl
 | some i=>
  cases hr:K6 d d.ps.n with
  | false=>rfl
  | true=>rw[key.2 hr]at hc;cases hc
structure QQQ (d:Puz) (b:Qj):Prop where
 a:(!(((V6 d).2.2==4)==K6 d d.ps.n)||((JS (Ke d b)).2.2.2 != 0))=false
 m:decide ((JS (Ke d b)).2.2.1<1)=false
 p:((KO (Ke d b)).2.2 != 0)=false
 l:(((KO (Ke d b)).1.length:Int) != (d.ps.n:Int))=false
theorem QQP(h:d.ok=true)(b:Qj):QQQ d b:=by
 have he:=QKv h b;have hT:=QQm (Ke d b);rw[he]at hT;have hm:=QDA h b;refine⟨?_,?_,?_,?_⟩
 ·rw[QTp h,hT];simp
 ·rw[hT];refine decide_eq_false ?_;show ¬ (((min (JA (Ke d b)).length 100:Nat):Int)<1);have:0<(JA (Ke d b)).length:=List.length_pos_of_mem hm;omega
 ·rw[(QMd _).1,he];rfl
 ·rw[(QIC h b).1];simp
def zu:WF (Puz×Qj×Unit):=fun|(d,(b,_))=>(true,.bool false true,[])
theorem QT2(d:Puz)(b:Qj):Kd (mkS Try.prog KZ) (wnH Try.prog d b) Try.f8 (QU.vals 0 ((d,b,()):Puz×Qj×Unit)) (QU.blks 0 ((d,b,()):Puz×Qj×Unit)) 8 = .need (!decide ((d.ps.n :
  Int)≤14)||decide (d.ps.n≤d.ps.n)&&true&&decide (d.ps.n≤1000)&&decide ((d.ps.n:Int)≤14)) (.need (!decide ((d.ps.n:Int)≤14)||decide ((d.ps.n:Int)≤14))
  (.bnd (decide ((d.ps.n:Int)≤14)&&d.ok) (fun(x0:Bool) => .need (!!!x0 || !!x0) (.need (!!!x0 || !!x0) (.need (!!!x0 || !!x0) (.need (!x0 || !!x0) (.bnd (!x0||decide
  ((d.ps.n:Int)>5)) (fun(x1:Bool) => .br (x1) (.leaf (.bool true true) ([])) (.ask (d.ok=true) (.ask (b.n=b.n) (.ask (0=0) (.ask (0=0) (.ask (true=true) (.ask (0=0)
  (.ask (0=0) (.ask (0=0) (.ask (d.ps.n=d.ps.n) (.ask (cO=cO) (.ask ((d.ps.n:Int)=(d.ps.n:Int)) (.ask ((0:Int)=0) (.ask (d.play.length=d.play.length)
  (.ask (d.play.slack=d.play.slack) (.ask (d.play.loose=d.play.loose) (.ask (d.play.damp.lo=d.play.damp.lo) (.ask (d.play.damp.hi=d.play.damp.hi) (.ask (d.wide=d.wide) (.ask
  (d.high=d.high) (.ask (d.turn=d.turn) (.ask (0=0) (.ask (d.ps.n=d.ps.n) (.ask (cO=cO) (.ask (d.play.length=d.play.length) (.ask (d.play.slack=d.play.slack)
  (.ask (d.play.loose=d.play.loose) (.ask (d.play.damp.lo=d.play.damp.lo) (.ask (d.play.damp.hi=d.play.damp.hi) (.ask (d.wide=d.wide) (.ask (d.high=d.high) (.ask (d.turn =
  d.turn) (.ask (0=0) (.ask (d.ps.n=d.ps.n) (.ask (cO=cO) (.ask (0=0) (.ask (0=0) (.ask ((0:Int)=0) (.ask ((0:Int)=0) (.ask (0=0) (.ask (0=0) (.ask
  (d.ps.n≤d.ps.n) (.ask (QD 28 d.ps.n (fun i=>QA.enc (d.ps.get i)) fun i=>QA.enc (d.ps.get i)) (.asm (True) (.all (fun(g2:Nat→Value) => .need (decide (d.ps.n ≤
  d.ps.n)&&true&&decide (d.ps.n≤1000)) (.need (decide (d.ps.n≤d.ps.n)&&(decide (d.ps.n≤d.ps.n)&&(decide (0≤0)&&true))&&decide (d.ps.n≤1000∧d.ps.n≤1000∧0 ≤
  1000)) (.need (decide (d.ps.n≤d.ps.n)&&(decide (d.ps.n≤d.ps.n)&&(decide (0≤0)&&true))&&decide (d.ps.n≤1000∧d.ps.n≤1000∧0≤1000)) (.need (!!!((V6 d).2.2 ==
  4)==K6 d d.ps.n || !!((V6 d).2.2==4)==K6 d d.ps.n) (.need (!((V6 d).2.2==4)==K6 d d.ps.n || !!((V6 d).2.2==4)==K6 d d.ps.n) (.bnd (!((V6 d).2.2==4)
  == K6 d d.ps.n||(JS (QE.mk d (Rw.mk d.ps.n (Q9 d b)) (Rw.mk 0 fun i=>Jn.mk (0:Int) (0:Int) (0:Int) (0:Int)) (0:Int) (0:Int))).2.2.2 != 0) (fun(x3:Bool)=>
  .need (!!x3 || !x3) (.need (x3 || !x3) (.bnd (x3||decide ((JS (QE.mk d (Rw.mk d.ps.n (Q9 d b)) (Rw.mk 0 fun i=>Jn.mk (0:Int) (0:Int) (0:Int) (0:Int)) (0:Int) (0
  : Int))).2.2.1<1)) (fun(x4:Bool) => .need (!!x4 || !x4) (.need (x4 || !x4) (.bnd (x4||(KO (QE.mk d (Rw.mk d.ps.n (Q9 d b)) (Rw.mk 0 fun i=>Jn.mk (0:Int) (0 :
  Int) (0:Int) (0:Int)) (0:Int) (0:Int))).2.2 != 0) (fun(x5:Bool) => .need (!!x5 || !x5) (.need (!!x5 || !x5) (.need (!!x5 || !x5) (.need (!!x5 || !x5 && !x5) (.need (x5 ||
  !x5) (.bnd (x5||(↑(KO (QE.mk d (Rw.mk d.ps.n (Q9 d b)) (Rw.mk 0 fun i=>Jn.mk (0:Int) (0:Int) (0:Int) (0:Int)) (0:Int) (0:Int))).1.length:Int) != (d.ps.n :
  Int)) (fun(x6:Bool) => .br (x6) (.leaf (.bool true false) ([])) (.ask (d.ok=true) (.ask (0=0) (.ask ((KO (QE.mk d (Rw.mk d.ps.n (Q9 d b)) (Rw.mk 0 fun i=>Jn.mk (0
  : Int) (0:Int) (0:Int) (0:Int)) (0:Int) (0:Int))).1.length=(KO (Ke d b)).1.length) (.ask (cO=cO) (.ask ((↑(KO (QE.mk d (Rw.mk d.ps.n (Q9 d
  b)) (Rw.mk 0 fun i=>Jn.mk (0:Int) (0:Int) (0:Int) (0:Int)) (0:Int) (0:Int))).1.length:Int)=(↑(KO (Ke d b)).1.length:Int)) (.ask ((0:Int)=0) (.ask
  ((KO (Ke d b)).1.length≤(KO (QE.mk d (Rw.mk d.ps.n (Q9 d b)) (Rw.mk 0 fun i=>Jn.mk (0:Int) (0:Int) (0:Int) (0:Int)) (0:Int) (0:Int))).1.length) (.ask
  (QD 1 (KO (Ke d b)).1.length (fun i=>QA.enc ((KO (QE.mk d (Rw.mk d.ps.n (Q9 d b)) (Rw.mk 0 fun i=>Jn.mk (0:Int) (0:Int) (0:Int) (0:Int)) (0:Int)
  (0:Int))).1.getD i 0)) fun i=>QA.enc ((KO (Ke d b)).1.getD i 0)) (.asm (True) (.all (fun(g7:Nat→Value) => .leaf (.bool true true)
  ([]))))))))))))))))))))))))))))))))))))))))))))))))))))))))))))))))))))))))))))))))))):=by kernel_rfl
theorem QV9:JN (mkS Try.prog KZ) (Qr Try.f8) 8 zu (fun x_=>(wnH Try.prog x_.1 x_.2.1)):=by
 refine⟨?_⟩;rintro⟨d,⟨b,⟨⟩⟩⟩ hp G h1 h2;exact QVw d b G h1 h2
theorem QVh:JM (mkS Try.prog KZ) Try.f8 8 zu (fun x_=>(wnH Try.prog x_.1 x_.2.1)):=by
 refine⟨?_⟩;rintro⟨d,⟨b,⟨⟩⟩⟩ hp;refine⟨⟨rfl,by simp[zu],rfl⟩,⟨?_⟩⟩
 rw[QT2 d b];simp only[zu]at hp;refine QF (by by_cases q:(d.ps.n:Int)≤14<;>simp[q]<;>omega) ?_
 refine Wo ?_;refine JK fun z0 y0 => ?_
 iterate 3 refine Wo ?_
 refine Wf ?_;refine JK fun z1 y1 => ?_;refine QI (fun b0 => ?_) (fun b0 => ?_)
 ·exact K7 rfl rfl
 ·have hq:=y1.symm.trans b0;rw[Bool.or_eq_false_iff,decide_eq_false_iff_not]at hq;have hz:z0=true:=by simpa using hq.1
  have hd:d.ok=true:=by rw[y0,qbA]at hz;exact hz.2
  have n9:=(Y2 hd).n9;have H:=QQP hd b;refine Qc (by exact hd) ?_
  iterate 41 refine Qc (by first|rfl|exact qlr _|exact qRr|exact trivial) ?_
  refine KY fun a0 => ?_;refine KX fun g0 => ?_;refine QF (by simp;omega) ?_
  refine QF (by simp;omega) ?_
  refine QF (by simp;omega) ?_
  refine Wo ?_;refine Wf ?_;refine JK fun z2 y2 => ?_;obtain rfl:z2=false:=y2.trans (H.a);refine Wo ?_;refine Wf ?_;refine JK fun z3 y3 => ?_;obtain rfl:z3=false:=y3.trans ((Bool.false_or _).trans H.m);refine Wo ?_;refine Wf ?_;refine JK fun z4 y4 => ?_;obtain rfl:z4=false:=y4.trans ((Bool.false_or _).trans H.p)
  iterate 3 refine Wo ?_
  refine QFB ?_;refine Wf ?_;refine JK fun z5 y5 => ?_;obtain rfl:z5=false:=y5.trans ((Bool.false_or _).trans H.l);refine QI (fun b1 => ?_) (fun b1 => ?_)
  ·cases b1
  ·refine Qc (by exact hd) ?_
   iterate 7 refine Qc (by first|rfl|exact qlr _|exact qRr|exact trivial) ?_
   refine KY fun a1 => ?_;refine KX fun g1 => ?_;exact K7 rfl rfl
end Go.Proofs.Ytbpffdkemeoajaa
