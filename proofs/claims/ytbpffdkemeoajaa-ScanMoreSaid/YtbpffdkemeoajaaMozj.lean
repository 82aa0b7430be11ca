/- - -/
import Derived.Test.YtbpffdkemeoajaaMozh
import Derived.Test.YtbpffdkemeoajaaMozi
open Go.IntKind (i64)
set_option maxRecDepth 100000
namespace Go.Proofs.Ytbpffdkemeoajaa
open Go Go.SX
def nrA(b:Int)(k c:Nat)(t:Nat→Nat→Int):Nat→Nat→Int:=fun i=>bif decide (i=k)then Qy [.int false .i64 (min (t k (c+4)) (i64.wrap (t k (c+3)+i64.wrap b)))] (c+3) (t k)else t i
def nrB(b:Int)(k c:Nat)(t:Nat→Nat→Int):Nat→Nat→Int:=fun i=>bif decide (i=k)then Qy [.int false .i64 (max (t k (c+1)) (i64.wrap (t k (c+2)-i64.wrap ((i64.wrap b).tdiv 8))))] (c+2) (t k)else t i
def thG(t0:Nat→Nat→Int)(k:Nat)(b:Int):Nat→Nat→Nat→Int
 | 0=>t0
 | s+1=>cond (thG t0 k b s k (7*s) != 0) (nrB b k (7*s) (nrA b k (7*s) (thG t0 k b s))) (thG t0 k b s)
variable {b:Int}(x:QB)
theorem QAb{t0:Nat→Nat→Int}{k:Nat}{s:Nat}(h:(thG t0 k b s k (7*s) != 0)=true):thG t0 k b (s+1)=nrB b k (7*s) (nrA b k (7*s) (thG t0 k b s)):=by rw[thG,h];rfl
theorem HD{t0:Nat→Nat→Int}{k:Nat}{s:Nat}(h:(thG t0 k b s k (7*s) != 0)=false):thG t0 k b (s+1)=thG t0 k b s:=by rw[thG,h];rfl
theorem QD9{t0:Nat→Nat→Int}{k:Nat}{b:Int}{i:Nat}(h:i≠k):∀ s,thG t0 k b s i=t0 i
 | 0=>rfl
 | s+1=>by
  rw[thG];cases thG t0 k b s k (7*s) != 0
  ·exact QD9 h s
  ·show nrB b k (7*s) (nrA b k (7*s) (thG t0 k b s)) i=t0 i;unfold nrB nrA;simp only[decide_eq_false h,cond_false];exact QD9 h s
def nrV(b:Int)(f:Nat→Int)(j:Nat):Int:=
 if f (7*(j / 7))=0 then f j else if j % 7=2 then max (f (j-1)) (i64.wrap (f j-i64.wrap ((i64.wrap b).tdiv 8)))else if j % 7=3 then min (f (j+1)) (i64.wrap (f j+i64.wrap b))else f j
theorem QAy(b:Int)(k c:Nat)(t:Nat→Nat→Int)(j:Nat):nrB b k c (nrA b k c t) k j=if j=c+2 then max (t k (c+1)) (i64.wrap (t k (c+2)-i64.wrap ((i64.wrap b).tdiv 8)))else if j=c+3 then min (t k (c+4)) (i64.wrap (t k (c+3)+i64.wrap b))else t k j:=by
 have hA:∀ j,nrA b k c t k j=if j=c+3 then min (t k (c+4)) (i64.wrap (t k (c+3)+i64.wrap b))else t k j:=fun j=>by
  unfold nrA;simp only[decide_true,cond_true];rw[qW]
  by_cases h:j=c+3
  ·subst h;rw[if_pos ⟨qlr _,by simp⟩,Nat.sub_self,if_pos rfl];rfl
  ·rw[if_neg h,if_neg (by simp only[List.length_cons,List.length_nil];omega)]
 unfold nrB;simp only[decide_true,cond_true];rw[qW]
 by_cases h:j=c+2
 ·subst h;rw[if_pos ⟨qlr _,by simp⟩,Nat.sub_self,if_pos rfl]
  show max _ _=_;rw[hA,hA,if_neg (by omega),if_neg (by omega)]
 ·rw[if_neg h,if_neg (by simp only[List.length_cons,List.length_nil];omega),hA]
theorem QG5(t0:Nat→Nat→Int)(k:Nat)(b:Int):∀ s j,thG t0 k b s k j=if j<7*s then nrV b (t0 k) j else t0 k j
 | 0,j=>by rw[if_neg (by omega)];rfl
 | s+1,j=>by
  have ih:=QG5 t0 k b s;have h0:=ih (7*s);rw[if_neg (qli _)]at h0;rw[thG]
  by_cases hj:j<7*s
  ·have e:thG t0 k b s k j=nrV b (t0 k) j:=by rw[ih,if_pos hj]
   rw[if_pos (by omega),←e]
   cases thG t0 k b s k (7*s) != 0
   ·rfl
   ·exact(QAy ..).trans (by rw[if_neg (by omega),if_neg (by omega)])
  ·by_cases hj2:j<7*(s+1)
   ·have hd:j / 7=s:=by omega
    rw[if_pos hj2];unfold nrV;rw[hd,h0]
    by_cases hz:t0 k (7*s)=0
    ·rw[if_pos hz,hz];exact(ih j).trans (if_neg hj)
    ·rw[if_neg hz,show(t0 k (7*s) != 0)=true by simpa using hz]
     refine(QAy ..).trans ?_
     by_cases h2:j=7*s+2
     ·subst h2;rw[if_pos rfl,if_pos (by omega),ih,ih,if_neg (by omega),if_neg (by omega)];rfl
     ·rw[if_neg h2,if_neg (show ¬ j % 7=2 by omega)]
      by_cases h3:j=7*s+3
      ·subst h3;rw[if_pos rfl,if_pos (by omega),ih,ih,if_neg (by omega),if_neg (by omega)]
      ·rw[if_neg h3,if_neg (show ¬ j % 7=3 by omega),ih,if_neg hj]
   ·rw[if_neg hj2];cases thG t0 k b s k (7*s) != 0
    ·exact(ih j).trans (if_neg hj)
    ·exact(QAy ..).trans (by rw[if_neg (by omega),if_neg (by omega),ih,if_neg hj])
def thS(k:Nat)(b:Int)(i:Nat):QK:=QA.dec (thG (fun i=>QA.enc (x.scans.get i)) k b 4 i)
theorem QS8(k:Nat)(b:Int)(n:Nat):QE 28 n (thG (fun i=>QA.enc (x.scans.get i)) k b 4) (fun i=>QA.enc (thS x k b i)):=fun i _=>by
 show eqF 28 0 _ _;exact⟨rfl,rfl,rfl,rfl,rfl,rfl,rfl,rfl,rfl,rfl,rfl,rfl,rfl,rfl,rfl,rfl,rfl,rfl,rfl,rfl,rfl,rfl,rfl,rfl,rfl,rfl,rfl,rfl,trivial⟩
theorem QGu(f:Nat→Int){i:Nat}(hi:i<4):JB (QA.dec f:QK) i=⟨f (7*i),⟨f (7*i+1),f (7*i+2)⟩,⟨f (7*i+3),f (7*i+4)⟩,⟨f (7*i+5),f (7*i+6)⟩⟩:=by
 rcases(by omega:i=0∨i=1∨i=2∨i=3)with rfl|rfl|rfl|rfl<;>rfl
theorem QNH{s:QK}(h:s.ok=true){i:Nat}(hi:i<4):(JB s i).ok=true:=by
 simp only[QK.ok,qbA]at h;rcases(by omega:i=0∨i=1∨i=2∨i=3)with rfl|rfl|rfl|rfl
 ·exact h.1
 ·exact h.2.1
 ·exact h.2.2.1
 ·exact h.2.2.2
theorem QWe{e:Edge}(h:e.ok=true):ZP e e:=⟨rfl,fun hk=>by
 rw[Edge.ok_iff]at h;unfold Wb;omega⟩
theorem QQv{x:QB}(hx:x.ok=true)(k:Nat)(h0:0≤b)(h1:b≤255):∀ j,j<x.scans.n→∀ i,i<4→ZP (JB (thS x k b j) i) (JB (x.scans.get j) i):=by
 intro j hj i hi;have hok:=QNH ((QMw hx).2 j hj) hi
 by_cases hk:j=k
 ·subst hk;have e:JB (x.scans.get j) i=JB (QA.dec (QA.enc (x.scans.get j)):QK) i:=rfl;rw[e,QGu _ hi]at hok ⊢;unfold thS;rw[QGu _ hi]
  have hv:∀ m,m<7→thG (fun i=>QA.enc (x.scans.get i)) j b 4 j (7*i+m)=nrV b (QA.enc (x.scans.get j)) (7*i+m):=fun m hm=>by
   rw[QG5,if_pos (by omega)]
  generalize thG (fun i=>QA.enc (x.scans.get i)) j b 4 j=f' at hv;generalize (QA.enc (x.scans.get j):Nat→Int)=f at hv hok
  have v:∀ m,m<7→f' (7*i+m)=if f (7*i)=0 then f (7*i+m)else if m=2 then max (f (7*i+m-1)) (i64.wrap (f (7*i+m)-i64.wrap ((i64.wrap b).tdiv 8)))else if m=3 then min (f (7*i+m+1)) (i64.wrap (f (7*i+m)+i64.wrap b))else f (7*i+m):=fun m hm=>by
   rw[hv m hm];unfold nrV;rw[show(7*i+m) / 7=i by omega,show(7*i+m) % 7=m by omega]
  have v0:=v 0 (by omega)
  have v1:=v 1 (by omega)
  have v2:=v 2 (by omega)
  have v3:=v 3 (by omega)
  have v4:=v 4 (by omega)
  have v5:=v 5 (by omega)
  have v6:=v 6 (by omega)
  simp only[Nat.add_zero,show ¬ (0:Nat)=2 by omega,show ¬ (0:Nat)=3 by omega,show ¬ (1:Nat)=2 by omega,show ¬ (1:Nat)=3 by omega,show ¬ (4:Nat)=2 by omega,show ¬ (4:Nat)=3 by omega,show ¬ (5:Nat)=2 by omega,show ¬ (5:Nat)=3 by omega,show ¬ (6:Nat)=2 by omega,show ¬ (6:Nat)=3 by omega,show ¬ (3:Nat)=2 by omega,if_true,if_false,ite_self]at v0 v1 v2 v3 v4 v5 v6
  rw[v0,v1,v4,v5,v6];refine⟨rfl,fun hz => ?_⟩;have hz:f (7*i)≠0:=hz;rw[if_neg hz]at v2 v3;rw[Edge.ok_iff]at hok;simp only at hok;have wb:i64.wrap b=b:=w64 (by omega) (by omega)
  have tb:0≤b.tdiv 8∧b.tdiv 8≤b:=by rw[Int.tdiv_eq_ediv_of_nonneg h0];omega
  have wt:i64.wrap (b.tdiv 8)=b.tdiv 8:=w64 (by omega) (by omega)
  rw[wb,wt]at v2;rw[wb]at v3;have w2:i64.wrap (f (7*i+2)-b.tdiv 8)=f (7*i+2)-b.tdiv 8:=w64 (by omega) (by omega)
  have w3:i64.wrap (f (7*i+3)+b)=f (7*i+3)+b:=w64 (by omega) (by omega)
  rw[w2]at v2;rw[w3]at v3;rw[show 7*i+2-1=7*i+1 by omega]at v2
  rw[show 7*i+3+1=7*i+4 by omega]at v3
  rw[v2,v3];have hk:=hok.resolve_left hz;refine⟨rfl,?_,?_,?_⟩
  ·show f (7*i+1)≤f (7*i+1)∧f (7*i+1)≤max (f (7*i+1)) (f (7*i+2)-b.tdiv 8)∧max (f (7*i+1)) (f (7*i+2)-b.tdiv 8)≤f (7*i+2);omega
  ·show f (7*i+3)≤min (f (7*i+4)) (f (7*i+3)+b)∧min (f (7*i+4)) (f (7*i+3)+b)≤f (7*i+4)∧f (7*i+4)≤f (7*i+4);omega
  ·show f (7*i+5)≤f (7*i+5)∧f (7*i+5)≤f (7*i+6)∧f (7*i+6)≤f (7*i+6);omega
 ·have e:thS x k b j=x.scans.get j:=by
   unfold thS;rw[QD9 hk];rfl
  rw[e];exact QWe hok
theorem ZC{m n:Nat}{g g' h:Nat→Nat→Int}(q:g'=h)(e:QE m n g h):QE m n g g':=q ▸ e
set_option maxHeartbeats 3200000 in
theorem QTG(o:Mor)(lo fo:Int)(b:U8n)(k:Nat)(hk:k<x.scans.n):Kz (fun s=>Yc x o lo fo b k (thG (fun i=>QA.enc (x.scans.get i)) k b.n s) s) (fun s=>s≤4) (fun s=>4-s) (fun _ e J=>e = .exit 0∧J=zp x o lo fo (thS x k b.n)) 8 QGT [] (mkF Try.prog KT) (fun _=>hnd (mkF Try.prog KT) 3) (QV Try.f9 0):=by
 refine⟨fun s g hs=>Q5 (QT8 x o lo fo b k (thG (fun i=>QA.enc (x.scans.get i)) k b.n s) s g) ?_⟩;have hs:s≤4:=hs;refine QI (fun b0 => ?_) (fun b0 => ?_)
 ·refine QG (by simp;omega) ?_
  refine QG (by have:=qdt b0;simp;omega) ?_
  refine QI (fun b1 => ?_) (fun b1 => ?_)
  ·refine QG (by exact decide_eq_true hk) ?_
   refine QI (fun b2 => ?_) (fun b2 => ?_)
   ·refine QG (by exact decide_eq_true hk) ?_
    refine QG (by exact decide_eq_true hk) ?_
    refine QG (by exact decide_eq_true hk) ?_
    refine QG (by exact decide_eq_true hk) ?_
    refine QG (by exact decide_eq_true hk) ?_
    refine QG (by exact decide_eq_true hk) ?_
    have e:s=0:=by have:=qdt b1;omega
    subst e;have q:thG (fun i=>QA.enc (x.scans.get i)) k b.n 1=_:=QAb (s:=0) b2;refine⟨1,by decide,by decide,fun _ _ r=>r,rfl,rfl,_,QQS ..,?_⟩
    repeat' first|with_reducible refine QR ?_ ?_|exact ZC q (qRr)|exact trivial|with_reducible rfl|exact qlr _|exact qRr|exact(by decide)|refine And.intro ?_ ?_
   ·have e:s=0:=by have:=qdt b1;omega
    subst e;have q:thG (fun i=>QA.enc (x.scans.get i)) k b.n 1=_:=HD (s:=0) b2;refine⟨1,by decide,by decide,fun _ _ r=>r,rfl,rfl,_,G6 ..,?_⟩
    repeat' first|with_reducible refine QR ?_ ?_|exact ZC q (qRr)|exact trivial|with_reducible rfl|exact qlr _|exact qRr|exact(by decide)|refine And.intro ?_ ?_
  ·refine QI (fun b3 => ?_) (fun b3 => ?_)
   ·refine QG (by exact decide_eq_true hk) ?_
    refine QI (fun b4 => ?_) (fun b4 => ?_)
    ·refine QG (by exact decide_eq_true hk) ?_
     refine QG (by exact decide_eq_true hk) ?_
     refine QG (by exact decide_eq_true hk) ?_
     refine QG (by exact decide_eq_true hk) ?_
     refine QG (by exact decide_eq_true hk) ?_
     refine QG (by exact decide_eq_true hk) ?_
     have e:s=1:=by have:=qdt b3;omega
     subst e;have q:thG (fun i=>QA.enc (x.scans.get i)) k b.n 2=_:=QAb (s:=1) b4;refine⟨2,by decide,by decide,fun _ _ r=>r,rfl,rfl,_,QNh ..,?_⟩
     repeat' first|with_reducible refine QR ?_ ?_|exact ZC q (qRr)|exact trivial|with_reducible rfl|exact qlr _|exact qRr|exact(by decide)|refine And.intro ?_ ?_
    ·have e:s=1:=by have:=qdt b3;omega
     subst e;have q:thG (fun i=>QA.enc (x.scans.get i)) k b.n 2=_:=HD (s:=1) b4;refine⟨2,by decide,by decide,fun _ _ r=>r,rfl,rfl,_,G6 ..,?_⟩
     repeat' first|with_reducible refine QR ?_ ?_|exact ZC q (qRr)|exact trivial|with_reducible rfl|exact qlr _|exact qRr|exact(by decide)|refine And.intro ?_ ?_
   ·refine QI (fun b5 => ?_) (fun b5 => ?_)
    ·refine QG (by exact decide_eq_true hk) ?_
     refine QI (fun b6 => ?_) (fun b6 => ?_)
     ·refine QG (by exact decide_eq_true hk) ?_
      refine QG (by exact decide_eq_true hk) ?_
      refine QG (by exact decide_eq_true hk) ?_
      refine QG (by exact decide_eq_true hk) ?_
      refine QG (by exact decide_eq_true hk) ?_
      refine QG (by exact decide_eq_true hk) ?_
      have e:s=2:=by have:=qdt b5;omega
      subst e;have q:thG (fun i=>QA.enc (x.scans.get i)) k b.n 3=_:=QAb (s:=2) b6;refine⟨3,by decide,by decide,fun _ _ r=>r,rfl,rfl,_,QOz ..,?_⟩
      repeat' first|with_reducible refine QR ?_ ?_|exact ZC q (qRr)|exact trivial|with_reducible rfl|exact qlr _|exact qRr|exact(by decide)|refine And.intro ?_ ?_
     ·have e:s=2:=by have:=qdt b5;omega
      subst e;have q:thG (fun i=>QA.enc (x.scans.get i)) k b.n 3=_:=HD (s:=2) b6;refine⟨3,by decide,by decide,fun _ _ r=>r,rfl,rfl,_,G6 ..,?_⟩
      repeat' first|with_reducible refine QR ?_ ?_|exact ZC q (qRr)|exact trivial|with_reducible rfl|exact qlr _|exact qRr|exact(by decide)|refine And.intro ?_ ?_
    ·refine QG (by exact decide_eq_true hk) ?_
     refine QI (fun b7 => ?_) (fun b7 => ?_)
     ·refine QG (by exact decide_eq_true hk) ?_
      refine QG (by exact decide_eq_true hk) ?_
      refine QG (by exact decide_eq_true hk) ?_
      refine QG (by exact decide_eq_true hk) ?_
      refine QG (by exact decide_eq_true hk) ?_
      refine QG (by exact decide_eq_true hk) ?_
      have e:s=3:=by have h0:=qdt b0;have h1:=of_decide_eq_false b1;have h2:=of_decide_eq_false b3;have h3:=of_decide_eq_false b5;omega
      subst e;have q:thG (fun i=>QA.enc (x.scans.get i)) k b.n 4=_:=QAb (s:=3) b7;refine⟨4,by decide,by decide,fun _ _ r=>r,rfl,rfl,_,QSB ..,?_⟩
      repeat' first|with_reducible refine QR ?_ ?_|exact ZC q (qRr)|exact trivial|with_reducible rfl|exact qlr _|exact qRr|exact(by decide)|refine And.intro ?_ ?_
     ·have e:s=3:=by have h0:=qdt b0;have h1:=of_decide_eq_false b1;have h2:=of_decide_eq_false b3;have h3:=of_decide_eq_false b5;omega
      subst e;have q:thG (fun i=>QA.enc (x.scans.get i)) k b.n 4=_:=HD (s:=3) b7;refine⟨4,by decide,by decide,fun _ _ r=>r,rfl,rfl,_,G6 ..,?_⟩
      repeat' first|with_reducible refine QR ?_ ?_|exact ZC q (qRr)|exact trivial|with_reducible rfl|exact qlr _|exact qRr|exact(by decide)|refine And.intro ?_ ?_
 ·have e:s=4:=by have:=of_decide_eq_false b0;omega
  subst e;refine⟨_,⟨rfl,rfl⟩,rfl,rfl,_,QO3 ..,?_⟩
  repeat' first|with_reducible refine QR ?_ ?_|exact QS8 x k b.n _|exact trivial|with_reducible rfl|exact qlr _|exact qRr|refine And.intro ?_ ?_
structure QIx (o:Mor) (p:List Int) (q:List QC):Prop where
 n:p.length≤1000
 c:o.cells.length=p.length
 t:o.told.length=p.length
 l:q.length=p.length
 hc:∀ k,k<p.length→(i64.wrap ((BitVec.ofInt 64 (p.getD k 0) &&& ~~~BitVec.ofInt 64 (o.cells.getD k 0)).toNat:Nat) != 0)=false
 ht:∀ k,k<p.length→(((o.told.getD k ⟨0,0⟩).cell != -1)&&((q.getD k ⟨0,0⟩).cell != (o.told.getD k ⟨0,0⟩).cell))=false
set_option maxHeartbeats 3200000 in
theorem QQE(two:Bool)(x:QB)(o:Mor)(lo fo:Int)(sc:Nat→QK)(j:Nat)(p:List Int)(q:List QC)(H:QIx o p q):Kz (fun k=>qU two x o lo fo sc j p q k) (fun k=>k≤p.length) (fun k=>p.length-k) (fun _ e J=>e = .exit 4∧J=HY two x o lo fo sc j) 8 QDO [] (mkE Try.prog KT) (fun _=>hnd (mkE Try.prog KT) 3) (Xl (QV Try.f9 1)):=by
 have h1:=H.c;have h2:=H.t;have h3:=H.l;cases two with
 | false=>
  refine⟨fun k g hk=>Q5 (QVe x o lo fo sc j p q k g) ?_⟩;have hk:k≤p.length:=hk;refine QI (fun b0 => ?_) (fun b0 => ?_)
  ·refine QG (by have:=qdt b0;simp;omega) ?_
   refine QG (by have:=qdt b0;simp;omega) ?_
   refine QG (by have:=qdt b0;simp;omega) ?_
   refine QG (by have:=qdt b0;simp;omega) ?_
   refine QI (fun b1 => ?_) (fun b1 => ?_)
   ·rw[H.hc k (by have:=qdt b0;omega)]at b1;cases b1
   ·refine QG (by have:=qdt b0;simp;omega) ?_
    refine QG (by have:=qdt b0;simp;omega) ?_
    refine QI (fun b2 => ?_) (fun b2 => ?_)
    ·refine QG (by have:=qdt b0;simp;omega) ?_
     refine QG (by have:=qdt b0;simp;omega) ?_
     refine QG (by have:=qdt b0;simp;omega) ?_
     refine QG (by have:=qdt b0;simp;omega) ?_
     refine QI (fun b3 => ?_) (fun b3 => ?_)
     ·have:=H.ht k (by have:=qdt b0;omega);rw[b2,b3]at this;cases this
     ·have h:k<p.length:=by have:=qdt b0;omega
      refine⟨k+1,h,by show p.length-(k+1)<p.length-k;omega,fun _ _ r=>r,rfl,rfl,_,QGd ..,?_⟩
      repeat' first|with_reducible refine QR ?_ ?_|exact trivial|with_reducible rfl|exact qlr _|exact qRr|exact Ks h H.n|refine And.intro ?_ ?_
    ·have h:k<p.length:=by have:=qdt b0;omega
     refine⟨k+1,h,by show p.length-(k+1)<p.length-k;omega,fun _ _ r=>r,rfl,rfl,_,QGd ..,?_⟩
     repeat' first|with_reducible refine QR ?_ ?_|exact trivial|with_reducible rfl|exact qlr _|exact qRr|exact Ks h H.n|refine And.intro ?_ ?_
  ·have h:k=p.length:=by have:=of_decide_eq_false b0;omega
   subst h;refine⟨_,⟨rfl,rfl⟩,rfl,rfl,_,QOx ..,?_⟩
   repeat' first|with_reducible refine QR ?_ ?_|exact trivial|with_reducible rfl|exact qlr _|exact qRr|refine And.intro ?_ ?_
 | true=>
  refine⟨fun k g hk=>Q5 (QWF x o lo fo sc j p q k g) ?_⟩;have hk:k≤p.length:=hk;refine QI (fun b0 => ?_) (fun b0 => ?_)
  ·refine QG (by have:=qdt b0;simp;omega) ?_
   refine QG (by have:=qdt b0;simp;omega) ?_
   refine QG (by have:=qdt b0;simp;omega) ?_
   refine QG (by have:=qdt b0;simp;omega) ?_
   refine QI (fun b1 => ?_) (fun b1 => ?_)
   ·rw[H.hc k (by have:=qdt b0;omega)]at b1;cases b1
   ·refine QG (by have:=qdt b0;simp;omega) ?_
    refine QG (by have:=qdt b0;simp;omega) ?_
    refine QI (fun b2 => ?_) (fun b2 => ?_)
    ·refine QG (by have:=qdt b0;simp;omega) ?_
     refine QG (by have:=qdt b0;simp;omega) ?_
     refine QG (by have:=qdt b0;simp;omega) ?_
     refine QG (by have:=qdt b0;simp;omega) ?_
     refine QI (fun b3 => ?_) (fun b3 => ?_)
     ·have:=H.ht k (by have:=qdt b0;omega);rw[b2,b3]at this;cases this
     ·have h:k<p.length:=by have:=qdt b0;omega
      refine⟨k+1,h,by show p.length-(k+1)<p.length-k;omega,fun _ _ r=>r,rfl,rfl,_,QHq ..,?_⟩
      repeat' first|with_reducible refine QR ?_ ?_|exact trivial|with_reducible rfl|exact qlr _|exact qRr|exact Ks h H.n|refine And.intro ?_ ?_
    ·have h:k<p.length:=by have:=qdt b0;omega
     refine⟨k+1,h,by show p.length-(k+1)<p.length-k;omega,fun _ _ r=>r,rfl,rfl,_,QHq ..,?_⟩
     repeat' first|with_reducible refine QR ?_ ?_|exact trivial|with_reducible rfl|exact qlr _|exact qRr|exact Ks h H.n|refine And.intro ?_ ?_
  ·have h:k=p.length:=by have:=of_decide_eq_false b0;omega
   subst h;refine⟨_,⟨rfl,rfl⟩,rfl,rfl,_,QUg ..,?_⟩
   repeat' first|with_reducible refine QR ?_ ?_|exact trivial|with_reducible rfl|exact qlr _|exact qRr|refine And.intro ?_ ?_
structure jS (o:Mor) (p:List Int):Prop where
 n:p.length≤1000
 c:o.cells.length=p.length
 hc:∀ k,k<p.length→(i64.wrap ((BitVec.ofInt 64 (o.cells.getD k 0) &&& ~~~BitVec.ofInt 64 (p.getD k 0)).toNat:Nat) != 0)=false
set_option maxHeartbeats 3200000 in
theorem QO4(o:Mor)(p:List Int)(H:jS o p):Kz (fun k=>jl o p k) (fun k=>k≤p.length) (fun k=>p.length-k) (fun _ e J=>e = .exit 6∧J=QAu) 8 QM4 [] (mkS Try.prog KT) (fun _=>hnd (mkS Try.prog KT) 3) (QV Try.f9 2):=by
 have h1:=H.c;refine⟨fun k g hk=>Q5 (QOK o p k g) ?_⟩;have hk:k≤p.length:=hk;refine QI (fun b0 => ?_) (fun b0 => ?_)
 ·refine QG (by have:=qdt b0;simp;omega) ?_
  refine QG (by have:=qdt b0;simp;omega) ?_
  refine QG (by have:=qdt b0;simp;omega) ?_
  refine QG (by have:=qdt b0;simp;omega) ?_
  refine QI (fun b1 => ?_) (fun b1 => ?_)
  ·rw[H.hc k (by have:=qdt b0;omega)]at b1;cases b1
  ·have h:k<p.length:=by have:=qdt b0;omega
   refine⟨k+1,h,by show p.length-(k+1)<p.length-k;omega,fun _ _ r=>r,rfl,rfl,_,QOC ..,?_⟩
   repeat' first|with_reducible refine QR ?_ ?_|exact trivial|with_reducible rfl|exact qlr _|exact qRr|exact Ks h H.n|refine And.intro ?_ ?_
 ·exact⟨_,⟨rfl,rfl⟩,rfl,rfl,_,QNG,trivial⟩
def loO:Mor:=⟨(QF x).1,(QF x).2.1,(QF x).2.2,(QL x).1⟩
def loY(two:Bool)(x:QB)(lo fo:Int)(sc:Nat→QK):Nat→QB
 | 0=>QB.mk x.d x.scans x.hang lo x.foreign
 | 1=>QB.mk x.d x.scans x.hang x.lost fo
 | _=>cond two (QB.mk x.d (Rw.mk x.scans.n fun i=>sc (i+0)) x.hang x.lost x.foreign) x
theorem V7:(QF x).2.2=KM x:=(QDR x).1
theorem QTp:((QF x).2.2 != (QL x).2)=false:=by rw[V7,QJd];simp
structure QRH (x y:QB):Prop where
 f0:((QF y).2.2==0&&(QF x).2.2 != 0)=false
 f1:((QF y).2.2 != (QL y).2)=false
 f2:KM y=0→(((QF y).1.length:Int) != ((QF x).1.length:Int)||((QL y).1.length:Int) != ((QL x).1.length:Int))=false
 f3:KM y=0→(i64.wrap ((BitVec.ofInt 64 (QF y).2.1 &&& ~~~BitVec.ofInt 64 (QF x).2.1).toNat:Nat) != 0)=false
 h:KM y=0→QIx (loO x) (QF y).1 (QL y).1
theorem Wh{x y:QB}(hx:x.ok=true)(h:Jg y x):QRH x y:=by
 have ls:=fun he=>QMm hx h he;have hs:=(VI hx).s;refine⟨?_,QTp y,fun he => ?_,fun he => ?_,fun he => ?_⟩
 ·rw[V7,V7];cases q:KM y==0 with
  | false=>rfl
  | true=>
   have:=QFM hx h (by simpa using q)
   rw[this];rfl
 ·rw[(ls he).l1,(ls he).l2];simp
 ·rw[(ls he).al];rfl
 ·have l:=ls he;have n1:(QF y).1.length=x.scans.n:=by rw[l.l1,l.c]
  refine⟨by omega,?_,?_,?_,fun k hk => ?_,fun k hk=>l.to k (by omega)⟩
  ·show(QF x).1.length=_;rw[l.l1]
  ·show(QL x).1.length=_;rw[l.t,n1]
  ·rw[l.l2,l.t,n1]
  ·have:=l.ce k (by omega)
   show(i64.wrap ((BitVec.ofInt 64 ((QF y).1.getD k 0) &&& ~~~BitVec.ofInt 64 ((QF x).1.getD k 0)).toNat:Nat) != 0)=false;rw[this];rfl
set_option maxHeartbeats 6400000 in
theorem QQT(lo fo:Int)(sc:Nat→QK)(hx:x.ok=true)(hl:∀ j,Jg (loY false x lo fo sc j) x):Kz (fun j=>JJ false x (loO x) lo fo sc j) (fun j=>j≤3) (fun j=>3-j) (fun _ e J=>e = .exit 2∧J=ZL x (loO x)) 8 YH [] (mkS Try.prog KT) (fun j=>Xj Try.prog false x (loO x) lo fo sc j (loY false x lo fo sc j)) (QV Try.f9 1):=by
 have hg:=VI hx;have hd:=hg.d.n9;have hs:=hg.s;have hn:=hg.n;refine⟨fun j g hj => ?_⟩;rcases(by have:=hj;omega:j=0∨j=1∨j=2∨j=3)with rfl|rfl|rfl|rfl
 ·have H:=Wh hx (hl 0);refine Q5 (QVP x (loO x) lo fo sc (loY false x lo fo sc 0) g) ?_;refine QG (by simp;omega) ?_
  refine QG (by simp;omega) ?_
  iterate 3 refine Kx ?_
  refine qe ?_;refine KY fun z0 y0 => ?_;obtain rfl:z0=false:=y0.trans (H.f0);refine K3 ?_;refine KY fun z1 y1 => ?_;obtain rfl:z1=false:=y1.trans ((Bool.or_false _).trans H.f1);refine QI (fun b0 => ?_) (fun b0 => ?_)
  ·cases b0
  ·refine QI (fun b1 => ?_) (fun b1 => ?_)
   ·refine⟨1,by decide,by decide,fun _ _ r=>r,rfl,rfl,_,QMX ..,?_⟩
    repeat' first|with_reducible refine QR ?_ ?_|exact trivial|with_reducible rfl|exact qlr _|exact qRr|refine And.intro ?_ ?_
   ·have h0:KM (loY false x lo fo sc 0)=0:=(V7 _).symm.trans (bne_eq_false_iff_eq.1 b1)
    iterate 2 refine Kx ?_
    refine J6 ?_;refine K3 ?_;refine KY fun z2 y2 => ?_;obtain rfl:z2=false:=y2.trans (H.f2 h0);refine J6 ?_;refine Kx ?_;refine K3 ?_;refine KY fun z3 y3 => ?_;obtain rfl:z3=false:=y3.trans ((Bool.false_or _).trans (H.f3 h0));refine QI (fun b2 => ?_) (fun b2 => ?_)
    ·cases b2
    ·iterate 114 refine QU (by first|exact h0|rfl|exact qlr _|exact qRr|exact trivial) ?_
     refine KB fun a0 => ?_;refine KE fun g0 => ?_;refine⟨1,by decide,by decide,fun _ _ r=>r,rfl,rfl,_,QMX ..,?_⟩
     repeat' first|with_reducible refine QR ?_ ?_|exact trivial|with_reducible rfl|exact qlr _|exact qRr|refine And.intro ?_ ?_
 ·have H:=Wh hx (hl 1);refine Q5 (QVS x (loO x) lo fo sc (loY false x lo fo sc 1) g) ?_;refine QG (by simp;omega) ?_
  refine QG (by simp;omega) ?_
  iterate 3 refine Kx ?_
  refine qe ?_;refine KY fun z0 y0 => ?_;obtain rfl:z0=false:=y0.trans (H.f0);refine K3 ?_;refine KY fun z1 y1 => ?_;obtain rfl:z1=false:=y1.trans ((Bool.or_false _).trans H.f1);refine QI (fun b0 => ?_) (fun b0 => ?_)
  ·cases b0
  ·refine QI (fun b1 => ?_) (fun b1 => ?_)
   ·refine⟨2,by decide,by decide,fun _ _ r=>r,rfl,rfl,_,QHK ..,?_⟩
    repeat' first|with_reducible refine QR ?_ ?_|exact trivial|with_reducible rfl|exact qlr _|exact qRr|refine And.intro ?_ ?_
   ·have h0:KM (loY false x lo fo sc 1)=0:=(V7 _).symm.trans (bne_eq_false_iff_eq.1 b1)
    iterate 2 refine Kx ?_
    refine J6 ?_;refine K3 ?_;refine KY fun z2 y2 => ?_;obtain rfl:z2=false:=y2.trans (H.f2 h0);refine J6 ?_;refine Kx ?_;refine K3 ?_;refine KY fun z3 y3 => ?_;obtain rfl:z3=false:=y3.trans ((Bool.false_or _).trans (H.f3 h0));refine QI (fun b2 => ?_) (fun b2 => ?_)
    ·cases b2
    ·iterate 114 refine QU (by first|exact h0|rfl|exact qlr _|exact qRr|exact trivial) ?_
     refine KB fun a0 => ?_;refine KE fun g0 => ?_;refine⟨2,by decide,by decide,fun _ _ r=>r,rfl,rfl,_,QHK ..,?_⟩
     repeat' first|with_reducible refine QR ?_ ?_|exact trivial|with_reducible rfl|exact qlr _|exact qRr|refine And.intro ?_ ?_
 ·have H:=Wh hx (hl 2);refine Q5 (QTN x (loO x) lo fo sc (loY false x lo fo sc 2) g) ?_;refine QG (by simp;omega) ?_
  refine QG (by simp;omega) ?_
  iterate 3 refine Kx ?_
  refine qe ?_;refine KY fun z0 y0 => ?_;obtain rfl:z0=false:=y0.trans (H.f0);refine K3 ?_;refine KY fun z1 y1 => ?_;obtain rfl:z1=false:=y1.trans ((Bool.or_false _).trans H.f1);refine QI (fun b0 => ?_) (fun b0 => ?_)
  ·cases b0
  ·refine QI (fun b1 => ?_) (fun b1 => ?_)
   ·refine⟨3,by decide,by decide,fun _ _ r=>r,rfl,rfl,_,QM5 ..,?_⟩
    repeat' first|with_reducible refine QR ?_ ?_|exact trivial|with_reducible rfl|exact qlr _|exact qRr|refine And.intro ?_ ?_
   ·have h0:KM (loY false x lo fo sc 2)=0:=(V7 _).symm.trans (bne_eq_false_iff_eq.1 b1)
    iterate 2 refine Kx ?_
    refine J6 ?_;refine K3 ?_;refine KY fun z2 y2 => ?_;obtain rfl:z2=false:=y2.trans (H.f2 h0);refine J6 ?_;refine Kx ?_;refine K3 ?_;refine KY fun z3 y3 => ?_;obtain rfl:z3=false:=y3.trans ((Bool.false_or _).trans (H.f3 h0));refine QI (fun b2 => ?_) (fun b2 => ?_)
    ·cases b2
    ·iterate 114 refine QU (by first|exact h0|rfl|exact qlr _|exact qRr|exact trivial) ?_
     refine KB fun a0 => ?_;refine KE fun g0 => ?_;refine⟨3,by decide,by decide,fun _ _ r=>r,rfl,rfl,_,QM5 ..,?_⟩
     repeat' first|with_reducible refine QR ?_ ?_|exact trivial|with_reducible rfl|exact qlr _|exact qRr|refine And.intro ?_ ?_
 ·refine Q5 (QWd x (loO x) lo fo sc (loY false x lo fo sc 3) g) ?_;refine⟨_,⟨rfl,rfl⟩,rfl,rfl,_,QWg ..,?_⟩
  repeat' first|with_reducible refine QR ?_ ?_|exact trivial|with_reducible rfl|exact qlr _|exact qRr|refine And.intro ?_ ?_
set_option maxHeartbeats 6400000 in
theorem QNB(lo fo:Int)(sc:Nat→QK)(hx:x.ok=true)(hl:∀ j,Jg (loY true x lo fo sc j) x):Kz (fun j=>JJ true x (loO x) lo fo sc j) (fun j=>j≤3) (fun j=>3-j) (fun _ e J=>e = .exit 2∧J=ZL x (loO x)) 8 YH [] (mkS Try.prog KT) (fun j=>Xj Try.prog true x (loO x) lo fo sc j (loY true x lo fo sc j)) (QV Try.f9 1):=by
 have hg:=VI hx;have hd:=hg.d.n9;have hs:=hg.s;have hn:=hg.n;refine⟨fun j g hj => ?_⟩;rcases(by have:=hj;omega:j=0∨j=1∨j=2∨j=3)with rfl|rfl|rfl|rfl
 ·have H:=Wh hx (hl 0);refine Q5 (QRE x (loO x) lo fo sc (loY true x lo fo sc 0) g) ?_;refine QG (by simp;omega) ?_
  refine QG (by simp;omega) ?_
  iterate 3 refine Kx ?_
  refine qe ?_;refine KY fun z0 y0 => ?_;obtain rfl:z0=false:=y0.trans (H.f0);refine K3 ?_;refine KY fun z1 y1 => ?_;obtain rfl:z1=false:=y1.trans ((Bool.or_false _).trans H.f1);refine QI (fun b0 => ?_) (fun b0 => ?_)
  ·cases b0
  ·refine QI (fun b1 => ?_) (fun b1 => ?_)
   ·refine⟨1,by decide,by decide,fun _ _ r=>r,rfl,rfl,_,QKf ..,?_⟩
    repeat' first|with_reducible refine QR ?_ ?_|exact trivial|with_reducible rfl|exact qlr _|exact qRr|refine And.intro ?_ ?_
   ·have h0:KM (loY true x lo fo sc 0)=0:=(V7 _).symm.trans (bne_eq_false_iff_eq.1 b1)
    iterate 2 refine Kx ?_
    refine J6 ?_;refine K3 ?_;refine KY fun z2 y2 => ?_;obtain rfl:z2=false:=y2.trans (H.f2 h0);refine J6 ?_;refine Kx ?_;refine K3 ?_;refine KY fun z3 y3 => ?_;obtain rfl:z3=false:=y3.trans ((Bool.false_or _).trans (H.f3 h0));refine QI (fun b2 => ?_) (fun b2 => ?_)
    ·cases b2
    ·iterate 116 refine QU (by first|exact h0|rfl|exact qlr _|exact qRr|exact trivial) ?_
     refine KB fun a0 => ?_;refine KE fun g0 => ?_;refine⟨1,by decide,by decide,fun _ _ r=>r,rfl,rfl,_,QKf ..,?_⟩
     repeat' first|with_reducible refine QR ?_ ?_|exact trivial|with_reducible rfl|exact qlr _|exact qRr|refine And.intro ?_ ?_
 ·have H:=Wh hx (hl 1);refine Q5 (QUy x (loO x) lo fo sc (loY true x lo fo sc 1) g) ?_;refine QG (by simp;omega) ?_
  refine QG (by simp;omega) ?_
  iterate 3 refine Kx ?_
  refine qe ?_;refine KY fun z0 y0 => ?_;obtain rfl:z0=false:=y0.trans (H.f0);refine K3 ?_;refine KY fun z1 y1 => ?_;obtain rfl:z1=false:=y1.trans ((Bool.or_false _).trans H.f1);refine QI (fun b0 => ?_) (fun b0 => ?_)
  ·cases b0
  ·refine QI (fun b1 => ?_) (fun b1 => ?_)
   ·refine⟨2,by decide,by decide,fun _ _ r=>r,rfl,rfl,_,QIw ..,?_⟩
    repeat' first|with_reducible refine QR ?_ ?_|exact trivial|with_reducible rfl|exact qlr _|exact qRr|refine And.intro ?_ ?_
   ·have h0:KM (loY true x lo fo sc 1)=0:=(V7 _).symm.trans (bne_eq_false_iff_eq.1 b1)
    iterate 2 refine Kx ?_
    refine J6 ?_;refine K3 ?_;refine KY fun z2 y2 => ?_;obtain rfl:z2=false:=y2.trans (H.f2 h0);refine J6 ?_;refine Kx ?_;refine K3 ?_;refine KY fun z3 y3 => ?_;obtain rfl:z3=false:=y3.trans ((Bool.false_or _).trans (H.f3 h0));refine QI (fun b2 => ?_) (fun b2 => ?_)
    ·cases b2
    ·iterate 116 refine QU (by first|exact h0|rfl|exact qlr _|exact qRr|exact trivial) ?_
     refine KB fun a0 => ?_;refine KE fun g0 => ?_;refine⟨2,by decide,by decide,fun _ _ r=>r,rfl,rfl,_,QIw ..,?_⟩
     repeat' first|with_reducible refine QR ?_ ?_|exact trivial|with_reducible rfl|exact qlr _|exact qRr|refine And.intro ?_ ?_
 ·have H:=Wh hx (hl 2);refine Q5 (QOp x (loO x) lo fo sc (loY true x lo fo sc 2) g) ?_;refine QG (by simp;omega) ?_
  refine QG (by simp;omega) ?_
  iterate 3 refine Kx ?_
  refine qe ?_;refine KY fun z0 y0 => ?_;obtain rfl:z0=false:=y0.trans (H.f0);refine K3 ?_;refine KY fun z1 y1 => ?_;obtain rfl:z1=false:=y1.trans ((Bool.or_false _).trans H.f1);refine QI (fun b0 => ?_) (fun b0 => ?_)
  ·cases b0
  ·refine QI (fun b1 => ?_) (fun b1 => ?_)
   ·refine⟨3,by decide,by decide,fun _ _ r=>r,rfl,rfl,_,QLk ..,?_⟩
    repeat' first|with_reducible refine QR ?_ ?_|exact trivial|with_reducible rfl|exact qlr _|exact qRr|refine And.intro ?_ ?_
   ·have h0:KM (loY true x lo fo sc 2)=0:=(V7 _).symm.trans (bne_eq_false_iff_eq.1 b1)
    iterate 2 refine Kx ?_
    refine J6 ?_;refine K3 ?_;refine KY fun z2 y2 => ?_;obtain rfl:z2=false:=y2.trans (H.f2 h0);refine J6 ?_;refine Kx ?_;refine K3 ?_;refine KY fun z3 y3 => ?_;obtain rfl:z3=false:=y3.trans ((Bool.false_or _).trans (H.f3 h0));refine QI (fun b2 => ?_) (fun b2 => ?_)
    ·cases b2
    ·iterate 116 refine QU (by first|exact h0|rfl|exact qlr _|exact qRr|exact trivial) ?_
     refine KB fun a0 => ?_;refine KE fun g0 => ?_;refine⟨3,by decide,by decide,fun _ _ r=>r,rfl,rfl,_,QLk ..,?_⟩
     repeat' first|with_reducible refine QR ?_ ?_|exact trivial|with_reducible rfl|exact qlr _|exact qRr|refine And.intro ?_ ?_
 ·refine Q5 (QW4 x (loO x) lo fo sc (loY true x lo fo sc 3) g) ?_;refine⟨_,⟨rfl,rfl⟩,rfl,rfl,_,QQe ..,?_⟩
  repeat' first|with_reducible refine QR ?_ ?_|exact trivial|with_reducible rfl|exact qlr _|exact qRr|refine And.intro ?_ ?_
def moK(wh:U8n):Nat:=((i64.wrap wh.n).tmod (x.scans.n:Int)).toNat
abbrev moL:Int:=max 0 (i64.wrap (x.lost-1))
abbrev moF:Int:=max 0 (i64.wrap (x.foreign-1))
abbrev moX:QB:=QB.mk x.d x.scans x.hang (min 9 (i64.wrap (x.lost+1))) (min 3 (i64.wrap (x.foreign+1)))
def moP(two:Bool)(x:QB)(sc:Nat→QK):Prop:=x.ok=true∧∀ j,Jg (loY two x (moL x) (moF x) sc j) x
def QAf(A B:St→(Ex→St→QD)→QD)(st:St)(K:Ex→St→QD):QD:=match QH st.tm 13 with
 | .tup []=>A st K
 | _=>B st K
theorem QR8{E:Env}{G:Ctx}{c:Code}{A B:St→(Ex→St→QD)→QD}(h1:JC E G c A)(h2:JC E G c B):JC E G c (QAf A B):=by
 intro st K T Q a w hn hd hr hQ;unfold QAf at hd;split at hd
 ·exact h1 st K T Q a w hn hd hr hQ
 ·exact h2 st K T Q a w hn hd hr hQ
abbrev moB(wh b:U8n):Code→St→(Ex→St→QD)→QD:=QLN [
 (11,Xo (moK x wh<x.scans.n) (KD 8 [] (Yc x (loO x) (moL x) (moF x) b (moK x wh) (fun i=>QA.enc (x.scans.get i)) (0:Nat)) [(True,.exit 0,zp x (loO x) (moL x) (moF x) (thS x (moK x wh) b.n))])),
 (19,QAf (Xo (moP false x x.scans.get) (KD 8 [] (JJ false x (loO x) (moL x) (moF x) x.scans.get 0) [(True,.exit 2,ZL x (loO x))])) (Xo (moP true x (thS x (moK x wh) b.n)) (KD 8 [] (JJ true x (loO x) (moL x) (moF x) (thS x (moK x wh) b.n) 0) [(True,.exit 2,ZL x (loO x))]))),
 (43,Xo (jS (loO x) (QF (moX x)).1) (KD 8 [] (jl (loO x) (QF (moX x)).1 (0:Nat)) [(True,.exit 6,QAu)]))]
abbrev moH(P:Program)(x:QB)(wh b:U8n):Hnd:={ hnd (mkS P KT) 1 with loop:=moB x wh b }
theorem QK2(two:Bool)(x:QB)(lo fo:Int)(sc:Nat→QK)(j:Nat)(y:QB)(hx:x.ok=true)(hy:Jg y x)(G:Ctx)(hrd:G.rd=none)(hG:G.n=8):Q9 (mkS Try.prog KT) G (Xj Try.prog two x (loO x) lo fo sc j y) (QV Try.f9 1):=by
 refine JM (body:=Xl (QV Try.f9 1)) (V5 Xi) hrd (by kernel_rfl) ?_
 refine jQ fun h0 => ?_;refine ZM (E:=mkE Try.prog KT) rfl (JE (n0:=8) (QT Xi) (by omega) (fun s hs=>Q0 (QT Xi) 3 G _ hrd) (fun s hs=>(by decide:8≤800)) ?_ (QQE two x (loO x) lo fo sc j (QF y).1 (QL y).1 ((Wh hx hy).h h0)) (s0:=0) (Nat.zero_le _) ?_)
 ·rintro s e J ⟨_,rfl⟩;exact(by decide:8≤800)
 ·rintro e J ⟨rfl,rfl⟩;exact⟨_,List.mem_cons_self,trivial,rfl,rfl⟩
theorem QSz(wh b:U8n)(G:Ctx)(hrd:G.rd=none)(hG:G.n=8):Q9 (mkS Try.prog KT) G (moH Try.prog x wh b) (Qr Try.f9):=by
 refine QGF (V5 Xi) hrd fun c hc => ?_;have he:Kj (Qr Try.f9)=[.loop (QV Try.f9 0),.loop (QV Try.f9 1),.loop (QV Try.f9 2)]:=by kernel_rfl
 rw[he]at hc;simp only[List.mem_cons,List.not_mem_nil,or_false]at hc;rcases hc with rfl|rfl|rfl
 ·have e1:moB x wh b (.loop (QV Try.f9 0))=Xo (moK x wh<x.scans.n) (KD 8 [] (Yc x (loO x) (moL x) (moF x) b (moK x wh) (fun i=>QA.enc (x.scans.get i)) (0:Nat)) [(True,.exit 0,zp x (loO x) (moL x) (moF x) (thS x (moK x wh) b.n))]):=by kernel_rfl
  rw[e1];refine jQ fun hp => ?_;refine ZM (E:=mkF Try.prog KT) rfl (JE (n0:=8) (ZR Xi) (by omega) (fun s hs=>Q0 (ZR Xi) 3 G _ hrd) (fun s hs=>(by decide:8≤536)) ?_ (QTG x (loO x) (moL x) (moF x) b (moK x wh) hp) (s0:=0) (Nat.zero_le _) ?_)
  ·rintro s e J ⟨_,rfl⟩;exact(by decide:8≤536)
  ·rintro e J ⟨rfl,rfl⟩;exact⟨_,List.mem_cons_self,trivial,rfl,rfl⟩
 ·have e1:moB x wh b (.loop (QV Try.f9 1))=QAf (Xo (moP false x x.scans.get) (KD 8 [] (JJ false x (loO x) (moL x) (moF x) x.scans.get 0) [(True,.exit 2,ZL x (loO x))])) (Xo (moP true x (thS x (moK x wh) b.n)) (KD 8 [] (JJ true x (loO x) (moL x) (moF x) (thS x (moK x wh) b.n) 0) [(True,.exit 2,ZL x (loO x))])):=by kernel_rfl
  rw[e1];refine QR8 (jQ fun hp => ?_) (jQ fun hp => ?_)
  ·refine JE (n0:=8) (V5 Xi) (by omega) (fun j hj=>QK2 false x (moL x) (moF x) x.scans.get j _ hp.1 (hp.2 j) G hrd hG) (fun s hs=>(by decide:8≤536)) ?_ (QQT x (moL x) (moF x) x.scans.get hp.1 hp.2) (s0:=0) (Nat.zero_le _) ?_
   ·rintro s e J ⟨_,rfl⟩;exact(by decide:8≤536)
   ·rintro e J ⟨rfl,rfl⟩;exact⟨_,List.mem_cons_self,trivial,rfl,rfl⟩
  ·refine JE (n0:=8) (V5 Xi) (by omega) (fun j hj=>QK2 true x (moL x) (moF x) (thS x (moK x wh) b.n) j _ hp.1 (hp.2 j) G hrd hG) (fun s hs=>(by decide:8≤536)) ?_ (QNB x (moL x) (moF x) (thS x (moK x wh) b.n) hp.1 hp.2) (s0:=0) (Nat.zero_le _) ?_
   ·rintro s e J ⟨_,rfl⟩;exact(by decide:8≤536)
   ·rintro e J ⟨rfl,rfl⟩;exact⟨_,List.mem_cons_self,trivial,rfl,rfl⟩
 ·have e1:moB x wh b (.loop (QV Try.f9 2))=Xo (jS (loO x) (QF (moX x)).1) (KD 8 [] (jl (loO x) (QF (moX x)).1 (0:Nat)) [(True,.exit 6,QAu)]):=by kernel_rfl
  rw[e1];refine jQ fun hp => ?_;refine JE (n0:=8) (V5 Xi) (by omega) (fun s hs=>Q0 (V5 Xi) 3 G _ hrd) (fun s hs=>(by decide:8≤800)) ?_ (QO4 (loO x) (QF (moX x)).1 hp) (s0:=0) (Nat.zero_le _) ?_
  ·rintro s e J ⟨_,rfl⟩;exact(by decide:8≤800)
  ·rintro e J ⟨rfl,rfl⟩;exact⟨_,List.mem_cons_self,trivial,rfl,rfl⟩
end Go.Proofs.Ytbpffdkemeoajaa
