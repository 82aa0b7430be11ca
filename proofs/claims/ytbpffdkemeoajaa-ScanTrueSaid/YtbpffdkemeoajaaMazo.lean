/- - -/
import Derived.Test.YtbpffdkemeoajaaMazn
open Go.IntKind (i64)
set_option maxRecDepth 100000
namespace Go.Proofs.Ytbpffdkemeoajaa
open Go Go.SX
variable {α:Type}{i c:Nat}{M:Made}{fo:Int}(d:Puz)(q:QG)(w:Rw QO)
def JD(f:Nat→α)(n:Nat)(a:α):Nat→α:=fun i=>if i=n then a else f i
theorem qq(f:Nat→α)(n:Nat)(a:α):JD f n a n=a:=if_pos rfl
theorem qd(f:Nat→α){n:Nat}(a:α)(h:i<n):JD f n a i=f i:=if_neg (by omega)
def zeM:Made:=⟨0,fun _=>⟨0,0⟩,fun _=>zeP,fun _=>false,fun _=>0,1,0,0⟩
def QDb(g:Int)(c:Nat):Int:=i64.wrap ((BitVec.ofInt 64 g ||| BitVec.ofInt 64 (i64.wrap (1*2^min (c:Int).toNat 64))).toNat:Nat)
def Yt(M:Made)(c:Nat):QB:=⟨c,dv w (M.k+1) 4⟩
theorem QDJ(n:Int)(f:Int→Bool)(z:Int):QW n true f z=((z==n)||f z):=by
 unfold QW
 by_cases h:z=n
 ·simp[h]
 ·simp[h]
theorem Qbx(n a:Int)(f:Int→Int):Q9 n (.int false .i64 a) (fun i => .int false .i64 (f i))=fun i => .int false .i64 (cond (i==n) a (f i)):=by
 funext z;unfold Q9
 by_cases h:z=n
 ·simp[h]
 ·have e:(z==n)=false:=by simpa using h
  rw[decide_eq_false h,e];rfl
def mdS(M:Made)(c:Nat):Made:=cond (dv w M.k 4==0) ⟨M.m,M.S,M.P,M.has,M.at_,M.k+1,QDb M.gone c,M.lost+1⟩
 ⟨M.m+1,JD M.S M.m (Yt w M c),JD M.P M.m (oN d (Yt w M c) w (M.k+1+1)),QW (c:Int) true M.has,fun z=>cond (z==(c:Int)) (M.m:Int) (M.at_ z),kN d (Yt w M c) (M.k+1+1),M.gone,M.lost⟩
def mdN(d:Puz)(w:Rw QO):Nat→Made
 | 0=>zeM
 | c+1=>mdS d w (mdN d w c) c
structure QPa (d:Puz) (w:Rw QO) (M:Made) (c i z t:Nat) (k:Int):Prop where
 zc:z<c
 t4:t<4
 s:M.S i=⟨z,t⟩
 p:M.P i=scS t w (d.ps.get z) k 4
 h:M.has z=true
 a:M.at_ z=i
structure XV (d:Puz) (w:Rw QO) (M:Made) (c:Nat):Prop where
 m:M.m≤c
 k:1≤M.k∧M.k≤1+26*c
 lost:M.lost=(c:Int)-M.m
 seat:∀ i,i<M.m→∃ z t k,QPa d w M c i z t k
 has:∀ z:Int,M.has z=true→∃ i,i<M.m∧M.at_ z=i∧(M.S i).cell=z
 gi:KY M.gone
 gone:∀ z:Nat,Ql M.gone z=true↔(z<c∧M.has z=false)
theorem QUP{d:Puz}{w:Rw QO}(h:XV d w M c):M.has (c:Int)=false:=by
 cases e:M.has (c:Int)with
 | false=>rfl
 | true=>
  obtain⟨i,hi,_,hc⟩:=h.has _ e;obtain⟨z,t,k,o⟩:=h.seat i hi;rw[o.s]at hc;have:=o.zc;simp only at hc;omega
theorem QYq(k:Int):∃ t:Nat,dv w k 4=t∧t<4:=by
 have h:=ZT w k (m:=4) (by decide)
 exact⟨(dv w k 4).toNat,by omega,by omega⟩
theorem QVb{d:Puz}{w:Rw QO}(hc:c<64)(h:XV d w M c):XV d w (mdS d w M c) (c+1):=by
 have hk:=h.k;have hm:=h.m;have hl:=h.lost;have low:=QUP h;unfold mdS;cases e:dv w M.k 4==0 with
 | true=>
  rw[cond_true];refine⟨by show M.m≤c+1;omega,by show 1≤M.k+1∧M.k+1≤_;omega,by show M.lost+1=((c+1:Nat):Int)-(M.m:Int);omega,fun i hi => ?_,h.has,Ym _,fun z => ?_⟩
  ·obtain⟨z,t,k,o⟩:=h.seat i hi;exact⟨z,t,k,⟨by have:=o.zc;omega,o.t4,o.s,o.p,o.h,o.a⟩⟩
  ·show Ql (QDb M.gone c) z=true↔_;unfold QDb;rw[Wh (Int.natCast_nonneg c),qbO,h.gone z,qbA,qdE,qdE];constructor
   ·rintro(⟨h1,h2⟩|⟨h1,h2⟩)
    ·exact⟨by omega,h2⟩
    ·have:z=c:=by omega
     subst this;exact⟨by omega,low⟩
   ·rintro⟨h1,h2⟩
    by_cases q:z<c
    ·exact .inl ⟨q,h2⟩
    ·exact .inr ⟨by omega,by omega⟩
 | false=>
  rw[cond_false];obtain⟨t,ht,t4⟩:=QYq w (M.k+1);have hs:Yt w M c=⟨c,t⟩:=by unfold Yt;rw[ht]
  have kb:=vS (d.ps.get c) (M.k+1+1) 4;have hkN:kN d (Yt w M c) (M.k+1+1)=scK (d.ps.get c) (M.k+1+1) 4:=rfl;refine⟨by show M.m+1≤c+1;omega,by show 1≤kN _ _ _∧kN _ _ _≤_;rw[hkN];omega,by show M.lost=_;rw[hl];show(c:Int)-M.m=((c+1:Nat):Int)-((M.m+1:Nat):Int);omega,fun i hi => ?_,fun z hz => ?_,h.gi,fun z => ?_⟩
  ·by_cases q:i=M.m
   ·subst q;refine⟨c,t,M.k+1+1,⟨by omega,t4,?_,?_,?_,?_⟩⟩
    ·show JD M.S M.m _ M.m=_;rw[qq,hs]
    ·show JD M.P M.m _ M.m=_;rw[qq,hs];rfl
    ·show QW (c:Int) true M.has (c:Int)=true;rw[QDJ];simp
    ·show cond ((c:Int)==(c:Int)) _ _=_;simp
   ·have hi':i<M.m:=by have:i<M.m+1:=hi;omega
    obtain⟨z,t',k,o⟩:=h.seat i hi';have hz:=o.zc;have ne:((z:Int)==(c:Int))=false:=by rw[beq_eq_false_iff_ne];omega
    refine⟨z,t',k,⟨by omega,o.t4,?_,?_,?_,?_⟩⟩
    ·show JD M.S M.m _ i=_;rw[qd _ _ hi'];exact o.s
    ·show JD M.P M.m _ i=_;rw[qd _ _ hi'];exact o.p
    ·show QW (c:Int) true M.has (z:Int)=true;rw[QDJ,ne,Bool.false_or];exact o.h
    ·show cond ((z:Int)==(c:Int)) _ _=_;rw[ne];exact o.a
  ·have hz:QW (c:Int) true M.has z=true:=hz;rw[QDJ]at hz;show ∃ i,i<M.m+1∧cond (z==(c:Int)) (M.m:Int) (M.at_ z)=i∧(JD M.S M.m (Yt w M c) i).cell=z
   cases q:z==(c:Int)with
   | true=>
    refine⟨M.m,by omega,rfl,?_⟩
    rw[qq,hs];exact(beq_iff_eq.1 q).symm
   | false=>
    rw[q,Bool.false_or]at hz;obtain⟨i,hi,h1,h2⟩:=h.has z hz;exact⟨i,by omega,h1,by rw[qd _ _ hi];exact h2⟩
  ·show Ql M.gone z=true↔z<c+1∧QW (c:Int) true M.has (z:Int)=false;rw[h.gone z,QDJ,Bool.or_eq_false_iff,beq_eq_false_iff_ne];constructor
   ·rintro⟨h1,h2⟩;exact⟨by omega,by omega,h2⟩
   ·rintro⟨h1,h2,h3⟩;exact⟨by omega,h3⟩
theorem QSx:XV d w zeM 0:=by
 refine⟨qlr _,by show(1:Int)≤1∧(1:Int)≤1+26*(0:Nat);omega,rfl,fun i hi=>absurd hi (Nat.not_lt_zero _),fun z hz=>(by cases hz),⟨by show(-9223372036854775808:Int)≤0;omega,by show(0:Int)≤9223372036854775807;omega⟩,fun z => ?_⟩
 show Ql 0 z=true↔_;rw[ZW];simp
theorem QB3(d:Puz)(w:Rw QO):∀ c,c≤64→XV d w (mdN d w c) c
 | 0,_=>QSx d w
 | c+1,h=>QVb (by omega) (QB3 d w c (by omega))
def W2(f:Nat→α)(n:Nat)(a:α):Nat→α:=fun i=>if i<n then f i else a
def alM(fo:Int)(M:Made):Made:=cond (decide (fo>0)) ⟨M.m+1,JD M.S M.m ⟨-2,0⟩,W2 M.P M.m q,M.has,M.at_,M.k,M.gone,M.lost⟩ M
def xM(M:Made)(fo:Int)(h:Nat)(H:Nat→Jn):QE:=QE.mk d (Rw.mk M.m M.P) (Rw.mk h H) M.lost fo
def sL(M:Made):List QB:=(List.range M.m).map M.S
theorem jk(M:Made):(sL M).length=M.m:=by simp[sL]
theorem QAf(h:i<(sL M).length):(sL M)[i]=M.S i:=by simp[sL]
theorem QFB(h:i<M.m):(sL M).getD i ⟨0,0⟩=M.S i:=by
 have h':i<(sL M).length:=by rw[jk];exact h
 rw[QBP h',QAf]
structure WU (d:Puz) (w:Rw QO) (M:Made) (c:Nat) (j:Jn):Prop where
 go:∃ i k z t o u:Nat,i<M.m∧k<M.m∧M.S i=⟨z,t⟩∧M.S k=⟨o,u⟩∧z<c∧o<c∧t<4∧u<4∧(∃ k0,M.P i=scS t w (d.ps.get z) k0 4)∧(∃ k0,M.P k=scS u w (d.ps.get o) k0 4)∧QV d.wide d.high z 1=o∧(KG d.play (Ky (d.ps.get z) 1) (Ky (d.ps.get o) 3)).1≠0∧j=⟨i,(5-(t:Int)).tmod 4,k,(7-(u:Int)).tmod 4⟩
theorem QQx{wd hi z:Int}{o:Nat}(h:QV wd hi z 1=o):(o:Int)=z+1:=by
 unfold QV at h;simp only[show((1:Int)==0)=false from rfl,show((1:Int)==1)=true from rfl,show((1:Int)==2)=false from rfl,show((1:Int)==3)=false from rfl,Bool.false_and,Bool.true_and,cond_false]at h;cases q:decide (z.tmod wd<wd-1)with
 | true=>rw[q,cond_true]at h;omega
 | false=>rw[q,cond_false]at h;omega
theorem QAg{t:Nat}(ht:t<4):(0≤(5-(t:Int)).tmod 4∧(5-(t:Int)).tmod 4≤3)∧(0≤(7-(t:Int)).tmod 4∧(7-(t:Int)).tmod 4≤3)∧((5-(t:Int)).tmod 4+t).tmod 4=1∧((7-(t:Int)).tmod 4+t).tmod 4=3:=by
 rcases(by omega:t=0∨t=1∨t=2∨t=3)with rfl|rfl|rfl|rfl<;>decide
theorem zX{q:QG}(h:i<M.m):(alM q fo M).S i=M.S i∧(alM q fo M).P i=M.P i∧i<(alM q fo M).m:=by
 unfold alM;cases decide (fo>0)with
 | true=>exact⟨qd _ _ h,if_pos h,by show i<M.m+1;omega⟩
 | false=>exact⟨rfl,rfl,h⟩
theorem QY2{d:Puz}{w:Rw QO}{q:QG}{j:Jn}(h:WU d w M c j):WU d w (alM q fo M) c j:=by
 obtain⟨i,k,z,t,o,u,h1,h2,h3,h4,h5⟩:=h.go;have a1:=zX (q:=q) (fo:=fo) h1;have a2:=zX (q:=q) (fo:=fo) h2;refine⟨i,k,z,t,o,u,a1.2.2,a2.2.2,by rw[a1.1];exact h3,by rw[a2.1];exact h4,?_⟩
 rw[a1.2.1,a2.2.1];exact h5
theorem QU5(S:Nat→QB)(n:Nat)(h:∀ i,i<n→(S i).cell ≠ -2):QH ((List.range n).map S) (-2)=0:=by
 have:=(QFJ (l:=(List.range n).map S) (n := -2)).2 fun s hs=>by
  simp only[List.mem_map,List.mem_range]at hs;obtain⟨i,hi,rfl⟩:=hs;exact h i hi
 have h0:0≤QH ((List.range n).map S) (-2):=by unfold QH;exact Int.natCast_nonneg _
 omega
theorem QWC{d:Puz}{w:Rw QO}{q:QG}(h:XV d w M c)(hf:0≤fo∧fo<2):QH (sL (alM q fo M)) (-2)=(alM q fo M).m-M.m∧QH (sL (alM q fo M)) (-2)≤fo:=by
 have key:∀ i,i<M.m→(M.S i).cell ≠ -2:=fun i hi=>by
  obtain⟨z,t,k,o⟩:=h.seat i hi;rw[o.s];simp only;omega
 have z0:=QU5 M.S M.m key;unfold alM;cases e:decide (fo>0)with
 | true=>
  have hfo:fo>0:=qdt e;rw[cond_true]
  have q1:(List.range M.m).map (JD M.S M.m ⟨-2,0⟩)=(List.range M.m).map M.S:=by
   apply List.map_congr_left;intro i hi;exact qd _ _ (List.mem_range.1 hi)
  have e1:sL ⟨M.m+1,JD M.S M.m ⟨-2,0⟩,W2 M.P M.m q,M.has,M.at_,M.k,M.gone,M.lost⟩=(List.range M.m).map M.S++[⟨-2,0⟩]:=by
   show(List.range (M.m+1)).map (JD M.S M.m ⟨-2,0⟩)=_;rw[List.range_succ,List.map_append,q1,List.map_singleton,qq]
  rw[e1,qc,if_pos rfl,z0];constructor
  ·show(0:Int)+1=((M.m+1:Nat):Int)-M.m;omega
  ·omega
 | false=>
  rw[cond_false];show QH ((List.range M.m).map M.S) (-2)=(M.m:Int)-M.m∧QH ((List.range M.m).map M.S) (-2)≤fo;rw[z0];omega
theorem vr{d:Puz}{w:Rw QO}{q:QG}(h:XV d w M c)(hi:i<(alM q fo M).m):((alM q fo M).S i=⟨-2,0⟩∧(alM q fo M).P i=q∧∀ j,j<i→j<M.m)∨(i<M.m∧∃ z t k,QPa d w M c i z t k∧(alM q fo M).S i=⟨z,t⟩∧(alM q fo M).P i=scS t w (d.ps.get z) k 4):=by
 by_cases hm:i<M.m
 ·right;obtain⟨z,t,k,o⟩:=h.seat i hm;have a:=zX (q:=q) (fo:=fo) hm;exact⟨hm,z,t,k,o,by rw[a.1];exact o.s,by rw[a.2.1];exact o.p⟩
 ·left;unfold alM at hi ⊢;cases e:decide (fo>0)with
  | true=>
   rw[e,cond_true]at hi;have hi:i<M.m+1:=hi;have:i=M.m:=by omega
   subst this;rw[cond_true];exact⟨qq _ _ _,if_neg hm,fun j hj=>hj⟩
  | false=>rw[e,cond_false]at hi;exact absurd hi hm
theorem QGL(fo:Int)(M:Made):(alM q fo M).lost=M.lost∧(alM q fo M).has=M.has∧(alM q fo M).at_=M.at_∧(alM q fo M).k=M.k∧(alM q fo M).gone=M.gone:=by
 unfold alM;cases decide (fo>0)<;>exact⟨rfl,rfl,rfl,rfl,rfl⟩
theorem QE7(fo:Int)(M:Made):M.m≤(alM q fo M).m∧(alM q fo M).m≤M.m+1:=by
 unfold alM;cases decide (fo>0)
 ·exact⟨qlr _,Nat.le_succ _⟩
 ·exact⟨Nat.le_succ _,qlr _⟩
theorem QZI{N:Int}{y:Jn}:Yj N y=false↔(0≤y.a∧y.a≤N)∧(0≤y.b∧y.b≤N)∧y.a≠y.b∧(0≤y.i∧y.i≤3)∧0≤y.j∧y.j≤3:=by
 simp only[Yj,Qg,Bool.or_eq_false_iff,Bool.not_eq_false',qbA,qdE,beq_eq_false_iff_ne]
theorem Qdd{d:Puz}{w:Rw QO}{q:QG}(hd:d.ok=true)(hq:q.ok=true)(hf:0≤fo∧fo<2)(hM:XV d w M d.ps.n){h:Nat}{H:Nat→Jn}(hh:h≤12)(hH:∀ m,m<h→WU d w M d.ps.n (H m)):QDG (xM d (alM q fo M) fo h H) (sL (alM q fo M)):=by
 have hb:=jQ hd;have n9:=hb.n9;have al:=QGL q fo M;have am:=QE7 q fo M;have hm:=hM.m;have hl:=hM.lost;have c1:=QWC (q:=q) hM hf;have hH':∀ m,m<h→WU d w (alM q fo M) d.ps.n (H m):=fun m hm=>QY2 (hH m hm);refine⟨?_,(jk _).symm,?_,c1.2,?_,?_,?_,?_⟩
 ·have hd':(xM d (alM q fo M) fo h H).d.ok=true:=hd;simp only[QE.ok,QE.sz,qbA,Qg,qdE];refine⟨⟨by show(((alM q fo M).m:Nat):Int)≤12;omega,by show((h:Nat):Int)≤12;omega,by show 0≤(alM q fo M).lost∧(alM q fo M).lost≤9;rw[al.1];omega,by show 0≤fo∧fo≤3;omega⟩,hd',?_,?_⟩
  ·rw[QMD hd',GA]
   ·rfl
   ·intro k _ hk;have hk:k<(alM q fo M).m:=by simpa[xM]using hk
    unfold Ya;show(!((alM q fo M).P k).ok)=false
    have:((alM q fo M).P k).ok=true:=by
     rcases vr (q:=q) (fo:=fo) hM hk with ⟨_,e,_⟩|⟨_,z,t,k0,o,_,e⟩
     ·rw[e];exact hq
     ·rw[e];exact QTU ⟨Int.natCast_nonneg _,by have:=o.t4;omega⟩ w k0 (QJJ hd o.zc)
    rw[this];rfl
  ·have e:jxO (xM d (alM q fo M) fo h H)=none:=by
    unfold jxO;refine GA fun m _ hm => ?_;have hm:m<h:=by simpa[xM]using hm
    obtain⟨i,k,z,t,o,u,h1,h2,_,_,_,_,t4,u4,_,_,hbes,_,hj⟩:=(hH' m hm).go;show Yj (i64.wrap (((alM q fo M).m:Int)-1)) (H m)=false;have ho:=QQx hbes;rw[w64 (by omega) (by omega),QZI,hj]
    have a1:=QAg t4;have a2:=QAg u4
    have ne:i≠k:=fun e=>by
     subst e;obtain⟨i',k',z',t',o',u',_,_,e3,e4,_,_,_,_,_,_,hb2,_,hj2⟩:=(hH' m hm).go;rw[hj]at hj2;simp only[Jn.mk.injEq]at hj2;have e5:i'=i:=by omega
     have e6:k'=i:=by omega
     subst e5;rw[e6,e3]at e4;simp only[QB.mk.injEq]at e4;have:=QQx hb2;omega
    exact⟨by simp only;omega,by simp only;omega,by simp only;omega,a1.1,a2.2.1⟩
   rw[e];rfl
 ·intro i j hij hj hne;rw[jk]at hj;rw[QAf]at hne ⊢;rw[QAf];rcases vr (q:=q) (fo:=fo) hM hj with ⟨e,_⟩|⟨hjm,z,t,k0,o,e,_⟩
  ·rw[e]at hne;exact absurd rfl hne
  ·obtain⟨z',t',k',o'⟩:=hM.seat i (by omega)
   rw[(zX (q:=q) (fo:=fo) (show i<M.m by omega)).1,o'.s,e]
   simp only;intro heq;have:z'=z:=by omega
   subst this;have:=o.a.symm.trans o'.a;omega
 ·intro i hi;rw[jk]at hi;rw[QAf];rcases vr (q:=q) (fo:=fo) hM hi with ⟨e,_⟩|⟨_,z,t,k0,o,e,e2⟩
  ·exact .inl e
  ·refine .inr ⟨z,t,o.zc,o.t4,e,?_⟩;show VG d ((alM q fo M).P i) z t=true;rw[e2];exact Qay o.t4 w k0 (QJJ hd o.zc)
 ·intro m hm;obtain⟨i,k,z,t,o,u,h1,h2,s1,s2,_,_,t4,u4,_,_,hbes,_,hj⟩:=(hH' m hm).go;have a1:=QAg t4;have a2:=QAg u4;show XD _ (H m) ((sL (alM q fo M)).getD (H m).a.toNat ⟨0,0⟩) ((sL (alM q fo M)).getD (H m).b.toNat ⟨0,0⟩)=true;rw[hj];show XD _ _ ((sL (alM q fo M)).getD i ⟨0,0⟩) ((sL (alM q fo M)).getD k ⟨0,0⟩)=true;rw[QFB h1,QFB h2,s1,s2];unfold XD zg Gd;simp only;have n1:((z:Int) == -2)=false:=by rw[beq_eq_false_iff_ne];omega
  have n2:((o:Int) == -2)=false:=by rw[beq_eq_false_iff_ne];omega
  rw[n1,n2,Bool.or_self,cond_false,a1.2.2.1,a2.2.2.2];show((QV d.wide d.high z 1==(o:Int))&&((3:Int)==3))=true;rw[hbes];simp
 ·intro m hm;obtain⟨i,k,z,t,o,u,h1,h2,s1,s2,hz,ho,t4,u4,⟨k1,p1⟩,⟨k2,p2⟩,hbes,hfit,hj⟩:=(hH' m hm).go;cases e:Xp (xM d (alM q fo M) fo h H) m with
  | false=>rfl
  | true=>
   exfalso;apply hfit;unfold Xp at e;have e:((KG d.play (Yz ((alM q fo M).P (H m).a.toNat) (H m).i) (Yz ((alM q fo M).P (H m).b.toNat) (H m).j)).1==0)=true:=e;rw[hj]at e;have e:((KG d.play (Yz ((alM q fo M).P i) ((5-(t:Int)).tmod 4)) (Yz ((alM q fo M).P k) ((7-(u:Int)).tmod 4))).1==0)=true:=e;rw[p1,p2,(QNl ⟨Int.natCast_nonneg _,by omega⟩ w _ k1).1,(QNl ⟨Int.natCast_nonneg _,by omega⟩ w _ k2).2,beq_iff_eq,QPg]at e
   rw[QPg];rintro⟨q1,q2,q3⟩;have w1:=QDU (w:=w) (k:=scK (d.ps.get z) k1 1) q2;have w2:=QDU (w:=w) (k:=scK (d.ps.get o) k2 3) q3;exact QVP q1 w1.1 w2.1 w1.2 w2.2 (e ⟨q1,w1.1,w2.1⟩)
 ·show(d.ps.n:Int)-(((sL (alM q fo M)).length:Int)-QH (sL (alM q fo M)) (-2))≤(alM q fo M).lost;rw[jk,c1.1,al.1];omega
theorem QBu[QA α]{n:Nat}(S:Nat→α)(m:Nat)(s:α)(l:List AV)(hl:eqF n 0 (QR [l] 0 0) (QA.enc s)):QC n (m+1) (QY m (fun i=>QA.enc (S i)) (QR [l] 0)) (fun i=>QA.enc (JD S m s i)):=by
 intro i hi;show eqF n 0 (QY m (fun i=>QA.enc (S i)) (QR [l] 0) i) (QA.enc (JD S m s i))
 by_cases h:i<m
 ·have e2:QY m (fun i=>QA.enc (S i)) (QR [l] 0) i=QA.enc (S i):=by
   funext j;rw[VX,if_pos h]
  rw[e2,qd _ _ h];exact Xe _ _ _
 ·have e:i=m:=by omega
  subst e
  have e2:QY i (fun i=>QA.enc (S i)) (QR [l] 0) i=QR [l] 0 0:=by
   funext j;rw[VX,if_neg h,Nat.sub_self]
  rw[e2,qq];exact hl
theorem QWD{d:Puz}{w:Rw QO}(h:(dv w (mdN d w c).k 4==0)=true):mdN d w (c+1)=⟨(mdN d w c).m,(mdN d w c).S,(mdN d w c).P,(mdN d w c).has,(mdN d w c).at_,(mdN d w c).k+1,QDb (mdN d w c).gone c,(mdN d w c).lost+1⟩:=by
 show mdS d w (mdN d w c) c=_;unfold mdS;rw[h];rfl
theorem QYy{d:Puz}{w:Rw QO}(h:(dv w (mdN d w c).k 4==0)=false):mdN d w (c+1)=⟨(mdN d w c).m+1,JD (mdN d w c).S (mdN d w c).m (Yt w (mdN d w c) c),JD (mdN d w c).P (mdN d w c).m (oN d (Yt w (mdN d w c) c) w ((mdN d w c).k+1+1)),QW (c:Int) true (mdN d w c).has,fun z=>cond (z==(c:Int)) ((mdN d w c).m:Int) ((mdN d w c).at_ z),kN d (Yt w (mdN d w c) c) ((mdN d w c).k+1+1),(mdN d w c).gone,(mdN d w c).lost⟩:=by
 show mdS d w (mdN d w c) c=_;unfold mdS;rw[h];rfl
theorem jG(z:AV)(hz:z.all (fun _=>false)=true)(has:Int→Bool)(g g':Int→Int)(h:∀ n,g n=g' n):KA z z has has (fun i => .int false .i64 (g i)) fun i => .int false .i64 (g' i):=⟨fun _=>rfl,hz,fun _=>rfl,fun n=>⟨fun r=>by show AV.den r (.int false .i64 (g n))=_;rw[h n],rfl⟩⟩
theorem QdG(z:AV)(hz:z.all (fun _=>false)=true)(has:Int→Bool)(c a:Int)(f:Int→Int):KA z z has has (Q9 c (.int false .i64 a) fun i => .int false .i64 (f i)) fun i => .int false .i64 (cond (i==c) a (f i)):=⟨fun _=>rfl,hz,fun _=>rfl,fun n=>⟨fun r=>by rw[Qbx],rfl⟩⟩
theorem QXN{d:Puz}{w:Rw QO}{P:Prop}[Decidable P]{ps:List Prop}(h:P)(hp:KJ ps):(decide P&&QS ps)=true:=by
 rw[qbA,qdE];exact⟨h,Q4.2 hp⟩
set_option maxHeartbeats 6400000 in
theorem QRs(fo:Int)(hd:d.ok=true)(hw:1≤w.n):Ji (fun c=>qi d q w (mdN d w c) fo c) (fun c=>c≤d.ps.n) (fun c=>d.ps.n-c) (fun _ ex J=>ex = .exit 0∧J=QA1 d q w (mdN d w d.ps.n) fo) 280 QOj [272,273] (mkS Try.prog (Vf Try.prog QS d w)) (fun _=>hnd (mkS Try.prog (Vf Try.prog QS d w)) 3) (Qd Try.f5 0):=by
 have n9:=(jQ hd).n9;refine⟨fun c g hk=>Q0 (QVM QS d q w (mdN d w c) fo c g) ?_⟩;have hk:c≤d.ps.n:=hk;have hM:=QB3 d w c (by omega)
 have hK:=hM.k;have hm:=hM.m;have hl:=hM.lost;have hdv:=ZT w ((mdN d w c).k+1) (m:=4) (by decide)
 refine QI (fun b0 => ?_) (fun b0 => ?_)
 ·have h:c<d.ps.n:=by have:=qdt b0;omega
  refine QF (by exact Kg (by omega)) ?_
  refine QI (fun b1 => ?_) (fun b1 => ?_)
  ·refine QF (by simp) ?_
   refine⟨c+1,h,by show d.ps.n-(c+1)<d.ps.n-c;omega,fun _ _ r=>r,rfl,rfl,_,QcI ..,?_⟩
   rw[QWD b1]
   repeat' first|with_reducible refine QN ?_ ?_|exact trivial|with_reducible rfl|exact qlr _|exact qRr|exact K6 h (by omega)|exact jG _ rfl _ _ _ (fun _=>rfl)|exact w64 (by omega) (by omega)|refine And.intro ?_ ?_|exact rfl
  ·refine QF (by exact Kg (by omega)) ?_
   refine QF (by simp;omega) ?_
   refine QF ?_ ?_
   ·refine QXN (d:=d) (w:=w) (by omega) ?_
    repeat' first|with_reducible refine QN ?_ ?_|exact trivial|with_reducible rfl|exact qlr _|exact qRr|refine And.intro ?_ ?_
   refine QF (by simp;omega) ?_
   refine⟨c+1,h,by show d.ps.n-(c+1)<d.ps.n-c;omega,fun _ _ r=>r,rfl,rfl,_,Qcd ..,?_⟩
   rw[QYy b1]
   repeat' first|with_reducible refine QN ?_ ?_|exact trivial|with_reducible rfl|exact qlr _|exact qRr|exact K6 h (by omega)|exact QdG _ rfl _ _ _ _|exact QBu _ _ _ _ ⟨rfl,rfl,trivial⟩|exact QBu _ _ _ _ ⟨rfl,rfl,rfl,rfl,rfl,rfl,rfl,rfl,rfl,rfl,rfl,rfl,rfl,rfl,rfl,rfl,rfl,rfl,rfl,rfl,rfl,rfl,rfl,rfl,rfl,rfl,rfl,rfl,trivial⟩|refine And.intro ?_ ?_|exact rfl
 ·have h:c=d.ps.n:=by have:=of_decide_eq_false b0;omega
  subst h;refine⟨_,⟨rfl,rfl⟩,rfl,rfl,_,QYb ..,?_⟩
  repeat' first|with_reducible refine QN ?_ ?_|exact trivial|with_reducible rfl|exact qlr _|exact qRr|exact jG _ rfl _ _ _ (fun _=>rfl)|refine And.intro ?_ ?_
structure Hg where
 h:Nat
 H:Nat→Jn
def zY(M:Made)(i:Nat):Int:=QV d.wide d.high (M.S i).cell 1
def Zm(M:Made)(i:Nat):Bool:=M.has (zY d M i)&&(KG d.play (d.ps.get (M.S i).cell.toNat).right (d.ps.get (max 0 (zY d M i)).toNat).left).1 != 0
def QE4(M:Made)(i:Nat):Jn:=⟨i,(i64.wrap (5-(M.S i).turn)).tmod 4,M.at_ (zY d M i),(i64.wrap (7-(M.S (M.at_ (zY d M i)).toNat).turn)).tmod 4⟩
def hgS(M:Made)(g:Hg)(i:Nat):Hg:=cond ((M.S i).cell == -2) g (cond (Zm d M i) ⟨g.h+1,JD g.H g.h (QE4 d M i)⟩ g)
def hgN(d:Puz)(M:Made):Nat→Hg
 | 0=>⟨0,fun _=>⟨0,0,0,0⟩⟩
 | i+1=>hgS d M (hgN d M i) i
theorem QDW{d:Puz}(h:((M.S i).cell == -2)=true∨Zm d M i=false):hgN d M (i+1)=hgN d M i:=by
 show hgS d M (hgN d M i) i=_;unfold hgS;cases e:(M.S i).cell == -2 with
 | true=>rfl
 | false=>
  rcases h with h|h
  ·rw[e]at h;cases h
  ·rw[h];rfl
theorem QH3{d:Puz}(h1:((M.S i).cell == -2)=false)(h2:Zm d M i=true):hgN d M (i+1)=⟨(hgN d M i).h+1,JD (hgN d M i).H (hgN d M i).h (QE4 d M i)⟩:=by
 show hgS d M (hgN d M i) i=_;unfold hgS;rw[h1,h2];rfl
theorem QK9{d:Puz}(h:W4 d)(hc:c<d.ps.n):max 0 (QV d.wide d.high (c:Int) 1)<d.ps.n:=by
 have n9:=h.n9;cases hb:QV d.wide d.high c (1:Nat) == -1 with
 | true=>
  have e:QV d.wide d.high c (1:Nat) = -1:=by simpa using hb
  have e:QV d.wide d.high c 1 = -1:=e;omega
 | false=>
  have:=QPn h hc hb;have:0≤QV d.wide d.high c 1∧QV d.wide d.high c 1<d.ps.n:=this;omega
structure AtM (d:Puz) (w:Rw QO) (q:QG) (fo:Int) (M:Made) (c i z t:Nat):Prop where
 im:i<M.m
 zc:z<c
 t4:t<4
 s:(alM q fo M).S i=⟨z,t⟩
 s0:M.S i=⟨z,t⟩
 p:∃ k,M.P i=scS t w (d.ps.get z) k 4
theorem QMR{d:Puz}{w:Rw QO}{q:QG}(hM:XV d w M c)(hi:i<(alM q fo M).m)(hn:(((alM q fo M).S i).cell == -2)=false):∃ z t,AtM d w q fo M c i z t:=by
 rcases vr (q:=q) (fo:=fo) hM hi with ⟨e,_⟩|⟨him,z,t,k,o,e,_⟩
 ·rw[e]at hn;cases hn
 ·exact⟨z,t,him,o.zc,o.t4,e,o.s,k,o.p⟩
theorem QNJ{d:Puz}{w:Rw QO}{q:QG}(hM:XV d w M c){o:Int}(h:(alM q fo M).has o=true):∃ k z t,AtM d w q fo M c k z t∧(alM q fo M).at_ o=(k:Int)∧o=(z:Int):=by
 have al:=QGL q fo M;rw[al.2.1]at h;obtain⟨k,hk,ha,hc⟩:=hM.has o h;obtain⟨z,t,k0,s⟩:=hM.seat k hk;refine⟨k,z,t,⟨hk,s.zc,s.t4,?_,s.s,k0,s.p⟩,by rw[al.2.2.1];exact ha,?_⟩
 ·rw[(zX (q:=q) (fo:=fo) hk).1];exact s.s
 ·rw[s.s]at hc;exact hc.symm
theorem QMC{d:Puz}{w:Rw QO}{q:QG}{fo:Int}{M:Made}(hM:XV d w M d.ps.n):∀ i,i≤(alM q fo M).m→(hgN d (alM q fo M) i).h≤i∧∀ m,m<(hgN d (alM q fo M) i).h→WU d w M d.ps.n ((hgN d (alM q fo M) i).H m)
 | 0,_=>⟨qlr _,fun m hm=>absurd hm (Nat.not_lt_zero _)⟩
 | i+1,hi=>by
  have ih:=QMC hM i (Nat.le_of_succ_le hi);have hi':i<(alM q fo M).m:=hi;cases e:((alM q fo M).S i).cell == -2 with
  | true=>rw[QDW (.inl e)];exact⟨by omega,ih.2⟩
  | false=>
   cases e2:Zm d (alM q fo M) i with
   | false=>rw[QDW (.inr e2)];exact⟨by omega,ih.2⟩
   | true=>
    rw[QH3 e e2];refine⟨by show(hgN d (alM q fo M) i).h+1≤i+1;omega,fun m hm => ?_⟩
    by_cases hq:m<(hgN d (alM q fo M) i).h
    ·show WU d w M d.ps.n (JD _ _ _ m);rw[qd _ _ hq];exact ih.2 m hq
    ·have hm':m=(hgN d (alM q fo M) i).h:=by have:m<(hgN d (alM q fo M) i).h+1:=hm;omega
     subst hm';show WU d w M d.ps.n (JD _ _ _ _);rw[qq];unfold Zm at e2;rw[qbA]at e2;obtain⟨z,t,a⟩:=QMR hM hi' e;obtain⟨k,o,u,b,ha,ho⟩:=QNJ hM e2.1;have hb:zY d (alM q fo M) i=QV d.wide d.high z 1:=by unfold zY;rw[a.s]
     have e3:=e2.2;rw[ho,a.s]at e3;have e3:((KG d.play (d.ps.get z).right (d.ps.get (max 0 (o:Int)).toNat).left).1 != 0)=true:=e3;rw[show(max 0 (o:Int)).toNat=o by omega]at e3
     refine⟨i,k,z,t,o,u,a.im,b.im,a.s0,b.s0,a.zc,b.zc,a.t4,b.t4,a.p,b.p,by rw[←hb];exact ho,(show ¬ (KG d.play (d.ps.get z).right (d.ps.get o).left).1=0 by simpa using e3),?_⟩
     unfold QE4;have t4:=a.t4;have u4:=b.t4;rw[ha,Int.toNat_natCast,a.s,b.s];rw[w64 (n:=5-(t:Int)) (by omega) (by omega),w64 (n:=7-(u:Int)) (by omega) (by omega)]
structure QRU (d:Puz) (M:Made):Prop where
 m:M.m≤100
 a:∀ i,i<M.m→((M.S i).cell == -2)=false→∃ z:Nat,z<d.ps.n∧(M.S i).cell=z
 b:∀ o,M.has o=true→∃ k:Nat,k<M.m∧M.at_ o=k
theorem QVL{d:Puz}{w:Rw QO}{q:QG}(hd:d.ok=true)(hM:XV d w M d.ps.n):QRU d (alM q fo M):=by
 have n9:=(jQ hd).n9;have hm:=hM.m;have am:=QE7 q fo M;refine⟨by omega,fun i hi hn => ?_,fun o ho => ?_⟩
 ·obtain⟨z,t,a⟩:=QMR hM hi hn;exact⟨z,a.zc,by rw[a.s]⟩
 ·obtain⟨k,z,t,b,ha,_⟩:=QNJ hM ho;have:=b.im;exact⟨k,by omega,ha⟩
theorem QJ7(d:Puz)(M:Made):∀ i,(hgN d M i).h≤i
 | 0=>qlr _
 | i+1=>by
  have ih:=QJ7 d M i;show(hgS d M (hgN d M i) i).h≤i+1;unfold hgS;cases (M.S i).cell == -2 with
  | true=>exact Nat.le_succ_of_le ih
  | false=>
   cases Zm d M i with
   | true=>exact Nat.succ_le_succ ih
   | false=>exact Nat.le_succ_of_le ih
set_option maxHeartbeats 800000 in
theorem QTy(fo:Int)(M:Made)(hd:d.ok=true)(hX:QRU d M):Ji (fun i=>qU d M fo (hgN d M i).h (hgN d M i).H i) (fun i=>i≤M.m) (fun i=>M.m-i) (fun _ ex J=>ex = .exit 2∧J=QDQ d M fo (hgN d M M.m).h (hgN d M M.m).H) 8 QMd [] (mkS Try.prog (Vf Try.prog QS d w)) (fun _=>hnd (mkS Try.prog (Vf Try.prog QS d w)) 3) (Qd Try.f5 1):=by
 have hb:=jQ hd;have n9:=hb.n9;have w1:=hb.w1;have wn:=hb.wn;have h1:=hb.h1;have hn:=hb.hn;have hmm:=hX.m;refine⟨fun i g hk=>Q0 (QdS QS d w M fo (hgN d M i).h (hgN d M i).H i g) ?_⟩;have hk:i≤M.m:=hk;have hh:=QJ7 d M i;refine QI (fun b0 => ?_) (fun b0 => ?_)
 ·have h:i<M.m:=by have:=qdt b0;omega
  refine QF (by simp;omega) ?_
  refine QF (by simp;omega) ?_
  refine QI (fun b1 => ?_) (fun b1 => ?_)
  ·refine⟨i+1,h,by show M.m-(i+1)<M.m-i;omega,fun _ _ r=>r,rfl,rfl,_,QLS ..,?_⟩
   rw[QDW (.inl b1)]
   repeat' first|with_reducible refine QN ?_ ?_|exact trivial|with_reducible rfl|exact qlr _|exact qRr|exact K6 h (by omega)|exact jG _ rfl _ _ _ (fun _=>rfl)|refine And.intro ?_ ?_|exact rfl
  ·obtain⟨z,hz,hc⟩:=hX.a i h b1;refine QF (by rw[hc];simp;omega) ?_
   refine QF (by rfl) ?_
   refine QF (by rw[hc];simp;omega) ?_
   refine QF (by rw[hc];simp;omega) ?_
   refine QF ?_ ?_
   ·have:=QK9 hb hz;rw[hc];simp;omega
   refine QF ?_ ?_
   ·have:=QK9 hb hz;rw[hc];simp;omega
   refine QF (by rfl) ?_
   iterate 2 refine KC ?_
   refine KL fun z0 y0 => ?_;refine QI (fun b2 => ?_) (fun b2 => ?_)
   ·have hq:Zm d M i=true:=y0.symm.trans b2;have hq':=hq;unfold Zm at hq';rw[qbA]at hq';obtain⟨k,hkm,ha⟩:=hX.b _ hq'.1;have ha:M.at_ (QV d.wide d.high (M.S i).cell 1)=(k:Int):=ha
    have e5:toI (.int false .i64 (M.at_ (QV d.wide d.high (M.S i).cell 1)))=(k:Int):=ha
    refine QF ?_ ?_
    ·rw[e5]
     first|(simp;done)|(simp;omega)
    refine QF ?_ ?_
    ·rw[e5]
     first|(simp;done)|(simp;omega)
    refine QF (by simp;omega) ?_
    refine⟨i+1,h,by show M.m-(i+1)<M.m-i;omega,fun _ _ r=>r,rfl,rfl,_,Qct ..,?_⟩
    rw[QH3 b1 hq]
    repeat' first|with_reducible refine QN ?_ ?_|exact trivial|with_reducible rfl|exact qlr _|exact qRr|exact K6 h (by omega)|exact jG _ rfl _ _ _ (fun _=>rfl)|exact QBu _ _ _ _ ⟨rfl,rfl,rfl,rfl,trivial⟩|refine And.intro ?_ ?_|exact rfl
   ·have hq:Zm d M i=false:=y0.symm.trans b2;refine⟨i+1,h,by show M.m-(i+1)<M.m-i;omega,fun _ _ r=>r,rfl,rfl,_,QLS ..,?_⟩
    rw[QDW (.inr hq)]
    repeat' first|with_reducible refine QN ?_ ?_|exact trivial|with_reducible rfl|exact qlr _|exact qRr|exact K6 h (by omega)|exact jG _ rfl _ _ _ (fun _=>rfl)|refine And.intro ?_ ?_|exact rfl
 ·have h:i=M.m:=by have:=of_decide_eq_false b0;omega
  subst h;refine⟨_,⟨rfl,rfl⟩,rfl,rfl,_,QbQ ..,?_⟩
  repeat' first|with_reducible refine QN ?_ ?_|exact trivial|with_reducible rfl|exact qlr _|exact qRr|refine And.intro ?_ ?_|exact rfl
structure Z5 (S:List QB) (L:List Int) (al:Int) (T:List QB):Prop where
 n:S.length≤1000
 l:L.length=S.length
 t:T.length=S.length
 f:∀ i,i<S.length→Gw (L.getD i 0) al i (T.getD i ⟨0,0⟩) (S.getD i ⟨0,0⟩)
 c:∀ i,i<S.length→(S.getD i ⟨0,0⟩).cell = -2∨0≤(S.getD i ⟨0,0⟩).cell
set_option maxHeartbeats 1600000 in
theorem QRy(S:List QB)(L:List Int)(al:Int)(T:List QB)(hq:Z5 S L al T):Ji (fun i=>Ha S L al T i) (fun i=>i≤S.length) (fun i=>S.length-i) (fun _ ex J=>ex = .exit 4∧J=QB2) 8 QOo [] (mkS Try.prog (Vf Try.prog QS d w)) (fun _=>hnd (mkS Try.prog (Vf Try.prog QS d w)) 3) (Qd Try.f5 2):=by
 have hn:=hq.n;have hl:=hq.l;have ht:=hq.t;refine⟨fun i g hk=>Q0 (QS6 QS d w S L al T i g) ?_⟩;have hk:i≤S.length:=hk;refine QI (fun b0 => ?_) (fun b0 => ?_)
 ·have h:i<S.length:=by have:=qdt b0;omega
  have hF:=hq.f i h;refine QF (by first|rfl|(simp;done)|(simp;omega)|omega|grind) ?_
  refine QF (by first|rfl|(simp;done)|(simp;omega)|omega|grind) ?_
  refine QI (fun b1 => ?_) (fun b1 => ?_)
  ·have hc:(S.getD i ⟨0,0⟩).cell = -2:=by simpa using b1
   have h6:(Wk al i==0)=false:=by have:=hF.f6;rw[hc]at this;simpa using this
   have h4:=hF.f4;rw[hc]at h4;refine QF (by first|rfl|(simp;done)|(simp;omega)|omega|grind) ?_
   refine vT (fun q=>by first|(simp;done)|(simp at q ⊢;omega)) ?_
   refine KC ?_;refine jP (fun q=>by first|(simp;done)|(simp at q ⊢;omega)) ?_
   refine KC ?_;refine Kb ?_;refine KL fun z0 y0 => ?_
   obtain rfl:z0=false:=y0.trans (by
     rw[Bool.or_eq_false_iff];refine⟨h6,decide_eq_false fun hge => ?_⟩;rw[Bool.and_eq_false_iff]at h4;rcases h4 with h4|h4
     ·have:(T.getD i ⟨0,0⟩).cell = -1:=by simpa using h4
      omega
     ·have : -2=(T.getD i ⟨0,0⟩).cell:=by simpa using h4
      omega
  )
   refine QI (fun b2 => ?_) (fun b2 => ?_)
   ·cases b2
   ·refine⟨i+1,h,by show S.length-(i+1)<S.length-i;omega,fun _ _ r=>r,rfl,rfl,_,QIf ..,?_⟩
    repeat' first|with_reducible refine QN ?_ ?_|exact trivial|with_reducible rfl|exact qlr _|exact qRr|exact K6 h (by omega)|refine And.intro ?_ ?_|exact rfl
  ·have hc:0≤(S.getD i ⟨0,0⟩).cell:=(hq.c i h).resolve_left (by simpa using b1)
   have h5:(Wk (L.getD i 0) (S.getD i ⟨0,0⟩).cell.toNat==0)=false:=by have:=hF.f5;rw[decide_eq_true hc]at this;simpa using this
   refine QF (by first|rfl|(simp;done)|(simp;omega)|omega|grind) ?_
   refine QF (by first|rfl|(simp;done)|(simp;omega)|omega|grind) ?_
   refine QF (by first|rfl|(simp;done)|(simp;omega)|omega|grind) ?_
   refine vT (fun q=>by first|(simp;done)|(simp at q ⊢;omega)) ?_
   refine KC ?_;refine jP (fun q=>by first|(simp;done)|(simp at q ⊢;omega)) ?_
   iterate 2 refine KC ?_
   refine vT (fun q=>by first|(simp;done)|(simp at q ⊢;omega)) ?_
   refine KC ?_;refine jP (fun q=>by first|(simp;done)|(simp at q ⊢;omega)) ?_
   refine KC ?_;refine VC ?_;refine QEX ?_;refine KL fun z1 y1 => ?_
   obtain rfl:z1=false:=y1.trans (by
     have h4:=hF.f4;cases e:(T.getD i ⟨0,0⟩).cell != -1 with
     | false=>rfl
     | true=>
      rw[e,Bool.true_and]at h4;rw[Bool.true_and];simp at h4 ⊢;exact h4.symm
  )
   refine Kb ?_;refine KL fun z2 y2 => ?_;obtain rfl:z2=false:=y2.trans (by rw[Bool.or_false];exact h5)
   refine vT (fun q=>by first|(simp;done)|(simp at q ⊢;omega)) ?_
   refine KC ?_;refine jP (fun q=>by first|(simp;done)|(simp at q ⊢;omega)) ?_
   refine KC ?_;refine VC ?_;refine KC ?_;refine vT (fun q=>by first|(simp;done)|(simp at q ⊢;omega)) ?_
   refine KC ?_;refine jP (fun q=>by first|(simp;done)|(simp at q ⊢;omega)) ?_
   refine KC ?_;refine QEX ?_;refine KL fun z3 y3 => ?_;refine KC ?_;refine vT (fun q=>by first|(simp;done)|(simp at q ⊢;omega)) ?_
   refine KC ?_;refine jP (fun q=>by first|(simp;done)|(simp at q ⊢;omega)) ?_
   refine KC ?_;refine VC ?_;refine QEX ?_;refine KL fun z4 y4 => ?_
   obtain rfl:z4=false:=y4.trans (by
     cases hz:z3 with
     | false=>rfl
     | true=>
      rw[hz]at y3;have y3:=y3.symm;rw[qbA]at y3;have h7:=hF.f7;have e1:(T.getD i ⟨0,0⟩).cell=(S.getD i ⟨0,0⟩).cell:=by simpa using y3.1
      rw[decide_eq_true (show(T.getD i ⟨0,0⟩).cell≥0 by omega),y3.2,Bool.true_and,Bool.true_and]at h7
      rw[Bool.true_and];simp at h7 ⊢;exact h7.symm
  )
   refine Kb ?_;refine KL fun z5 y5 => ?_;obtain rfl:z5=false:=y5.trans (rfl);refine QI (fun b3 => ?_) (fun b3 => ?_)
   ·cases b3
   ·refine⟨i+1,h,by show S.length-(i+1)<S.length-i;omega,fun _ _ r=>r,rfl,rfl,_,QIf ..,?_⟩
    repeat' first|with_reducible refine QN ?_ ?_|exact trivial|with_reducible rfl|exact qlr _|exact qRr|exact K6 h (by omega)|refine And.intro ?_ ?_|exact rfl
 ·have h:i=S.length:=by have:=of_decide_eq_false b0;omega
  exact⟨_,⟨rfl,rfl⟩,rfl,rfl,_,QTq,trivial⟩
def AtX(args:List AV)(h:List (Nat×Blk))(X:QE):Prop:=∃ p,(QX.dec args (Go.SX.look h):Option (Bool×(QE×Unit)))=some (p,(X,()))
def atX(F:WF (QE×Unit))(pb:List Prop→Bool)(X:QE):FC:=fun args nid all=>(all,fun blks=>match (QX.dec args (Go.SX.look (Vm Blk.ro all blks)):Option (Bool×(QE×Unit)))with
 | some (p,_)=>some ⟨false,pb [p=true,AtX args (Vm Blk.ro all blks) X,(F (X,())).1=true],(F (X,())).2.1.mapId (·+nid),(F (X,())).2.2.map fun q=>(q.1+nid,q.2.mapId (·+nid))⟩
 | none=>none)
theorem QBR{P:Program}{f:FuncId}{F:WF (QE×Unit)}(h:QQ P f (wFC F))(X:QE):QQ P f (atX F QS X):=by
 refine⟨h.1,fun args nid all r w lk blks eff hH ha hv he hp => ?_⟩;simp only[atX]at hv he;split at he<;>(try (cases he;done))
 rename_i p x hd;simp only[qsI]at he;subst he;obtain⟨hp,⟨p',e⟩,hF,_⟩:=Q4.1 hp;rw[hd]at e;simp only[qsI,qpI]at e;obtain⟨rfl,rfl⟩:=e;refine h.2 _ nid all r w lk blks ⟨false,p&&(F (X,())).1,(F (X,())).2.1.mapId (·+nid),(F (X,())).2.2.map fun q=>(q.1+nid,q.2.mapId (·+nid))⟩ hH ha hv ?_ ?_
 ·simp only[wFC,hd]
 ·show(p&&(F (X,())).1)=true;rw[hp,hF];rfl
def zp(P:Program)(pb:List Prop→Bool)(d:Puz)(w:Rw QO)(X:QE):Tab:=Qe (Qe (Qe (Qe (Vf P pb d w) 25 (ZC (atX Vd pb X))) 20 (ZC (atX X4 pb X))) 33 (ZC (atX XC pb X))) 23 (ZC (atX miF pb X))
theorem QNu(X:QE):Qc (zp Try.prog QS d w X):=((((qh d w).add (Z0 (QBR QKf X))).add (Z0 (QBR QN3 X))).add (Z0 (QBR QJD X))).add (Z0 (QBR QRA X))
def foM:Int:=dv w 0 2
def m1M:Made:=mdN d w d.ps.n
def m2M:Made:=alM q (foM w) (m1M d w)
def hgM:Hg:=hgN d (m2M d q w) (m2M d q w).m
def hgF:Hg:=cond (dv w (m1M d w).k 2==0) (hgM d q w) ⟨0,fun _=>⟨0,0,0,0⟩⟩
def xF:QE:=xM d (m2M d q w) (foM w) (hgF d q w).h (hgF d q w).H
def sF:List QB:=sL (m2M d q w)
abbrev tqV(fo:Int)(M1 M2:Made)(h:Nat)(H:Nat→Jn)(X:QE)(S:List QB):Code→St→(Ex→St→QD)→QD:=QJo [
 (9,WB (d.ok=true∧1≤w.n) (KN 280 [272,273] (qi d q w zeM fo (0:Nat)) [(True,.exit 0,QA1 d q w M1 fo)])),
 (22,WB (d.ok=true) (KN 8 [] (qU d M2 fo (0:Nat) (fun _=>⟨0,0,0,0⟩) (0:Nat)) [(True,.exit 2,QDQ d M2 fo h H)])),
 (38,WB (Z5 S (Qa X).1 (Qa X).2.1 (Qu X).1) (KN 8 [] (Ha S (Qa X).1 (Qa X).2.1 (Qu X).1 (0:Nat)) [(True,.exit 4,QB2)]))]
abbrev tqW(P0:Program)(pb:List Prop→Bool)(d:Puz)(q:QG)(w:Rw QO)(fo:Int)(M1 M2:Made)(h:Nat)(H:Nat→Jn)(X:QE)(S:List QB):Hnd:={ hnd (mkS P0 (zp P0 pb d w X)) 1 with loop:=tqV d q w fo M1 M2 h H X S }
abbrev tqH(P0:Program)(pb:List Prop→Bool)(d:Puz)(q:QG)(w:Rw QO):Hnd:=tqW P0 pb d q w (foM w) (m1M d w) (m2M d q w) (hgM d q w).h (hgM d q w).H (xF d q w) (sF d q w)
theorem QTt(G:Ctx)(hrd:G.rd=none)(hG:G.n=8):KH (mkS Try.prog (zp Try.prog QS d w (xF d q w))) G (tqH Try.prog QS d q w) (Qr Try.f5):=by
 refine QLr (XK (QNu d w _)) hrd fun c hc => ?_;have he:JB (Qr Try.f5)=[.loop (Qd Try.f5 0),.loop (Qd Try.f5 1),.loop (Qd Try.f5 2)]:=by kernel_rfl
 rw[he]at hc;simp only[List.mem_cons,List.not_mem_nil,or_false]at hc;show J5 _ _ _ (tqV d q w (foM w) (m1M d w) (m2M d q w) (hgM d q w).h (hgM d q w).H (xF d q w) (sF d q w) c);rcases hc with rfl|rfl|rfl
 ·have e1:∀ fo M1 M2 h H X S,tqV d q w fo M1 M2 h H X S (.loop (Qd Try.f5 0))=WB (d.ok=true∧1≤w.n) (KN 280 [272,273] (qi d q w zeM fo (0:Nat)) [(True,.exit 0,QA1 d q w M1 fo)]):=by intro fo M1 M2 h H X S;kernel_rfl
  rw[e1];refine QBv fun hp => ?_;refine Ze (E:=mkS Try.prog (Vf Try.prog QS d w)) rfl (Ju (I:=fun c=>qi d q w (mdN d w c) (foM w) c) (n0:=280) (XK (qh d w)) (by omega) (fun s hs=>Qz (XK (qh d w)) 3 G _ hrd) (fun s hs=>(by decide:280≤500)) ?_ (QRs d q w (foM w) hp.1 hp.2) (s0:=0) (Nat.zero_le _) ?_)
  ·rintro s e J ⟨_,rfl⟩;exact(by decide:280≤500)
  ·rintro e J ⟨rfl,rfl⟩;exact⟨_,List.mem_cons_self,trivial,rfl,rfl⟩
 ·have e1:∀ fo M1 M2 h H X S,tqV d q w fo M1 M2 h H X S (.loop (Qd Try.f5 1))=WB (d.ok=true) (KN 8 [] (qU d M2 fo (0:Nat) (fun _=>⟨0,0,0,0⟩) (0:Nat)) [(True,.exit 2,QDQ d M2 fo h H)]):=by intro fo M1 M2 h H X S;kernel_rfl
  rw[e1];refine QBv fun hp => ?_;have n9:=(jQ hp).n9;refine Ze (E:=mkS Try.prog (Vf Try.prog QS d w)) rfl (Ju (I:=fun i=>qU d (m2M d q w) (foM w) (hgN d (m2M d q w) i).h (hgN d (m2M d q w) i).H i) (n0:=8) (XK (qh d w)) (by omega) (fun s hs=>Qz (XK (qh d w)) 3 G _ hrd) (fun s hs=>(by decide:8≤500)) ?_ (QTy d w (foM w) (m2M d q w) hp (QVL (w:=w) hp (QB3 d w d.ps.n (by omega)))) (s0:=0) (Nat.zero_le _) ?_)
  ·rintro s e J ⟨_,rfl⟩;exact(by decide:8≤500)
  ·rintro e J ⟨rfl,rfl⟩;exact⟨_,List.mem_cons_self,trivial,rfl,rfl⟩
 ·have e1:∀ fo M1 M2 h H X S,tqV d q w fo M1 M2 h H X S (.loop (Qd Try.f5 2))=WB (Z5 S (Qa X).1 (Qa X).2.1 (Qu X).1) (KN 8 [] (Ha S (Qa X).1 (Qa X).2.1 (Qu X).1 (0:Nat)) [(True,.exit 4,QB2)]):=by intro fo M1 M2 h H X S;kernel_rfl
  rw[e1];refine QBv fun hp => ?_;refine Ze (E:=mkS Try.prog (Vf Try.prog QS d w)) rfl (Ju (n0:=8) (XK (qh d w)) (by omega) (fun s hs=>Qz (XK (qh d w)) 3 G _ hrd) (fun s hs=>(by decide:8≤500)) ?_ (QRy d w _ _ _ _ hp) (s0:=0) (Nat.zero_le _) ?_)
  ·rintro s e J ⟨_,rfl⟩;exact(by decide:8≤500)
  ·rintro e J ⟨rfl,rfl⟩;exact⟨_,List.mem_cons_self,trivial,rfl,rfl⟩
end Go.Proofs.Ytbpffdkemeoajaa
