/- - -/
import Derived.Test.YtbpffdkemeoajaaMozc
import Derived.Test.YtbpffdkemeoajaaMoy
import Derived.Test.YtbpffdkemeoajaaMozb
import Derived.Test.YtbpffdkemeoajaaMozd
import Derived.Test.YtbpffdkemeoajaaMot
open Go.IntKind (i64)
set_option maxRecDepth 100000
namespace Go.Proofs.Ytbpffdkemeoajaa
open Go Go.SX
def okC(x:QB)(l:List QC)(c:QC):Bool := !Jt x l c&&JD x (l++[c])
def vv(x:QB)(l:List QC):Bool := !YQ x l
def Z3(x:QB)(C:List (List QC)):Nat→List QC→List (List QC):=XU (fun l=>QN C l.length) (okC x) (vv x)
theorem QIM{σ:Type}{Y:σ→List QC→σ×Bool}{f:σ→(Int→Bool)→QC→Res σ}{g:QC→List (List QC)}(hf:∀ c s h,∃ h',f s h c=match Vk Y (g c) s with
  | (s',true) => .go s' h'
  | (s',false) => .stop s' h'):∀(cs:List QC) (s:σ) (h:Int→Bool),∃ h',Ji f cs s h=match Vk Y (cs.flatMap g) s with
  | (s',true) => .go s' h'
  | (s',false) => .stop s' h'
 | [],s,h=>⟨h,rfl⟩
 | c::cs,s,h=>by
  obtain⟨h1,e⟩:=hf c s h;rw[List.flatMap_cons,QHz,Ji,e];cases e2:Vk Y (g c) s with
  | mk s' q=>
   cases q with
   | true=>exact QIM hf cs s' h1
   | false=>exact⟨h1,rfl⟩
theorem QCU{σ:Type}(x:QB)(C:List (List QC))(Y:σ→List QC→σ×Bool):∀(d:Nat) (l:List QC) (s:σ) (h:Int→Bool),∃ h',onT x C Y d l s h=match Vk Y (Z3 x C d l) s with
  | (s',true) => .go s' h'
  | (s',false) => .stop s' h'
 | 0,l,s,h=>by
  refine⟨h,?_⟩;simp only[onT,Xc,Z3,XU,vv];cases YQ x l with
  | true=>rfl
  | false=>
   simp only[Bool.not_false,cond_true,Vk];cases Y s l with
   | mk s' q=>cases q<;>rfl
 | d+1,l,s,h=>by
  rw[onT];refine QIM (g:=fun c=>cond (okC x l c) (Z3 x C d (l++[c])) []) (fun c s h => ?_) _ s h;unfold JZ okC;cases Jt x l c with
  | true=>exact⟨h,rfl⟩
  | false=>
   cases JD x (l++[c])with
   | false=>exact⟨_,rfl⟩
   | true=>
    obtain⟨h1,e⟩:=QCU x C Y d (l++[c]) s (Qq c.cell true h);simp only[e,Bool.not_false,Bool.and_self,cond_true];cases Vk Y (Z3 x C d (l++[c])) s with
    | mk s' q=>
     cases q with
     | true=>exact⟨_,rfl⟩
     | false=>exact⟨_,rfl⟩
structure Tru (x:QB) (C:List (List QC)) (l:List QC):Prop where
 len:l.length=x.scans.n
 can:∀ i (h:i<l.length),l[i]∈QN C i
 one:∀ i j (hi:i<j) (hj:j<l.length),l[j].cell ≠ -2→l[i].cell≠l[j].cell
 al:QP l (-2)≤x.foreign
 hang:∀ k,k<x.hang.n→Vi x (x.hang.get k) (l.getD (x.hang.get k).a.toNat ⟨0,0⟩) (l.getD (x.hang.get k).b.toNat ⟨0,0⟩)=true
 lost:YQ x l=false
theorem QL2{l:List QC}{n:Int}:QP l n<1↔∀ s∈l,s.cell≠n:=by
 unfold QP;constructor
 ·intro h s hs e;have:0<l.countP fun s=>s.cell==n:=List.countP_pos_iff.2 ⟨s,hs,by simp[e]⟩
  omega
 ·intro h;have:(l.countP fun s=>s.cell==n)=0:=List.countP_eq_zero.2 fun s hs=>by simpa using h s hs
  omega
variable {l:List QC}{α:Type}{i k N:Nat}{x y:QB}{L:List (List QC)}
theorem QVD{n:Int}(i:Nat):QP (l.take i) n≤QP l n:=by
 unfold QP;have:=List.Sublist.countP_le (p:=fun s:QC=>s.cell==n) (List.take_sublist i l);omega
theorem HZ{l:List α}(h:i<l.length):l.take (i+1)=l.take i++[l[i]]:=by
 rw[List.take_add_one,List.getElem?_eq_getElem h];rfl
theorem QEd:JD x l=true↔∀ k,k<x.hang.n→YK x l k=true→Vi x (x.hang.get k) (l.getD (x.hang.get k).a.toNat ⟨0,0⟩) (l.getD (x.hang.get k).b.toNat ⟨0,0⟩)=true:=by
 unfold JD;rw[Option.isNone_iff_eq_none];constructor
 ·intro h k hk hm;have:=Ws h k (Nat.zero_le _) (by omega)
  simpa only [Jp,hm,Bool.true_and,Bool.not_eq_false']using this
 ·intro h;refine QA0 fun k _ hk => ?_;unfold Jp;cases hm:YK x l k with
  | false=>rfl
  | true=>rw[h k (by omega) hm];rfl
theorem GZ{l:List α}{z:α}(h:k<i):(l.take i).getD k z=l.getD k z:=by
 rw[List.getD_eq_getElem?_getD,List.getD_eq_getElem?_getD,List.getElem?_take_of_lt h]
structure QHC (x:QB):Prop where
 f:0≤x.foreign
 a:∀ k,k<x.hang.n→0≤(x.hang.get k).a∧(x.hang.get k).a<x.scans.n
 b:∀ k,k<x.hang.n→0≤(x.hang.get k).b∧(x.hang.get k).b<x.scans.n
theorem QUQ{C:List (List QC)}(hx:QHC x):l∈Z3 x C x.scans.n []↔Tru x C l:=by
 unfold Z3;rw[QNi];simp only[List.nil_append];constructor
 ·rintro⟨t,h1,rfl,h2,h3⟩;rw[QHR]at h2;simp only[List.nil_append,okC,qbA,Bool.not_eq_true']at h2;refine⟨h1,fun i h => ?_,fun i j hi hj hc he => ?_,?_,fun k hk => ?_,by simpa[vv]using h3⟩
  ·have:=(h2 i h).1
   rwa [List.length_take,Nat.min_eq_left (by omega)]at this
  ·have hf:=(h2 j hj).2.1;unfold Jt at hf;rw[show(l[j].cell == -2)=false by simpa using hc]at hf
   have hf:QP (l.take j) l[j].cell<1:=by simpa using hf
   refine QL2.1 hf l[i] ?_ he;rw[List.mem_take_iff_getElem];exact⟨i,by omega,rfl⟩
  ·have key:∀ i,i≤l.length→QP (l.take i) (-2)≤x.foreign:=by
    intro i
    induction i with
    | zero=>intro _;simpa[QP]using hx.f
    | succ i ih=>
     intro hi;have hi:i<l.length:=hi;rw[HZ hi,qO];have hf:=(h2 i hi).2.1;unfold Jt at hf;split
     ·rename_i e;rw[e]at hf;simp at hf;omega
     ·exact ih (by omega)
   have:=key l.length (qlr _)
   rwa [List.take_length]at this
  ·have ha:=hx.a k hk;have hb:=hx.b k hk;have hm:(max (x.hang.get k).a (x.hang.get k).b).toNat<l.length:=by omega
   have hf:=(h2 _ hm).2.2;rw[←HZ hm,QEd]at hf
   have:=hf k hk (by
    unfold YK;rw[List.length_take,Nat.min_eq_left (by omega)]
    simp;omega)
   rwa [GZ (by omega),GZ (by omega)]at this
 ·intro h;refine⟨l,h.len,rfl,?_,by simp[vv,h.lost]⟩
  rw[QHR];intro i hi;simp only[List.nil_append,okC,qbA,Bool.not_eq_true'];refine⟨?_,?_,?_⟩
  ·rw[List.length_take,Nat.min_eq_left (by omega)];exact h.can i hi
  ·unfold Jt;cases hc:l[i].cell == -2 with
   | true=>
    have hc:l[i].cell = -2:=by simpa using hc
    have h1:=QVD (l:=l) (n := -2) (i+1);rw[HZ hi,qO,if_pos hc]at h1;have h2:=h.al;rw[hc];simp;omega
   | false=>
    have hc:l[i].cell ≠ -2:=by simpa using hc
    have:QP (l.take i) l[i].cell<1:=QL2.2 fun s hs=>by
     obtain⟨k,hk,rfl⟩:=List.mem_take_iff_getElem.1 hs;exact h.one k i (by omega) hi hc
    simpa using this
  ·rw[←HZ hi,QEd];intro k hk hm;have ha:=hx.a k hk;have hb:=hx.b k hk;unfold YK at hm;rw[List.length_take,Nat.min_eq_left (by omega)]at hm
   have hm:max (x.hang.get k).a (x.hang.get k).b=i:=by simpa using hm
   rw[GZ (by omega),GZ (by omega)]
   exact h.hang k hk
theorem QCH{σ:Type}{f:σ→List QC→σ}{p:σ→Int}(hp:∀ s l,p (f s l)=i64.wrap (p s+1)):∀(ls:List (List QC)) (s:σ) (n:Nat),p s=n→n+ls.length<2^63→p (ls.foldl f s)=((n+ls.length:Nat):Int)
 | [],s,n,h,_=>by simpa using h
 | l::ls,s,n,h,hn=>by
  simp only[List.length_cons]at hn ⊢;rw[List.foldl_cons,QCH hp ls (f s l) (n+1) (by rw[hp,h];exact(jF ⟨by omega,by omega⟩).trans (by omega)) (by omega)]
  omega
structure QCQ (l:List QC):Prop where
 s:∀ c∈l,c.cell = -2∨0≤c.cell∧c.cell<63
theorem QWZ{l:List α}{z:α}(h:i<l.length):l.getD i z∈l:=by
 rw[List.getD_eq_getElem?_getD,List.getElem?_eq_getElem h];exact List.getElem_mem h
theorem QLB{l:List α}{z:α}(h:i<l.length):l.getD i z=l[i]:=by
 rw[List.getD_eq_getElem?_getD,List.getElem?_eq_getElem h];rfl
theorem QEE(l f:List QC)(m:Int){k:Nat}(hk:k<64):∀ n,Qv (mvL l f m n) k=(Qv m k||(decide (k<n)&&((l.getD k ⟨0,0⟩).cell != (f.getD k ⟨0,0⟩).cell)))
 | 0=>by simp[mvL]
 | n+1=>by
  have ih:=QEE l f m hk n;rw[mvL]
  by_cases e:k=n
  ·subst e;rw[decide_eq_false (qli _),Bool.false_and,Bool.or_false]at ih;cases h:(l.getD k ⟨0,0⟩).cell != (f.getD k ⟨0,0⟩).cell with
   | true=>simp only[VN];rw[W3 (Int.natCast_nonneg _)];simp[hk]
   | false=>simp only[ih,Bool.and_false,Bool.or_false]
  ·have e1:decide (k<n+1)=decide (k<n):=decide_eq_decide.2 (by omega)
   rw[e1,←ih];split
   ·simp only[VN];rw[W3 (Int.natCast_nonneg _)];have:decide ((n:Int)=(k:Int))=false:=by simp;omega
    rw[this];simp
   ·rfl
theorem QCA(l f:List QC)(m:Int){k:Nat}(hk:k<64):∀ n,Qv (tuL l f m n) k=(Qv m k||(decide (k<n)&&XD l f k))
 | 0=>by simp[tuL]
 | n+1=>by
  have ih:=QCA l f m hk n;rw[tuL]
  by_cases e:k=n
  ·subst e;rw[decide_eq_false (qli _),Bool.false_and,Bool.or_false]at ih;cases h:XD l f k with
   | true=>simp only[VN];rw[W3 (Int.natCast_nonneg _)];simp[hk]
   | false=>simp only[ih,Bool.and_false,Bool.or_false]
  ·have e1:decide (k<n+1)=decide (k<n):=decide_eq_decide.2 (by omega)
   rw[e1,←ih];split
   ·simp only[VN];rw[W3 (Int.natCast_nonneg _)];have:decide ((n:Int)=(k:Int))=false:=by simp;omega
    rw[this];simp
   ·rfl
theorem QC2(l f:List QC){m:Int}(hm:Kq m):∀ n,Kq (mvL l f m n)
 | 0=>hm
 | n+1=>by
  rw[mvL];split
  ·exact zY _
  ·exact QC2 l f hm n
theorem QCO(l f:List QC){m:Int}(hm:Kq m):∀ n,Kq (tuL l f m n)
 | 0=>hm
 | n+1=>by
  rw[tuL];split
  ·exact zY _
  ·exact QCO l f hm n
def tdF(s:TdS)(l:List QC):TdS:=(tdY s l).1
theorem QGW{f:List QC}{N:Nat}:∀(L:List (List QC)) (s:TdS) (n:Nat),(∀ l∈L,l.length=N)→s.2.1=n→0<n→n+L.length<2^63→s.2.2.1=f→Kq s.2.2.2.1→Kq s.2.2.2.2 →
  (L.foldl tdF s).2.2.1=f∧Kq (L.foldl tdF s).2.2.2.1∧Kq (L.foldl tdF s).2.2.2.2∧∀ k,k<64→k<N→Qv (L.foldl tdF s).2.2.2.1 k=(Qv s.2.2.2.1 k||L.any fun l=>(l.getD k ⟨0,0⟩).cell != (f.getD k ⟨0,0⟩).cell)∧Qv (L.foldl tdF s).2.2.2.2 k=(Qv s.2.2.2.2 k||L.any fun l=>XD l f k)
 | [],s,n,_,_,_,_,hf,h1,h2=>⟨hf,h1,h2,fun k _ _=>by simp⟩
 | l::L,s,n,hN,hn,hp,hL,hf,h1,h2=>by
  simp only[List.length_cons]at hL;have q:(s.2.1==0)=false:=by rw[hn];simp;omega
  have e:Q6 s.2.1 l s.2.2.1=f:=by rw[Q6,q,hf]
  have hl:=hN l List.mem_cons_self
  obtain⟨a1,a2,a3,a4⟩:=QGW (f:=f) (N:=N) L (tdF s l) (n+1) (fun y hy=>hN y (List.mem_cons_of_mem _ hy)) (by
   show i64.wrap (s.2.1+1)=_;rw[hn];exact(jF ⟨by omega,by omega⟩).trans (by omega)) (by omega) (by omega) e (QC2 _ _ h1 _) (QCO _ _ h2 _)
  refine⟨a1,a2,a3,fun k hk hkN => ?_⟩;obtain⟨b1,b2⟩:=a4 k hk hkN;rw[List.foldl_cons,b1,b2,List.any_cons,List.any_cons,←Bool.or_assoc,←Bool.or_assoc];have d1:decide (k<l.length)=true:=decide_eq_true (by omega)
  constructor
  ·congr 1;show Qv (mvL l (Q6 s.2.1 l s.2.2.1) s.2.2.2.1 l.length) k=_;rw[e,QEE _ _ _ hk,d1,Bool.true_and]
  ·congr 1;show Qv (tuL l (Q6 s.2.1 l s.2.2.1) s.2.2.2.2 l.length) k=_;rw[e,QCA _ _ _ hk,d1,Bool.true_and]
theorem QSr{f:List QC}(hN:∀ l∈f::L,l.length=N)(hL:(f::L).length<2^63):∃ s:TdS,(f::L).foldl tdF (0,0,[],0,0)=s∧s.1=(f::L).length∧s.2.2.1=f∧Kq s.2.2.2.1∧Kq s.2.2.2.2∧∀ k,k<64→k<N→Qv s.2.2.2.1 k=((f::L).any fun l=>(l.getD k ⟨0,0⟩).cell != (f.getD k ⟨0,0⟩).cell)∧Qv s.2.2.2.2 k=((f::L).any fun l=>XD l f k):=by
 refine⟨_,rfl,?_,?_⟩
 ·have:=QCH (f:=tdF) (p:=fun s=>s.1) (fun s l=>rfl) (f::L) (0,0,[],0,0) 0 rfl (by omega)
  simpa using this
 ·have z:Kq 0:=⟨by omega,by omega⟩
  have e:Q6 0 f []=f:=rfl;have hf:=hN f List.mem_cons_self;simp only[List.length_cons]at hL;obtain⟨a1,a2,a3,a4⟩:=QGW (f:=f) (N:=N) L (tdF (0,0,[],0,0) f) 1 (fun y hy=>hN y (List.mem_cons_of_mem _ hy)) rfl (by omega) (by omega) e (QC2 _ _ z _) (QCO _ _ z _)
  refine⟨a1,a2,a3,fun k hk hkN => ?_⟩;obtain⟨b1,b2⟩:=a4 k hk hkN;rw[List.foldl_cons,b1,b2,List.any_cons,List.any_cons];have d1:decide (k<f.length)=true:=decide_eq_true (by omega)
  constructor
  ·congr 1;show Qv (mvL f (Q6 0 f []) 0 f.length) k=_;rw[e,QEE _ _ _ hk,d1,Bool.true_and,zJ,Bool.false_or]
  ·congr 1;show Qv (tuL f (Q6 0 f []) 0 f.length) k=_;rw[e,QCA _ _ _ hk,d1,Bool.true_and,zJ,Bool.false_or]
theorem QFg(f:List QC)(m t:Int)(k:Nat):∀ n,n≤f.length→(KZ f m t n).getD k ⟨0,0⟩=if k<n then XB m t k (f.getD k ⟨0,0⟩)else f.getD k ⟨0,0⟩
 | 0,_=>by simp[KZ]
 | n+1,h=>by
  have ih:=QFg f m t k n (by omega)
  rw[KZ]
  by_cases e:k=n
  ·subst e;rw[if_neg (qli _)]at ih;rw[if_pos (Nat.lt_succ_self _),List.getD_eq_getElem?_getD,List.getElem?_set_self (by rw[Wk];omega),Option.getD_some,ih]
  ·rw[List.getD_eq_getElem?_getD,List.getElem?_set_ne (fun h=>e h.symm),←List.getD_eq_getElem?_getD,ih]
   by_cases h2:k<n
   ·rw[if_pos h2,if_pos (by omega)]
   ·rw[if_neg h2,if_neg (by omega)]
def Vr(L:List (List QC))(k:Nat):QC:=
 cond (L.any fun l=>(l.getD k ⟨0,0⟩).cell != ((L.headD []).getD k ⟨0,0⟩).cell) ⟨-1,0⟩
  (cond (L.any fun l=>XD l (L.headD []) k) ⟨((L.headD []).getD k ⟨0,0⟩).cell,0⟩ ((L.headD []).getD k ⟨0,0⟩))
def YU(L:List (List QC))(N:Nat):List QC:=(List.range N).map (Vr L)
theorem j5(L:List (List QC))(N:Nat):(YU L N).length=N:=by simp[YU]
theorem QIG(L:List (List QC))(N:Nat)(h:k<(YU L N).length):(YU L N)[k]=Vr L k:=by simp[YU]
theorem QPP{f:List QC}(h64:N≤64)(hN:∀ l∈f::L,l.length=N)(hL:(f::L).length<2^63):∃ s:TdS,(f::L).foldl tdF (0,0,[],0,0)=s∧s.1=(f::L).length∧KZ s.2.2.1 s.2.2.2.1 s.2.2.2.2 s.2.2.1.length=YU (f::L) N:=by
 obtain⟨s,e,h1,h2,h3,h4,h5⟩:=QSr hN hL;refine⟨s,e,h1,?_⟩;have hf:=hN f List.mem_cons_self;rw[h2];apply List.ext_getElem
 ·rw[Wk,j5,hf]
 ·intro k hk hk2;rw[Wk]at hk;have:=QFg f s.2.2.2.1 s.2.2.2.2 k f.length (qlr _);rw[if_pos hk,QLB (by rw[Wk];exact hk)]at this
  rw[this,QIG];obtain⟨b1,b2⟩:=h5 k (by omega) (by omega)
  show XB _ _ _ _=_;unfold XB Vr;have v1:bitV s.2.2.2.1 k=Qv s.2.2.2.1 k:=Go.SX.bitV_bit h3 (by omega)
  have v2:bitV s.2.2.2.2 k=Qv s.2.2.2.2 k:=Go.SX.bitV_bit h4 (by omega)
  rw[v1,v2,b1,b2];simp only[List.headD_cons];split
  ·rename_i q;rw[q];rfl
  ·rename_i q;rw[q];split
   ·rename_i q;rw[q];rfl
   ·rename_i q;rw[q];rfl
theorem QLV{l:List QC}(hl:QCQ l)(f:Nat→Int){j:Nat}(hj:j<12)(k:Nat):∀ n,n≤l.length→n≤12→Qv (plL l f n j) k=(Qv (f j) k||(decide (j<n)&&((l.getD j ⟨0,0⟩).cell==(k:Int))))
 | 0,_,_=>by simp[plL]
 | n+1,h,h12=>by
  have ih:=QLV hl f hj k n (by omega) (by omega)
  rw[plL,plS];have hc:=hl.s (l.getD n ⟨0,0⟩) (QWZ (by omega))
  have q12:Nat.beq j 12=false:=by
   cases hb:Nat.beq j 12 with
   | true=>have:=Nat.eq_of_beq_eq_true hb;omega
   | false=>rfl
  cases e:(l.getD n ⟨0,0⟩).cell == -2 with
  | true=>
   simp only[q12];have e:(l.getD n ⟨0,0⟩).cell = -2:=by simpa using e
   rw[ih]
   by_cases q:j=n
   ·subst q;rw[e];have:((-2:Int)==(k:Int))=false:=by rw[beq_eq_false_iff_ne];omega
    rw[this];simp
   ·rw[decide_eq_decide.2 (show j<n+1↔j<n by omega)]
  | false=>
   have e:(l.getD n ⟨0,0⟩).cell ≠ -2:=by simpa using e
   have h0:0≤(l.getD n ⟨0,0⟩).cell∧(l.getD n ⟨0,0⟩).cell<63:=by omega
   by_cases q:j=n
   ·subst q;rw[Nat.beq_refl];simp only[VN];rw[W3 h0.1,ih];simp only[qli,decide_false,Bool.false_and,Bool.or_false,Nat.lt_succ_self,decide_true,Bool.true_and];congr 1
    by_cases hk:(l.getD j ⟨0,0⟩).cell=(k:Int)
    ·have:k<64:=by omega
     rw[hk];simp[this]
    ·have h2:((l.getD j ⟨0,0⟩).cell==(k:Int))=false:=by simpa using hk
     rw[h2,decide_eq_false hk,Bool.and_false]
   ·have q2:Nat.beq j n=false:=by
     cases hb:Nat.beq j n with
     | true=>exact absurd (Nat.eq_of_beq_eq_true hb) q
     | false=>rfl
    simp only[q2];rw[ih,decide_eq_decide.2 (show j<n+1↔j<n by omega)]
theorem QLi{l:List QC}(f:Nat→Int)(k:Nat):∀ n,n≤l.length→n≤12→Qv (plL l f n 12) k=(Qv (f 12) k||(decide (k<n)&&((l.getD k ⟨0,0⟩).cell == -2)))
 | 0,_,_=>by simp[plL]
 | n+1,h,h12=>by
  have ih:=QLi (l:=l) f k n (by omega) (by omega)
  rw[plL,plS];cases e:(l.getD n ⟨0,0⟩).cell == -2 with
  | true=>
   have e0:Nat.beq 12 12=true:=rfl;simp only[e0,VN];rw[W3 (Int.natCast_nonneg _),ih]
   by_cases q:k=n
   ·subst q;have:k<64:=by omega
    rw[e,decide_eq_true this,decide_eq_true (Nat.lt_succ_self k),decide_eq_true (rfl:(k:Int)=k)];simp
   ·have:decide ((n:Int)=(k:Int))=false:=by simp;omega
    rw[this,decide_eq_decide.2 (show k<n+1↔k<n by omega),Bool.and_false,Bool.or_false]
  | false=>
   have q2:Nat.beq 12 n=false:=by
    cases hb:Nat.beq 12 n with
    | true=>have:=Nat.eq_of_beq_eq_true hb;omega
    | false=>rfl
   simp only[q2];rw[ih]
   by_cases q:k=n
   ·subst q;rw[e];simp
   ·rw[decide_eq_decide.2 (show k<n+1↔k<n by omega)]
theorem QDD{l:List QC}{f:Nat→Int}(hf:∀ j,Kq (f j)):∀ n j,Kq (plL l f n j)
 | 0,j=>hf j
 | n+1,j=>by
  rw[plL,plS];split
  ·split
   ·exact zY _
   ·exact QDD hf n j
  ·split
   ·exact zY _
   ·exact QDD hf n j
def plF(s:PlS)(l:List QC):PlS:=(plY s l).1
theorem QFA{N:Nat}(h12:N≤12):∀(L:List (List QC)) (s:PlS),(∀ l∈L,QCQ l∧l.length=N)→(∀ j,Kq (s.2 j)) →
  (∀ j,Kq ((L.foldl plF s).2 j))∧(∀ j,j<N→∀ k,Qv ((L.foldl plF s).2 j) k=(Qv (s.2 j) k||L.any fun l=>(l.getD j ⟨0,0⟩).cell==(k:Int)))∧∀ k,Qv ((L.foldl plF s).2 12) k=(Qv (s.2 12) k||(decide (k<N)&&L.any fun l=>(l.getD k ⟨0,0⟩).cell == -2))
 | [],s,_,h=>⟨h,fun j _ k=>by simp,fun k=>by simp⟩
 | l::L,s,h,hs=>by
  obtain⟨h1,h2⟩:=h l List.mem_cons_self;obtain⟨a1,a2,a3⟩:=QFA h12 L (plF s l) (fun y hy=>h y (List.mem_cons_of_mem _ hy)) (QDD hs _);refine⟨a1,fun j hj k => ?_,fun k => ?_⟩
  ·rw[List.foldl_cons,a2 j hj k,List.any_cons,←Bool.or_assoc];congr 1;show Qv (plL l s.2 l.length j) k=_;rw[QLV h1 _ (by omega) _ _ (qlr _) (by omega),decide_eq_true (show j<l.length by omega),Bool.true_and]
  ·rw[List.foldl_cons,a3 k,List.any_cons]
   have e:Qv ((plF s l).2 12) k=(Qv (s.2 12) k||(decide (k<N)&&((l.getD k ⟨0,0⟩).cell == -2))):=by
    show Qv (plL l s.2 l.length 12) k=_;rw[QLi _ _ _ (qlr _) (by omega),h2]
   rw[e,Bool.or_assoc,Bool.and_or_distrib_left]
def QJV(l:List QC)(k:Nat):Bool:=l.any fun s=>s.cell==(k:Int)
structure QXS (l:List QC) (n:Nat):Prop where
 s:∀ c∈l,c.cell = -2∨0≤c.cell∧c.cell<n
 one:l.Pairwise fun a b=>b.cell ≠ -2→a.cell≠b.cell
def K0(x:QB):List (List QC):=Z3 x (Qz x x.scans.n) x.scans.n []
theorem QPM(hx:x.ok=true):QHC x:=by
 have hg:=VI hx;refine⟨?_,fun k hk=>(hg.j k hk).2.1,fun k hk=>(hg.j k hk).2.2⟩;simp only[QB.ok,QB.sz,Qa,qbA,qdE]at hx;omega
theorem QEg(hx:x.ok=true):(K0 x).length<2^63:=by
 have hg:=VI hx;have hs:=hg.s
 have h:=QJo (fun l=>QN (Qz x x.scans.n) l.length) (okC x) (vv x) (B:=37) (fun l=>by
  show(QN (Qz x x.scans.n) l.length).length≤37
  by_cases h:l.length<x.scans.n
  ·rw[jR h];have:=vY x.d (x.scans.get l.length) x.d.ps.n;have:=hg.d.n9;simp only[Xk,List.length_cons];omega
  ·rw[QA5 (by rw[YY];omega)];exact Nat.zero_le _) x.scans.n []
 have h2:37^x.scans.n≤37^12:=Nat.pow_le_pow_right (by omega) hs
 have h3:37^12<2^63:=by decide
 show(XU _ _ _ _ _).length<_;omega
theorem zh(hx:x.ok=true):l∈K0 x↔Tru x (Qz x x.scans.n) l:=QUQ (QPM hx)
theorem QLn(h:Tru x (Qz x x.scans.n) l)(hi:i<l.length):l[i]∈Xk x i:=by
 have:=h.can i hi
 rwa [jR (by rw[←h.len];exact hi)]at this
theorem QVY{l:List QC}(h:Tru x (Qz x x.scans.n) l):∀ c∈l,(c.cell = -2∧c.turn=0)∨(0≤c.cell∧c.cell<x.d.ps.n∧0≤c.turn∧c.turn<4):=by
 intro c hc;obtain⟨i,hi,rfl⟩:=List.mem_iff_getElem.1 hc;have:=QLn h hi;simp only[Xk,List.mem_cons]at this;rcases this with e|e
 ·rw[e];exact .inl ⟨rfl,rfl⟩
 ·obtain⟨k,u,h1,h2,e⟩:=QBG e;rw[e];exact .inr ⟨by simp only;omega,by simp only;omega,by simp only;omega,by simp only;omega⟩
theorem QSW(hx:x.ok=true)(h:Tru x (Qz x x.scans.n) l):QCQ l:=⟨fun c hc=>by
 have:=(VI hx).d.n9;rcases QVY h c hc with ⟨e,_⟩|⟨h1,h2,_⟩<;>omega⟩
def KM(x:QB):Int:=cond x.ok (cond (K4 x) 11 (cond (K0 x).isEmpty 6 0)) 1
theorem QK4(h:KM x=0):x.ok=true∧K4 x=false∧K0 x≠[]:=by
 unfold KM at h;cases ho:x.ok with
 | false=>rw[ho]at h;simp at h
 | true=>
  cases hr:K4 x with
  | true=>rw[ho,hr]at h;simp at h
  | false=>
   refine⟨rfl,rfl,fun e => ?_⟩;rw[ho,hr,e]at h;simp at h
structure QXT (x:QB) (sure may:Int):Prop where
 si:Kq sure
 mi:Kq may
 sb:∀ k,Qv sure k=(decide (k<x.d.ps.n)&&(K0 x).all fun l => !QJV l k)
 mb:∀ k,Qv may k=(decide (k<x.d.ps.n)&&(K0 x).any fun l => !QJV l k)
theorem QJd(x:QB):QL x=(cond (KM x==0) (YU (K0 x) x.scans.n) [],KM x):=by
 unfold QL KM;cases ho:x.ok with
 | false=>rfl
 | true=>
  cases hr:K4 x with
  | true=>rfl
  | false=>
   obtain⟨h',e⟩:=QCU x (Qz x x.scans.n) tdY x.scans.n [] (0,0,[],0,0) noH;rw[QB1 (fun _ _=>rfl)]at e;have e:tdS x = .go ((K0 x).foldl tdF (0,0,[],0,0)) h':=e;simp only[e,cond_true,cond_false];have hlen:=QEg ho;have hall:∀ l∈K0 x,l.length=x.scans.n:=fun l hl=>((zh ho).1 hl).len;have hs:=(VI ho).s;cases hL:K0 x with
   | nil=>rfl
   | cons l L=>
    rw[hL]at hlen hall;obtain⟨s,e2,s1,s2⟩:=QPP (by omega) hall hlen
    rw[e2];have:decide (s.1>0)=true:=by rw[s1];simp
    simp only[this,s2];rfl
structure QNg (x:QB) (cells:List Int) (al:Int):Prop where
 len:cells.length=x.scans.n
 ci:∀ j,Kq (cells.getD j 0)
 ai:Kq al
 cb:∀ j,j<x.scans.n→∀ k,Qv (cells.getD j 0) k=(K0 x).any fun l=>(l.getD j ⟨0,0⟩).cell==(k:Int)
 ab:∀ k,Qv al k=(decide (k<x.scans.n)&&(K0 x).any fun l=>(l.getD k ⟨0,0⟩).cell == -2)
theorem QDR(x:QB):(QF x).2.2=KM x∧(KM x≠0→(QF x).1=[]∧(QF x).2.1=0)∧(KM x=0→QNg x (QF x).1 (QF x).2.1):=by
 unfold QF KM;cases ho:x.ok with
 | false=>exact⟨by trivial,fun _=>⟨by trivial,by trivial⟩,fun h=>by simp at h⟩
 | true=>
  cases hr:K4 x with
  | true=>exact⟨by trivial,fun _=>⟨by trivial,by trivial⟩,fun h=>by simp at h⟩
  | false=>
   obtain⟨h',e⟩:=QCU x (Qz x x.scans.n) plY x.scans.n [] (0,fun _=>0) noH;rw[QB1 (fun _ _=>rfl)]at e;have e:QDp x = .go ((K0 x).foldl plF (0,fun _=>0)) h':=e;simp only[e,cond_true,cond_false];have hlen:=QEg ho;have z:Kq 0:=⟨by omega,by omega⟩
   have hs:=(VI ho).s;obtain⟨p1,p2,p3⟩:=QFA hs (K0 x) (0,fun _=>0) (fun l hl=>⟨QSW ho ((zh ho).1 hl),((zh ho).1 hl).len⟩) (fun _=>z)
   have hc:((K0 x).foldl plF (0,fun _=>0)).1=(K0 x).length:=by
    have:=QCH (f:=plF) (p:=fun s=>s.1) (fun s l=>rfl) (K0 x) (0,fun _=>0) 0 rfl (by omega)
    simpa using this
   generalize hS:(K0 x).foldl plF (0,fun _=>0)=S at p1 p2 p3 hc;cases hL:K0 x with
   | nil=>
    have:decide (S.1>0)=false:=by rw[hc,hL];rfl
    simp only[this];exact⟨by trivial,fun _=>⟨by trivial,by trivial⟩,fun h=>by simp at h⟩
   | cons l L=>
    have:decide (S.1>0)=true:=by rw[hc,hL];simp
    simp only[this]
    have get:∀ j,j<x.scans.n→((List.range x.scans.n).map S.2).getD j 0=S.2 j:=fun j hj=>by
     rw[List.getD_eq_getElem?_getD,List.getElem?_map,List.getElem?_range hj];rfl
    refine⟨by trivial,fun h=>absurd (by trivial) h,fun _=>⟨by simp,fun j => ?_,p1 12,fun j hj k => ?_,fun k => ?_⟩⟩
    ·by_cases hj:j<x.scans.n
     ·rw[get j hj];exact p1 j
     ·rw[List.getD_eq_getElem?_getD,List.getElem?_eq_none (by simp;omega)];exact z
    ·rw[get j hj,p2 j hj k,zJ,Bool.false_or]
    ·rw[p3 k,zJ,Bool.false_or]
def laB(x:QB):List (Nat×Blk):=(8,.cells 0 50 (JQ 0 x))::JN 0 x
theorem QLD{d:Puz}{s:QK}{l:List QC}{c:Nat}{y:QC}:∀{t:Nat},y∈KI d s l c t↔y∈l∨∃ u,u<t∧J2 d s c u=true∧y=⟨c,(u:Nat)⟩
 | 0=>by simp[KI]
 | t+1=>by
  have ih:=QLD (d:=d) (s:=s) (l:=l) (c:=c) (y:=y) (t:=t);simp only[KI];cases hq:J2 d s c t with
  | false=>
   show y∈KI d s l c t↔_;rw[ih];constructor
   ·rintro(h|⟨u,h1,h2⟩)
    ·exact .inl h
    ·exact .inr ⟨u,by omega,h2⟩
   ·rintro(h|⟨u,h1,h2,h3⟩)
    ·exact .inl h
    ·have:u≠t:=fun e=>by rw[e,hq]at h2;cases h2
     exact .inr ⟨u,by omega,h2,h3⟩
  | true=>
   show y∈KI d s l c t++[(⟨c,t⟩:QC)]↔_;rw[List.mem_append,ih,List.mem_singleton];constructor
   ·rintro((h|⟨u,h1,h2⟩)|h)
    ·exact .inl h
    ·exact .inr ⟨u,by omega,h2⟩
    ·exact .inr ⟨t,by omega,hq,h⟩
   ·rintro(h|⟨u,h1,h2,h3⟩)
    ·exact .inl (.inl h)
    ·by_cases e:u=t
     ·subst e;exact .inr h3
     ·exact .inl (.inr ⟨u,by omega,h2,h3⟩)
theorem QD5{d:Puz}{s:QK}{y:QC}:∀{c:Nat},y∈KF d s c↔∃ k u:Nat,k<c∧u<4∧J2 d s k u=true∧y=⟨(k:Nat),(u:Nat)⟩
 | 0=>by simp[KF]
 | c+1=>by
  simp only[KF];rw[QLD,QD5 (c:=c)];constructor
  ·rintro(⟨k,u,h1,h2⟩|⟨u,h1,h2,h3⟩)
   ·exact⟨k,u,by omega,h2⟩
   ·exact⟨c,u,by omega,h1,h2,h3⟩
  ·rintro⟨k,u,h1,h2,h3,h4⟩
   by_cases e:k=c
   ·subst e;exact .inr ⟨u,h2,h3,h4⟩
   ·exact .inl ⟨k,u,by omega,h2,h3,h4⟩
theorem QUh{L:List (List QC)}(h:(Vr L k).cell ≠ -1):∀ l∈L,(l.getD k ⟨0,0⟩).cell=(Vr L k).cell:=by
 intro l hl;unfold Vr at h ⊢;cases e:L.any fun l=>(l.getD k ⟨0,0⟩).cell != ((L.headD []).getD k ⟨0,0⟩).cell with
 | true=>rw[e]at h;exact absurd rfl h
 | false=>
  rw[List.any_eq_false]at e;have:=e l hl;have q:(l.getD k ⟨0,0⟩).cell=((L.headD []).getD k ⟨0,0⟩).cell:=by simpa using this
  rw[cond_false,q];cases L.any fun l=>XD l (L.headD []) k<;>rfl
theorem QI9(h:k<N):(YU L N).getD k ⟨0,0⟩=Vr L k:=by
 rw[QLB (by rw[j5];exact h),QIG]
structure Jg (y x:QB):Prop where
 d:y.d=x.d
 h:y.hang=x.hang
 n:y.scans.n=x.scans.n
 lo:y.lost≤x.lost
 fo:y.foreign≤x.foreign
 q:∀ k,k<x.scans.n→∀ c t:Nat,c<x.d.ps.n→J2 x.d (y.scans.get k) c t=true→J2 x.d (x.scans.get k) c t=true
 r:x.ok=true→K4 x=true→K4 y=true
theorem QVW(h:Jg y x)(hi:i<x.scans.n){s:QC}(hs:s∈Xk y i):s∈Xk x i:=by
 simp only[Xk,List.mem_cons]at hs ⊢;rcases hs with e|e
 ·exact .inl e
 ·right;rw[h.d]at e;obtain⟨k,u,h1,h2,h3,h4⟩:=QD5.1 e;exact QD5.2 ⟨k,u,h1,h2,h.q i hi k u h1 h3,h4⟩
theorem QSp(h:Jg y x)(j:Jn)(a b:QC):Vi y j a b=Vi x j a b:=by
 unfold Vi;rw[h.d]
theorem QQV(h:Jg y x)(ht:Tru y (Qz y y.scans.n) l):Tru x (Qz x x.scans.n) l:=by
 have hl:l.length=x.scans.n:=by rw[ht.len,h.n]
 refine⟨hl,fun i hi => ?_,ht.one,Int.le_trans ht.al h.fo,fun k hk => ?_,?_⟩
 ·rw[jR (by omega)]
  exact QVW h (by omega) (QLn ht hi)
 ·have:=ht.hang k (by rw[h.h];exact hk)
  rwa [QSp h,h.h]at this
 ·have:=ht.lost;unfold YQ at this ⊢;rw[h.d]at this;have:=of_decide_eq_false this;have:=h.lo;exact decide_eq_false (by omega)
theorem QMC{y x:QB}(hx:x.ok=true)(hy:y.ok=true)(h:Jg y x):∀ l∈K0 y,l∈K0 x:=fun _ hl=>(zh hx).2 (QQV h ((zh hy).1 hl))
theorem QFM(hx:x.ok=true)(h:Jg y x)(he:KM y=0):KM x=0:=by
 obtain⟨hy,hr,hne⟩:=QK4 he;obtain⟨l,hl⟩:=List.exists_mem_of_ne_nil _ hne;have hm:=QMC hx hy h l hl;unfold KM;rw[hx];cases h1:K4 x with
 | true=>rw[h.r hx h1]at hr;cases hr
 | false=>
  cases h2:K0 x with
  | nil=>rw[h2]at hm;cases hm
  | cons a b=>rfl
theorem QIR{a b:Int}(h:∀ k,Qv a k=true→Qv b k=true):i64.wrap ((BitVec.ofInt 64 a &&& ~~~BitVec.ofInt 64 b).toNat:Nat)=0:=by
 refine QR1 (zY _) ⟨by omega,by omega⟩ fun k => ?_
 rw[QP6,zJ];cases h1:Qv a k with
 | false=>rfl
 | true=>rw[h k h1];rfl
theorem QId{A B:List (List QC)}(h:∀ l∈A,l∈B){q:List QC→Bool}(e:A.any q=true):B.any q=true:=by
 obtain⟨l,h1,h2⟩:=List.any_eq_true.1 e;exact List.any_eq_true.2 ⟨l,h l h1,h2⟩
structure QQg (y x:QB):Prop where
 e:KM x=0
 l1:(QF y).1.length=(QF x).1.length
 l2:(QL y).1.length=(QL x).1.length
 c:(QF x).1.length=x.scans.n
 t:(QL x).1.length=x.scans.n
 al:i64.wrap ((BitVec.ofInt 64 (QF y).2.1 &&& ~~~BitVec.ofInt 64 (QF x).2.1).toNat:Nat)=0
 ce:∀ k,k<x.scans.n→i64.wrap ((BitVec.ofInt 64 ((QF y).1.getD k 0) &&& ~~~BitVec.ofInt 64 ((QF x).1.getD k 0)).toNat:Nat)=0
 to:∀ k,k<x.scans.n→((((QL x).1.getD k ⟨0,0⟩).cell != -1)&&(((QL y).1.getD k ⟨0,0⟩).cell != ((QL x).1.getD k ⟨0,0⟩).cell))=false
theorem jW(h:KM x=0):(QL x).1=YU (K0 x) x.scans.n:=by rw[QJd,h];rfl
theorem QTR{A B:List (List QC)}(h:∀ l∈A,l∈B)(hA:A≠[])(k:Nat):(((Vr B k).cell != -1)&&((Vr A k).cell != (Vr B k).cell))=false:=by
 by_cases e:(Vr B k).cell = -1
 ·simp[e]
 ·have hs:=fun l hl=>QUh e l (h l hl);obtain⟨f,L,rfl⟩:∃ f L,A=f::L:=by cases A with|nil=>exact absurd rfl hA|cons f L=>exact⟨f,L,rfl⟩
  have h0:=hs f List.mem_cons_self
  have e1:((f::L).any fun l=>(l.getD k ⟨0,0⟩).cell != (((f::L).headD []).getD k ⟨0,0⟩).cell)=false:=by
   rw[List.any_eq_false];intro l hl;rw[hs l hl,List.headD_cons,h0];simp
  have e2:(Vr (f::L) k).cell=(f.getD k ⟨0,0⟩).cell:=by
   unfold Vr;rw[e1,cond_false];cases (f::L).any fun l=>XD l ((f::L).headD []) k<;>rfl
  rw[e2,h0];simp
theorem QMm(hx:x.ok=true)(h:Jg y x)(he:KM y=0):QQg y x:=by
 have ex:=QFM hx h he;obtain⟨hy,_,hne⟩:=QK4 he;have py:=(QDR y).2.2 he;have px:=(QDR x).2.2 ex;have sub:=QMC hx hy h;have n:=h.n;refine⟨ex,by rw[py.len,px.len,n],by rw[jW he,jW ex,j5,j5,n],px.len,by rw[jW ex,j5],QIR fun k hk => ?_,fun k hk=>QIR fun j hj => ?_,fun k hk => ?_⟩
 ·rw[py.ab,qbA]at hk;rw[px.ab,qbA];exact⟨by rw[←n];exact hk.1,QId sub hk.2⟩
 ·rw[py.cb k (by omega)]at hj
  rw[px.cb k hk];exact QId sub hj
 ·rw[jW he,jW ex,QI9 hk,QI9 (by omega)]
  exact QTR sub hne k
theorem QXD(x:QB):Jg x x:=⟨rfl,rfl,rfl,Int.le_refl _,Int.le_refl _,fun _ _ _ _ _ h=>h,fun _ h=>h⟩
theorem QFu{lo fo:Int}(h1:lo≤x.lost)(h2:fo≤x.foreign):Jg { x with lost:=lo,foreign:=fo } x:=⟨rfl,rfl,rfl,h1,h2,fun _ _ _ _ _ h=>h,fun _ h=>h⟩
theorem QNq{lo fo:Int}(h1:x.lost≤lo)(h2:x.foreign≤fo):Jg x { x with lost:=lo,foreign:=fo }:=⟨rfl,rfl,rfl,h1,h2,fun _ _ _ _ _ h=>h,fun _ h=>h⟩
structure QFb where
 off:Sp
 wide:Sp
 deep:Sp
instance : Enc QFb where
  enc x := .agg [.int false .i64 x.off.lo,.int false .i64 x.off.hi,.int false .i64 x.wide.lo,.int false .i64 x.wide.hi,.int false .i64 x.deep.lo,.int false .i64 x.deep.hi]
  dec | .agg [.int _ .i64 a0,.int _ .i64 a1,.int _ .i64 a2,.int _ .i64 a3,.int _ .i64 a4,.int _ .i64 a5] => some ⟨⟨a0,a1⟩,⟨a2,a3⟩,⟨a4,a5⟩⟩ | _ => none
  ok v x h := by
    split at h <;> (try (cases h; done))
    simp only[qsI]at h; subst h; exact⟨fun _ => rfl,rfl⟩
theorem QRA{p:Qg}{t h:Edge}(hB:Qs.B ⟨p,t,h⟩):((-100000≤(Qe p t h).lo∧(Qe p t h).lo≤100000) ∧ -100000≤(Qe p t h).hi∧(Qe p t h).hi≤100000)∧((-100000≤(Qf t h).lo∧(Qf t h).lo≤100000) ∧ -100000≤(Qf t h).hi∧(Qf t h).hi≤100000) ∧
  ((-100000≤(Qc t h).lo∧(Qc t h).lo≤100000) ∧ -100000≤(Qc t h).hi∧(Qc t h).hi≤100000)∧(0≤p.damp.lo∧p.damp.lo≤100)∧0≤p.damp.hi∧p.damp.hi≤100:=by
 obtain⟨h1,h2,h3⟩:=hB;unfold Jc at h1;unfold Jb at h2 h3;simp only[Qe,Qf,Qc]at *;omega
def VT(s:Sp)(lo hi:Int)(d:Sp):Bool:=decide ((-100000≤s.lo∧s.lo≤100000)∧(-100000≤s.hi∧s.hi≤100000)∧(-500≤lo∧lo≤500)∧(-500≤hi∧hi≤500)∧0≤d.hi∧d.hi≤100)
def QFa:Int×Int×Int×Unit→Bool×AV:=fun|(n,(a,(b,_)))=>(true,.bool false (Qa n a b))
def QEu:FC:=Q3 (Q2 QFa)
theorem QWR(n:Int)(a:Int)(b:Int):Qx (mkE Try.prog Z0) (hnd (mkE Try.prog Z0) 0) false Try.f79 (Qm.enc ((n,a,b,()):Int×Int×Int×Unit)) [] 0 =
  QD.br (decide (a≤n)) (QD.leaf (AV.bool false (decide (n≤b))) ([])) (QD.leaf (AV.bool true false) ([])):=by kernel_rfl
theorem QXP:QQ Try.prog 79 QEu:=by
 refine KA QAc 0 Try.func79 (by kernel_rfl) (by kernel_rfl) ?_
 rintro⟨n,a,b,⟨⟩⟩ hp;rw[QWR n a b];simp only[QFa,QD.den,AV.same,AV.sameL,and_true,true_and]at hp ⊢
 (repeat' (first|(refine And.intro ?_ ?_)|(intro _)))<;>simp_all [Qa]<;>omega
def QAH:Tab:=Qh Z0 79 QEu
theorem QKE:QW QAH:=QAc.add QXP
def QIm:Sp×Int×Int×Unit→Bool×AV:=fun|(s,(a,(b,_)))=>(true,.bool false (s.isIn a b))
def QID:FC:=Q3 (Q2 QIm)
theorem QT0(s:Sp)(a:Int)(b:Int):Qx (mkE Try.prog QAH) (hnd (mkE Try.prog QAH) 0) false Try.f80 (Qm.enc ((s,a,b,()):Sp×Int×Int×Unit)) [] 0 =
  QD.br (decide (a≤s.lo)) (QD.br (decide (s.lo≤s.hi)) (QD.leaf (AV.bool false (decide (s.hi≤b))) ([])) (QD.leaf (AV.bool true false) ([]))) (QD.leaf (AV.bool true
  false) ([])):=by kernel_rfl
theorem QU1:QQ Try.prog 80 QID:=by
 refine KA QKE 0 Try.func80 (by kernel_rfl) (by kernel_rfl) ?_
 rintro⟨s,a,b,⟨⟩⟩ hp;rw[QT0 s a b];simp only[QIm,QD.den,AV.same,AV.sameL,and_true,true_and]at hp ⊢
 (repeat' (first|(refine And.intro ?_ ?_)|(intro _)))<;>simp_all [Sp.isIn]<;>omega
def HJ:Tab:=Qh QAH 80 QID
theorem QEe:QW HJ:=QKE.add QU1
def QIE:Edge×Unit→Bool×AV:=fun|(a,_)=>(true,.bool false a.ok)
def QHy:FC:=Q3 (Q2 QIE)
theorem QTK(a:Edge):Qx (mkE Try.prog HJ) (hnd (mkE Try.prog HJ) 0) false Try.f57 (Qm.enc ((a,()):Edge×Unit)) [] 0 =
  QD.br (a.kind==(0:Int)) (QD.leaf (AV.bool true true) ([])) (QD.need (true) (QD.br (Qa a.kind (1:Int) (2:Int)) (QD.need (true) (QD.br (a.at_.isIn (0:Int)
  (10000:Int)) (QD.need (true) (QD.br (a.wide.isIn (1:Int) (3000:Int)) (QD.need (true) (QD.leaf (AV.bool false (a.deep.isIn (1:Int) (3000:Int))) ([]))) (QD.leaf
  (AV.bool true false) ([])))) (QD.leaf (AV.bool true false) ([])))) (QD.leaf (AV.bool true false) ([])))):=by kernel_rfl
theorem QQB:QQ Try.prog 57 QHy:=by
 refine KA QEe 0 Try.func57 (by kernel_rfl) (by kernel_rfl) ?_
 rintro⟨a,⟨⟩⟩ hp;rw[QTK a];simp only[QIE,QD.den,AV.same,AV.sameL,and_true,true_and]at hp ⊢
 have hw:Qa a.kind 1 2=((a.kind==1)||(a.kind==2)):=by
  unfold Qa;rw[Bool.eq_iff_iff];simp only[qdE,qbO,beq_iff_eq];omega
 simp only[hw];unfold Edge.ok;cases (a.kind==0)<;>cases ((a.kind==1)||(a.kind==2))<;>cases a.at_.isIn 0 10000<;>cases a.wide.isIn 1 3000<;>simp
def z8:Tab:=Qh HJ 57 QHy
theorem QK9:QW z8:=QEe.add QQB
def QML:Qg×Unit→Bool×AV:=fun|(p,_)=>(true,.bool false p.ok)
def QIs:FC:=Q3 (Q2 QML)
theorem QVw(p:Qg):Qx (mkE Try.prog z8) (hnd (mkE Try.prog z8) 0) false Try.f67 (Qm.enc ((p,()):Qg×Unit)) [] 0 =
  QD.need (true) (QD.br (Qa p.length (1:Int) (10000:Int)) (QD.need (true) (QD.br (Qa p.slack (0:Int) (500:Int)) (QD.need (true) (QD.br (Qa p.loose (0 :
  Int) (500:Int)) (QD.need (true) (QD.leaf (AV.bool false (p.damp.isIn (0:Int) (100:Int))) ([]))) (QD.leaf (AV.bool true false) ([])))) (QD.leaf (AV.bool true false)
  ([])))) (QD.leaf (AV.bool true false) ([]))):=by kernel_rfl
theorem QM8:QQ Try.prog 67 QIs:=by
 refine KA QK9 0 Try.func67 (by kernel_rfl) (by kernel_rfl) ?_
 rintro⟨p,⟨⟩⟩ hp;rw[QVw p];simp only[QML,QD.den,AV.same,AV.sameL,and_true,true_and]at hp ⊢
 (repeat' (first|(refine And.intro ?_ ?_)|(intro _)))<;>simp_all [Qg.ok]
def HQ:Tab:=Qh z8 67 QIs
theorem QGM:QW HQ:=QK9.add QM8
def QLP:Qg×Edge×Edge×Unit→Bool×AV:=fun|(p,(t,(h,_)))=>(decide (Qs.B ⟨p,t,h⟩),Enc.enc (⟨Qe p t h,Qf t h,Qc t h⟩:QFb))
def QI5:FC:=Q3 (Q2 QLP)
theorem QT6(p:Qg)(t:Edge)(h:Edge):Qx (mkE Try.prog HQ) (hnd (mkE Try.prog HQ) 0) false Try.f104 (Qm.enc ((p,t,h,()):Qg×Edge×Edge×Unit)) [] 0 =
  QD.leaf (AV.agg [AV.int false i64 (i64.wrap (i64.wrap (t.at_.lo+h.at_.lo)-p.length)),AV.int false i64 (i64.wrap (i64.wrap
  (t.at_.hi+h.at_.hi)-p.length)),AV.int false i64 (i64.wrap (h.wide.lo-t.wide.hi)),AV.int false i64 (i64.wrap (h.wide.hi-t.wide.lo)),AV.int
  false i64 (i64.wrap (h.deep.lo-t.deep.hi)),AV.int false i64 (i64.wrap (h.deep.hi-t.deep.lo))]) ([]):=by kernel_rfl
theorem QSP:QQ Try.prog 104 QI5:=by
 refine KA QGM 0 Try.func104 (by kernel_rfl) (by kernel_rfl) ?_
 rintro⟨p,t,h,⟨⟩⟩ hp;rw[QT6 p t h];simp only[QLP,QD.den,AV.same,AV.sameL,and_true,true_and]at hp ⊢;have hq:=qdt hp;obtain⟨h1,h2,h3⟩:=hq;unfold Jc at h1;unfold Jb at h2 h3;simp only at h1 h2 h3;simp only[Enc.enc,AV.same,AV.sameL,true_and,and_true,Qe,Qf,Qc];rw[w64 (n:=t.at_.lo+h.at_.lo) (by omega) (by omega),w64 (n:=t.at_.hi+h.at_.hi) (by omega) (by omega)]
 rw[w64 (by omega) (by omega),w64 (by omega) (by omega),w64 (by omega) (by omega),w64 (by omega) (by omega),w64 (by omega) (by omega),w64 (by omega) (by omega)]
 refine⟨?_,?_,?_,?_,?_,?_⟩<;>omega
def QAJ:Tab:=Qh HQ 104 QI5
theorem QF0:QW QAJ:=QGM.add QSP
def QEo:Sp×Int×Int×Sp×Unit→Bool×AV:=fun|(s,(lo,(hi,(d,_))))=>(VT s lo hi d,.bool false (KN s.lo s.hi lo hi d.hi))
def QKv:FC:=Q3 (Q2 QEo)
theorem QNA(s:Sp)(lo:Int)(hi:Int)(d:Sp):Qx (mkE Try.prog QAJ) (hnd (mkE Try.prog QAJ) 0) false Try.f105 (Qm.enc ((s,lo,hi,d,()):Sp×Int×Int×Sp×Unit)) [] 0 =
  QD.br (decide (i64.wrap (s.lo*i64.wrap ((1000:Int)+d.hi))≥i64.wrap ((1000:Int)*lo))) (QD.leaf (AV.bool false (decide (i64.wrap (s.hi
  * i64.wrap ((1000:Int)+d.hi))≤i64.wrap ((1000:Int)*hi)))) ([])) (QD.leaf (AV.bool true false) ([])):=by kernel_rfl
theorem QP7:QQ Try.prog 105 QKv:=by
 refine KA QF0 0 Try.func105 (by kernel_rfl) (by kernel_rfl) ?_
 rintro⟨s,lo,hi,d,⟨⟩⟩ hp;rw[QNA s lo hi d];simp only[QEo,QD.den,AV.same,AV.sameL,and_true,true_and]at hp ⊢;have hq:=qdt hp;obtain⟨h1,h2,h3,h4,h5⟩:=hq;exact zS h1 h2 h3 h4 h5
def Xz:Tab:=Qh QAJ 105 QKv
theorem jN:QW Xz:=QF0.add QP7
end Go.Proofs.Ytbpffdkemeoajaa
