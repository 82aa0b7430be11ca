/- - -/
import Derived.Test.YtbpffdkemeoajaaMwzh
import Derived.Test.YtbpffdkemeoajaaMwzg
import Derived.Test.YtbpffdkemeoajaaMwza
import Derived.Test.YtbpffdkemeoajaaMwzl
import Derived.Test.YtbpffdkemeoajaaMwzk
import Derived.Test.YtbpffdkemeoajaaMws
import Derived.Test.YtbpffdkemeoajaaMwp
open Go.IntKind (i64)
set_option maxRecDepth 100000
namespace Go.Proofs.Ytbpffdkemeoajaa
open Go Go.SX
def okC(x:QE)(l:List QB)(c:QB):Bool := !Ks x l c&&KS x (l++[c])
def zM(x:QE)(l:List QB):Bool := !YF x l
def ZK(x:QE)(C:List (List QB)):Nat→List QB→List (List QB):=Xs (fun l=>QH C l.length) (okC x) (zM x)
theorem QH3{σ:Type}{Y:σ→List QB→σ×Bool}{f:σ→(Int→Bool)→QB→Res σ}{g:QB→List (List QB)}(hf:∀ c s h,∃ h',f s h c=match Jr Y (g c) s with
  | (s',true) => .go s' h'
  | (s',false) => .stop s' h'):∀(cs:List QB) (s:σ) (h:Int→Bool),∃ h',JV f cs s h=match Jr Y (cs.flatMap g) s with
  | (s',true) => .go s' h'
  | (s',false) => .stop s' h'
 | [],s,h=>⟨h,rfl⟩
 | c::cs,s,h=>by
  obtain⟨h1,e⟩:=hf c s h;rw[List.flatMap_cons,QIk,JV,e];cases e2:Jr Y (g c) s with
  | mk s' q=>
   cases q with
   | true=>exact QH3 hf cs s' h1
   | false=>exact⟨h1,rfl⟩
theorem H1{σ:Type}(x:QE)(C:List (List QB))(Y:σ→List QB→σ×Bool):∀(d:Nat) (l:List QB) (s:σ) (h:Int→Bool),∃ h',onT x C Y d l s h=match Jr Y (ZK x C d l) s with
  | (s',true) => .go s' h'
  | (s',false) => .stop s' h'
 | 0,l,s,h=>by
  refine⟨h,?_⟩;simp only[onT,Ja,ZK,Xs,zM];cases YF x l with
  | true=>rfl
  | false=>
   simp only[Bool.not_false,cond_true,Jr];cases Y s l with
   | mk s' q=>cases q<;>rfl
 | d+1,l,s,h=>by
  rw[onT];refine QH3 (g:=fun c=>cond (okC x l c) (ZK x C d (l++[c])) []) (fun c s h => ?_) _ s h;unfold KQ okC;cases Ks x l c with
  | true=>exact⟨h,rfl⟩
  | false=>
   cases KS x (l++[c])with
   | false=>exact⟨_,rfl⟩
   | true=>
    obtain⟨h1,e⟩:=H1 x C Y d (l++[c]) s (QV c.cell true h);simp only[e,Bool.not_false,Bool.and_self,cond_true];cases Jr Y (ZK x C d (l++[c])) s with
    | mk s' q=>
     cases q with
     | true=>exact⟨_,rfl⟩
     | false=>exact⟨_,rfl⟩
structure Tru (x:QE) (C:List (List QB)) (l:List QB):Prop where
 len:l.length=x.scans.n
 can:∀ i (h:i<l.length),l[i]∈QH C i
 one:∀ i j (hi:i<j) (hj:j<l.length),l[j].cell ≠ -2→l[i].cell≠l[j].cell
 al:QG l (-2)≤x.foreign
 hang:∀ k,k<x.hang.n→YE x (x.hang.get k) (l.getD (x.hang.get k).a.toNat ⟨0,0⟩) (l.getD (x.hang.get k).b.toNat ⟨0,0⟩)=true
 lost:YF x l=false
theorem QNz{l:List QB}{n:Int}:QG l n<1↔∀ s∈l,s.cell≠n:=by
 unfold QG;constructor
 ·intro h s hs e;have:0<l.countP fun s=>s.cell==n:=List.countP_pos_iff.2 ⟨s,hs,by simp[e]⟩
  omega
 ·intro h;have:(l.countP fun s=>s.cell==n)=0:=List.countP_eq_zero.2 fun s hs=>by simpa using h s hs
  omega
variable {l:List QB}{α:Type}{i:Nat}{x:QE}(L:List (List QB))(a b:Rw Int)(k:Nat)
theorem QRL{n:Int}(i:Nat):QG (l.take i) n≤QG l n:=by
 unfold QG;have:=List.Sublist.countP_le (p:=fun s:QB=>s.cell==n) (List.take_sublist i l);omega
theorem QAU{l:List α}(h:i<l.length):l.take (i+1)=l.take i++[l[i]]:=by
 rw[List.take_add_one,List.getElem?_eq_getElem h];rfl
theorem QOh:KS x l=true↔∀ k,k<x.hang.n→Y5 x l k=true→YE x (x.hang.get k) (l.getD (x.hang.get k).a.toNat ⟨0,0⟩) (l.getD (x.hang.get k).b.toNat ⟨0,0⟩)=true:=by
 unfold KS;rw[Option.isNone_iff_eq_none];constructor
 ·intro h k hk hm;have:=Hm h k (Nat.zero_le _) (by omega)
  simpa only [VL,hm,Bool.true_and,Bool.not_eq_false']using this
 ·intro h;refine Hf fun k _ hk => ?_;unfold VL;cases hm:Y5 x l k with
  | false=>rfl
  | true=>rw[h k (by omega) hm];rfl
theorem H4{l:List α}{k:Nat}{z:α}(h:k<i):(l.take i).getD k z=l.getD k z:=by
 rw[List.getD_eq_getElem?_getD,List.getD_eq_getElem?_getD,List.getElem?_take_of_lt h]
structure QIe (x:QE):Prop where
 f:0≤x.foreign
 a:∀ k,k<x.hang.n→0≤(x.hang.get k).a∧(x.hang.get k).a<x.scans.n
 b:∀ k,k<x.hang.n→0≤(x.hang.get k).b∧(x.hang.get k).b<x.scans.n
theorem QUI{C:List (List QB)}(hx:QIe x):l∈ZK x C x.scans.n []↔Tru x C l:=by
 unfold ZK;rw[QRB];simp only[List.nil_append];constructor
 ·rintro⟨t,h1,rfl,h2,h3⟩;rw[QGs]at h2;simp only[List.nil_append,okC,qbA,Bool.not_eq_true']at h2;refine⟨h1,fun i h => ?_,fun i j hi hj hc he => ?_,?_,fun k hk => ?_,by simpa[zM]using h3⟩
  ·have:=(h2 i h).1
   rwa [List.length_take,Nat.min_eq_left (by omega)]at this
  ·have hf:=(h2 j hj).2.1;unfold Ks at hf;rw[show(l[j].cell == -2)=false by simpa using hc]at hf
   have hf:QG (l.take j) l[j].cell<1:=by simpa using hf
   refine QNz.1 hf l[i] ?_ he;rw[List.mem_take_iff_getElem];exact⟨i,by omega,rfl⟩
  ·have key:∀ i,i≤l.length→QG (l.take i) (-2)≤x.foreign:=by
    intro i
    induction i with
    | zero=>intro _;simpa[QG]using hx.f
    | succ i ih=>
     intro hi;have hi:i<l.length:=hi;rw[QAU hi,vU];have hf:=(h2 i hi).2.1;unfold Ks at hf;split
     ·rename_i e;rw[e]at hf;simp at hf;omega
     ·exact ih (by omega)
   have:=key l.length (qlr _)
   rwa [List.take_length]at this
  ·have ha:=hx.a k hk;have hb:=hx.b k hk;have hm:(max (x.hang.get k).a (x.hang.get k).b).toNat<l.length:=by omega
   have hf:=(h2 _ hm).2.2;rw[←QAU hm,QOh]at hf
   have:=hf k hk (by
    unfold Y5;rw[List.length_take,Nat.min_eq_left (by omega)]
    simp;omega)
   rwa [H4 (by omega),H4 (by omega)]at this
 ·intro h;refine⟨l,h.len,rfl,?_,by simp[zM,h.lost]⟩
  rw[QGs];intro i hi;simp only[List.nil_append,okC,qbA,Bool.not_eq_true'];refine⟨?_,?_,?_⟩
  ·rw[List.length_take,Nat.min_eq_left (by omega)];exact h.can i hi
  ·unfold Ks;cases hc:l[i].cell == -2 with
   | true=>
    have hc:l[i].cell = -2:=by simpa using hc
    have h1:=QRL (l:=l) (n := -2) (i+1);rw[QAU hi,vU,if_pos hc]at h1;have h2:=h.al;rw[hc];simp;omega
   | false=>
    have hc:l[i].cell ≠ -2:=by simpa using hc
    have:QG (l.take i) l[i].cell<1:=QNz.2 fun s hs=>by
     obtain⟨k,hk,rfl⟩:=List.mem_take_iff_getElem.1 hs;exact h.one k i (by omega) hi hc
    simpa using this
  ·rw[←QAU hi,QOh];intro k hk hm;have ha:=hx.a k hk;have hb:=hx.b k hk;unfold Y5 at hm;rw[List.length_take,Nat.min_eq_left (by omega)]at hm
   have hm:max (x.hang.get k).a (x.hang.get k).b=i:=by simpa using hm
   rw[H4 (by omega),H4 (by omega)]
   exact h.hang k hk
theorem QDu{σ:Type}{f:σ→List QB→σ}{p:σ→Int}(hp:∀ s l,p (f s l)=i64.wrap (p s+1)):∀(ls:List (List QB)) (s:σ) (n:Nat),p s=n→n+ls.length<2^63→p (ls.foldl f s)=((n+ls.length:Nat):Int)
 | [],s,n,h,_=>by simpa using h
 | l::ls,s,n,h,hn=>by
  simp only[List.length_cons]at hn ⊢;rw[List.foldl_cons,QDu hp ls (f s l) (n+1) (by rw[hp,h];exact(zn ⟨by omega,by omega⟩).trans (by omega)) (by omega)]
  omega
structure QE6 (l:List QB):Prop where
 s:∀ c∈l,c.cell = -2∨0≤c.cell∧c.cell<63
theorem QPm{l:List α}{z:α}(h:i<l.length):l.getD i z∈l:=by
 rw[List.getD_eq_getElem?_getD,List.getElem?_eq_getElem h];exact List.getElem_mem h
theorem QZz{l:List α}{z:α}(h:i<l.length):l.getD i z=l[i]:=by
 rw[List.getD_eq_getElem?_getD,List.getElem?_eq_getElem h];rfl
theorem QEJ(l f:List QB)(m:Int){k:Nat}(hk:k<64):∀ n,Q8 (mvL l f m n) k=(Q8 m k||(decide (k<n)&&((l.getD k ⟨0,0⟩).cell != (f.getD k ⟨0,0⟩).cell)))
 | 0=>by simp[mvL]
 | n+1=>by
  have ih:=QEJ l f m hk n;rw[mvL]
  by_cases e:k=n
  ·subst e;rw[decide_eq_false (qli _),Bool.false_and,Bool.or_false]at ih;cases h:(l.getD k ⟨0,0⟩).cell != (f.getD k ⟨0,0⟩).cell with
   | true=>simp only[VW];rw[jF (Int.natCast_nonneg _)];simp[hk]
   | false=>simp only[ih,Bool.and_false,Bool.or_false]
  ·have e1:decide (k<n+1)=decide (k<n):=decide_eq_decide.2 (by omega)
   rw[e1,←ih];split
   ·simp only[VW];rw[jF (Int.natCast_nonneg _)];have:decide ((n:Int)=(k:Int))=false:=by simp;omega
    rw[this];simp
   ·rfl
theorem QD0(l f:List QB)(m:Int){k:Nat}(hk:k<64):∀ n,Q8 (tuL l f m n) k=(Q8 m k||(decide (k<n)&&Ys l f k))
 | 0=>by simp[tuL]
 | n+1=>by
  have ih:=QD0 l f m hk n;rw[tuL]
  by_cases e:k=n
  ·subst e;rw[decide_eq_false (qli _),Bool.false_and,Bool.or_false]at ih;cases h:Ys l f k with
   | true=>simp only[VW];rw[jF (Int.natCast_nonneg _)];simp[hk]
   | false=>simp only[ih,Bool.and_false,Bool.or_false]
  ·have e1:decide (k<n+1)=decide (k<n):=decide_eq_decide.2 (by omega)
   rw[e1,←ih];split
   ·simp only[VW];rw[jF (Int.natCast_nonneg _)];have:decide ((n:Int)=(k:Int))=false:=by simp;omega
    rw[this];simp
   ·rfl
theorem QF6(l f:List QB){m:Int}(hm:JK m):∀ n,JK (mvL l f m n)
 | 0=>hm
 | n+1=>by
  rw[mvL];split
  ·exact QCL _
  ·exact QF6 l f hm n
theorem QGQ(l f:List QB){m:Int}(hm:JK m):∀ n,JK (tuL l f m n)
 | 0=>hm
 | n+1=>by
  rw[tuL];split
  ·exact QCL _
  ·exact QGQ l f hm n
def tdF(s:TdS)(l:List QB):TdS:=(tdY s l).1
theorem QNf{f:List QB}{N:Nat}:∀(L:List (List QB)) (s:TdS) (n:Nat),(∀ l∈L,l.length=N)→s.2.1=n→0<n→n+L.length<2^63→s.2.2.1=f→JK s.2.2.2.1→JK s.2.2.2.2 →
  (L.foldl tdF s).2.2.1=f∧JK (L.foldl tdF s).2.2.2.1∧JK (L.foldl tdF s).2.2.2.2∧∀ k,k<64→k<N→Q8 (L.foldl tdF s).2.2.2.1 k=(Q8 s.2.2.2.1 k||L.any fun l=>(l.getD k ⟨0,0⟩).cell != (f.getD k ⟨0,0⟩).cell)∧Q8 (L.foldl tdF s).2.2.2.2 k=(Q8 s.2.2.2.2 k||L.any fun l=>Ys l f k)
 | [],s,n,_,_,_,_,hf,h1,h2=>⟨hf,h1,h2,fun k _ _=>by simp⟩
 | l::L,s,n,hN,hn,hp,hL,hf,h1,h2=>by
  simp only[List.length_cons]at hL;have q:(s.2.1==0)=false:=by rw[hn];simp;omega
  have e:Q9 s.2.1 l s.2.2.1=f:=by rw[Q9,q,hf]
  have hl:=hN l List.mem_cons_self
  obtain⟨a1,a2,a3,a4⟩:=QNf (f:=f) (N:=N) L (tdF s l) (n+1) (fun y hy=>hN y (List.mem_cons_of_mem _ hy)) (by
   show i64.wrap (s.2.1+1)=_;rw[hn];exact(zn ⟨by omega,by omega⟩).trans (by omega)) (by omega) (by omega) e (QF6 _ _ h1 _) (QGQ _ _ h2 _)
  refine⟨a1,a2,a3,fun k hk hkN => ?_⟩;obtain⟨b1,b2⟩:=a4 k hk hkN;rw[List.foldl_cons,b1,b2,List.any_cons,List.any_cons,←Bool.or_assoc,←Bool.or_assoc];have d1:decide (k<l.length)=true:=decide_eq_true (by omega)
  constructor
  ·congr 1;show Q8 (mvL l (Q9 s.2.1 l s.2.2.1) s.2.2.2.1 l.length) k=_;rw[e,QEJ _ _ _ hk,d1,Bool.true_and]
  ·congr 1;show Q8 (tuL l (Q9 s.2.1 l s.2.2.1) s.2.2.2.2 l.length) k=_;rw[e,QD0 _ _ _ hk,d1,Bool.true_and]
theorem QSn{f:List QB}{L:List (List QB)}{N:Nat}(hN:∀ l∈f::L,l.length=N)(hL:(f::L).length<2^63):∃ s:TdS,(f::L).foldl tdF (0,0,[],0,0)=s∧s.1=(f::L).length∧s.2.2.1=f∧JK s.2.2.2.1∧JK s.2.2.2.2∧∀ k,k<64→k<N→Q8 s.2.2.2.1 k=((f::L).any fun l=>(l.getD k ⟨0,0⟩).cell != (f.getD k ⟨0,0⟩).cell)∧Q8 s.2.2.2.2 k=((f::L).any fun l=>Ys l f k):=by
 refine⟨_,rfl,?_,?_⟩
 ·have:=QDu (f:=tdF) (p:=fun s=>s.1) (fun s l=>rfl) (f::L) (0,0,[],0,0) 0 rfl (by omega)
  simpa using this
 ·have z:JK 0:=⟨by omega,by omega⟩
  have e:Q9 0 f []=f:=rfl;have hf:=hN f List.mem_cons_self;simp only[List.length_cons]at hL;obtain⟨a1,a2,a3,a4⟩:=QNf (f:=f) (N:=N) L (tdF (0,0,[],0,0) f) 1 (fun y hy=>hN y (List.mem_cons_of_mem _ hy)) rfl (by omega) (by omega) e (QF6 _ _ z _) (QGQ _ _ z _)
  refine⟨a1,a2,a3,fun k hk hkN => ?_⟩;obtain⟨b1,b2⟩:=a4 k hk hkN;rw[List.foldl_cons,b1,b2,List.any_cons,List.any_cons];have d1:decide (k<f.length)=true:=decide_eq_true (by omega)
  constructor
  ·congr 1;show Q8 (mvL f (Q9 0 f []) 0 f.length) k=_;rw[e,QEJ _ _ _ hk,d1,Bool.true_and,QAl,Bool.false_or]
  ·congr 1;show Q8 (tuL f (Q9 0 f []) 0 f.length) k=_;rw[e,QD0 _ _ _ hk,d1,Bool.true_and,QAl,Bool.false_or]
theorem QHi(f:List QB)(m t:Int)(k:Nat):∀ n,n≤f.length→(Kg f m t n).getD k ⟨0,0⟩=if k<n then Xk m t k (f.getD k ⟨0,0⟩)else f.getD k ⟨0,0⟩
 | 0,_=>by simp[Kg]
 | n+1,h=>by
  have ih:=QHi f m t k n (by omega)
  rw[Kg]
  by_cases e:k=n
  ·subst e;rw[if_neg (qli _)]at ih;rw[if_pos (Nat.lt_succ_self _),List.getD_eq_getElem?_getD,List.getElem?_set_self (by rw[qj];omega),Option.getD_some,ih]
  ·rw[List.getD_eq_getElem?_getD,List.getElem?_set_ne (fun h=>e h.symm),←List.getD_eq_getElem?_getD,ih]
   by_cases h2:k<n
   ·rw[if_pos h2,if_pos (by omega)]
   ·rw[if_neg h2,if_neg (by omega)]
def QF5:QB:=
 cond (L.any fun l=>(l.getD k ⟨0,0⟩).cell != ((L.headD []).getD k ⟨0,0⟩).cell) ⟨-1,0⟩
  (cond (L.any fun l=>Ys l (L.headD []) k) ⟨((L.headD []).getD k ⟨0,0⟩).cell,0⟩ ((L.headD []).getD k ⟨0,0⟩))
def W9(N:Nat):List QB:=(List.range N).map (QF5 L)
theorem QJO(N:Nat):(W9 L N).length=N:=by simp[W9]
theorem QZB(N:Nat){k:Nat}(h:k<(W9 L N).length):(W9 L N)[k]=QF5 L k:=by simp[W9]
theorem QVM{f:List QB}{L:List (List QB)}{N:Nat}(h64:N≤64)(hN:∀ l∈f::L,l.length=N)(hL:(f::L).length<2^63):∃ s:TdS,(f::L).foldl tdF (0,0,[],0,0)=s∧s.1=(f::L).length∧Kg s.2.2.1 s.2.2.2.1 s.2.2.2.2 s.2.2.1.length=W9 (f::L) N:=by
 obtain⟨s,e,h1,h2,h3,h4,h5⟩:=QSn hN hL;refine⟨s,e,h1,?_⟩;have hf:=hN f List.mem_cons_self;rw[h2];apply List.ext_getElem
 ·rw[qj,QJO,hf]
 ·intro k hk hk2;rw[qj]at hk;have:=QHi f s.2.2.2.1 s.2.2.2.2 k f.length (qlr _);rw[if_pos hk,QZz (by rw[qj];exact hk)]at this
  rw[this,QZB];obtain⟨b1,b2⟩:=h5 k (by omega) (by omega)
  show Xk _ _ _ _=_;unfold Xk QF5;have v1:bitV s.2.2.2.1 k=Q8 s.2.2.2.1 k:=Go.SX.bitV_bit h3 (by omega)
  have v2:bitV s.2.2.2.2 k=Q8 s.2.2.2.2 k:=Go.SX.bitV_bit h4 (by omega)
  rw[v1,v2,b1,b2];simp only[List.headD_cons];split
  ·rename_i q;rw[q];rfl
  ·rename_i q;rw[q];split
   ·rename_i q;rw[q];rfl
   ·rename_i q;rw[q];rfl
theorem QKx{l:List QB}(hl:QE6 l)(f:Nat→Int){j:Nat}(hj:j<12)(k:Nat):∀ n,n≤l.length→n≤12→Q8 (plL l f n j) k=(Q8 (f j) k||(decide (j<n)&&((l.getD j ⟨0,0⟩).cell==(k:Int))))
 | 0,_,_=>by simp[plL]
 | n+1,h,h12=>by
  have ih:=QKx hl f hj k n (by omega) (by omega)
  rw[plL,plS];have hc:=hl.s (l.getD n ⟨0,0⟩) (QPm (by omega))
  have q12:Nat.beq j 12=false:=by
   cases hb:Nat.beq j 12 with
   | true=>have:=Nat.eq_of_beq_eq_true hb;omega
   | false=>rfl
  cases e:(l.getD n ⟨0,0⟩).cell == -2 with
  | true=>
   simp only[q12];have e:(l.getD n ⟨0,0⟩).cell = -2:=by simpa using e
   rw[ih]
   by_cases q:j=n
   ·subst q;rw[e];have:((-2:Int)==(k:Int))=false:=by rw[beq_eq_false_iff_ne];omega
    rw[this];simp
   ·rw[decide_eq_decide.2 (show j<n+1↔j<n by omega)]
  | false=>
   have e:(l.getD n ⟨0,0⟩).cell ≠ -2:=by simpa using e
   have h0:0≤(l.getD n ⟨0,0⟩).cell∧(l.getD n ⟨0,0⟩).cell<63:=by omega
   by_cases q:j=n
   ·subst q;rw[Nat.beq_refl];simp only[VW];rw[jF h0.1,ih];simp only[qli,decide_false,Bool.false_and,Bool.or_false,Nat.lt_succ_self,decide_true,Bool.true_and];congr 1
    by_cases hk:(l.getD j ⟨0,0⟩).cell=(k:Int)
    ·have:k<64:=by omega
     rw[hk];simp[this]
    ·have h2:((l.getD j ⟨0,0⟩).cell==(k:Int))=false:=by simpa using hk
     rw[h2,decide_eq_false hk,Bool.and_false]
   ·have q2:Nat.beq j n=false:=by
     cases hb:Nat.beq j n with
     | true=>exact absurd (Nat.eq_of_beq_eq_true hb) q
     | false=>rfl
    simp only[q2];rw[ih,decide_eq_decide.2 (show j<n+1↔j<n by omega)]
theorem QIL{l:List QB}(f:Nat→Int)(k:Nat):∀ n,n≤l.length→n≤12→Q8 (plL l f n 12) k=(Q8 (f 12) k||(decide (k<n)&&((l.getD k ⟨0,0⟩).cell == -2)))
 | 0,_,_=>by simp[plL]
 | n+1,h,h12=>by
  have ih:=QIL (l:=l) f k n (by omega) (by omega)
  rw[plL,plS];cases e:(l.getD n ⟨0,0⟩).cell == -2 with
  | true=>
   have e0:Nat.beq 12 12=true:=rfl;simp only[e0,VW];rw[jF (Int.natCast_nonneg _),ih]
   by_cases q:k=n
   ·subst q;have:k<64:=by omega
    rw[e,decide_eq_true this,decide_eq_true (Nat.lt_succ_self k),decide_eq_true (rfl:(k:Int)=k)];simp
   ·have:decide ((n:Int)=(k:Int))=false:=by simp;omega
    rw[this,decide_eq_decide.2 (show k<n+1↔k<n by omega),Bool.and_false,Bool.or_false]
  | false=>
   have q2:Nat.beq 12 n=false:=by
    cases hb:Nat.beq 12 n with
    | true=>have:=Nat.eq_of_beq_eq_true hb;omega
    | false=>rfl
   simp only[q2];rw[ih]
   by_cases q:k=n
   ·subst q;rw[e];simp
   ·rw[decide_eq_decide.2 (show k<n+1↔k<n by omega)]
theorem QFO{l:List QB}{f:Nat→Int}(hf:∀ j,JK (f j)):∀ n j,JK (plL l f n j)
 | 0,j=>hf j
 | n+1,j=>by
  rw[plL,plS];split
  ·split
   ·exact QCL _
   ·exact QFO hf n j
  ·split
   ·exact QCL _
   ·exact QFO hf n j
def plF(s:PlS)(l:List QB):PlS:=(plY s l).1
theorem QLF{N:Nat}(h12:N≤12):∀(L:List (List QB)) (s:PlS),(∀ l∈L,QE6 l∧l.length=N)→(∀ j,JK (s.2 j)) →
  (∀ j,JK ((L.foldl plF s).2 j))∧(∀ j,j<N→∀ k,Q8 ((L.foldl plF s).2 j) k=(Q8 (s.2 j) k||L.any fun l=>(l.getD j ⟨0,0⟩).cell==(k:Int)))∧∀ k,Q8 ((L.foldl plF s).2 12) k=(Q8 (s.2 12) k||(decide (k<N)&&L.any fun l=>(l.getD k ⟨0,0⟩).cell == -2))
 | [],s,_,h=>⟨h,fun j _ k=>by simp,fun k=>by simp⟩
 | l::L,s,h,hs=>by
  obtain⟨h1,h2⟩:=h l List.mem_cons_self;obtain⟨a1,a2,a3⟩:=QLF h12 L (plF s l) (fun y hy=>h y (List.mem_cons_of_mem _ hy)) (QFO hs _);refine⟨a1,fun j hj k => ?_,fun k => ?_⟩
  ·rw[List.foldl_cons,a2 j hj k,List.any_cons,←Bool.or_assoc];congr 1;show Q8 (plL l s.2 l.length j) k=_;rw[QKx h1 _ (by omega) _ _ (qlr _) (by omega),decide_eq_true (show j<l.length by omega),Bool.true_and]
  ·rw[List.foldl_cons,a3 k,List.any_cons]
   have e:Q8 ((plF s l).2 12) k=(Q8 (s.2 12) k||(decide (k<N)&&((l.getD k ⟨0,0⟩).cell == -2))):=by
    show Q8 (plL l s.2 l.length 12) k=_;rw[QIL _ _ _ (qlr _) (by omega),h2]
   rw[e,Bool.or_assoc,Bool.and_or_distrib_left]
theorem QKt:∀(L:List (List QB)) (n:Nat) (f g:List QB),2≤n→n<100→(Jr trY L ((n:Int),f,g)).1=(((min (n+L.length) 100:Nat):Int),f,g)
 | [],n,f,g,h1,h2=>by
  simp only[Jr,List.length_nil];rw[Nat.min_eq_left (by omega)];rfl
 | l::L,n,f,g,h1,h2=>by
  have w:i64.wrap ((n:Int)+1)=((n+1:Nat):Int):=(zn ⟨by omega,by omega⟩).trans (by omega)
  have e1:((n+1:Nat):Int)≠1:=by omega
  have e2:((n+1:Nat):Int)≠2:=by omega
  have e:trY ((n:Int),f,g) l=((((n+1:Nat):Int),f,g),!(((n+1:Nat):Int)==100)):=by
   simp only[trY,w,Z8,WQ,beq_eq_false_iff_ne.2 e1,beq_eq_false_iff_ne.2 e2]
  simp only[Jr,e]
  by_cases h:n+1=100
  ·have q:(((n+1:Nat):Int)==100)=true:=by simp;omega
   rw[q];simp only[Bool.not_true,List.length_cons];rw[Nat.min_eq_right (by omega),h]
  ·have q:(((n+1:Nat):Int)==100)=false:=by simp;omega
   rw[q];simp only[Bool.not_false];rw[QKt L (n+1) f g (by omega) (by omega),List.length_cons]
   congr 3;omega
theorem QUX:(Jr trY L (0,[],[])).1=(((min L.length 100:Nat):Int),L.headD [],L.getD 1 []):=by
 match L with
 | []=>rfl
 | [l]=>rfl
 | l::l2::L=>
  have e1:trY (0,[],[]) l=((1,l,[]),true):=rfl;have e2:trY (1,l,[]) l2=((2,l,l2),true):=rfl;simp only[Jr,e1,e2];have:=QKt L 2 l l2 (by omega) (by omega)
  rw[show((2:Nat):Int)=2 from rfl]at this;rw[this];simp only[List.length_cons,List.headD_cons];congr 3;omega
def QHb(l:List QB)(k:Nat):Bool:=l.any fun s=>s.cell==(k:Int)
structure QaH (l:List QB) (n:Nat):Prop where
 s:∀ c∈l,c.cell = -2∨0≤c.cell∧c.cell<n
 one:l.Pairwise fun a b=>b.cell ≠ -2→a.cell≠b.cell
def Kr(x:QE):List (List QB):=ZK x (Qk x x.scans.n) x.scans.n []
theorem QTw(hx:x.ok=true):QIe x:=by
 have hg:=Xc hx;refine⟨?_,fun k hk=>(hg.j k hk).2.1,fun k hk=>(hg.j k hk).2.2⟩;simp only[QE.ok,QE.sz,Qf,qbA,qdE]at hx;omega
theorem QLx(hx:x.ok=true):(Kr x).length<2^63:=by
 have hg:=Xc hx;have hs:=hg.s
 have h:=QNv (fun l=>QH (Qk x x.scans.n) l.length) (okC x) (zM x) (B:=37) (fun l=>by
  show(QH (Qk x x.scans.n) l.length).length≤37
  by_cases h:l.length<x.scans.n
  ·rw[Gi h];have:=G6 x.d (x.scans.get l.length) x.d.ps.n;have:=hg.d.n9;simp only[WH,List.length_cons];omega
  ·rw[QF2 (by rw[ZJ];omega)];exact Nat.zero_le _) x.scans.n []
 have h2:37^x.scans.n≤37^12:=Nat.pow_le_pow_right (by omega) hs
 have h3:37^12<2^63:=by decide
 show(Xs _ _ _ _ _).length<_;omega
theorem QAX(hx:x.ok=true):l∈Kr x↔Tru x (Qk x x.scans.n) l:=QUI (QTw hx)
theorem QU4(h:Tru x (Qk x x.scans.n) l)(hi:i<l.length):l[i]∈WH x i:=by
 have:=h.can i hi
 rwa [Gi (by rw[←h.len];exact hi)]at this
theorem QPw{l:List QB}(h:Tru x (Qk x x.scans.n) l):∀ c∈l,(c.cell = -2∧c.turn=0)∨(0≤c.cell∧c.cell<x.d.ps.n∧0≤c.turn∧c.turn<4):=by
 intro c hc;obtain⟨i,hi,rfl⟩:=List.mem_iff_getElem.1 hc;have:=QU4 h hi;simp only[WH,List.mem_cons]at this;rcases this with e|e
 ·rw[e];exact .inl ⟨rfl,rfl⟩
 ·obtain⟨k,u,h1,h2,e⟩:=QDz e;rw[e];exact .inr ⟨by simp only;omega,by simp only;omega,by simp only;omega,by simp only;omega⟩
theorem QUp(hx:x.ok=true)(h:Tru x (Qk x x.scans.n) l):QE6 l:=⟨fun c hc=>by
 have:=(Xc hx).d.n9;rcases QPw h c hc with ⟨e,_⟩|⟨h1,h2,_⟩<;>omega⟩
def V0(x:QE):Int:=cond x.ok (cond (JE x) 11 (cond (Kr x).isEmpty 6 0)) 1
theorem QVF(h:V0 x=0):x.ok=true∧JE x=false∧Kr x≠[]:=by
 unfold V0 at h;cases ho:x.ok with
 | false=>rw[ho]at h;simp at h
 | true=>
  cases hr:JE x with
  | true=>rw[ho,hr]at h;simp at h
  | false=>
   refine⟨rfl,rfl,fun e => ?_⟩;rw[ho,hr,e]at h;simp at h
structure QaG (x:QE) (sure may:Int):Prop where
 si:JK sure
 mi:JK may
 sb:∀ k,Q8 sure k=(decide (k<x.d.ps.n)&&(Kr x).all fun l => !QHb l k)
 mb:∀ k,Q8 may k=(decide (k<x.d.ps.n)&&(Kr x).any fun l => !QHb l k)
theorem QRI(x:QE):Kh x=(cond (V0 x==0) (W9 (Kr x) x.scans.n) [],V0 x):=by
 unfold Kh V0;cases ho:x.ok with
 | false=>rfl
 | true=>
  cases hr:JE x with
  | true=>rfl
  | false=>
   obtain⟨h',e⟩:=H1 x (Qk x x.scans.n) tdY x.scans.n [] (0,0,[],0,0) noH;rw[QDT (fun _ _=>rfl)]at e;have e:tdS x = .go ((Kr x).foldl tdF (0,0,[],0,0)) h':=e;simp only[e,cond_true,cond_false];have hlen:=QLx ho;have hall:∀ l∈Kr x,l.length=x.scans.n:=fun l hl=>((QAX ho).1 hl).len;have hs:=(Xc ho).s;cases hL:Kr x with
   | nil=>rfl
   | cons l L=>
    rw[hL]at hlen hall;obtain⟨s,e2,s1,s2⟩:=QVM (by omega) hall hlen
    rw[e2];have:decide (s.1>0)=true:=by rw[s1];simp
    simp only[this,s2];rfl
structure QWh (x:QE) (cells:List Int) (al:Int):Prop where
 len:cells.length=x.scans.n
 ci:∀ j,JK (cells.getD j 0)
 ai:JK al
 cb:∀ j,j<x.scans.n→∀ k,Q8 (cells.getD j 0) k=(Kr x).any fun l=>(l.getD j ⟨0,0⟩).cell==(k:Int)
 ab:∀ k,Q8 al k=(decide (k<x.scans.n)&&(Kr x).any fun l=>(l.getD k ⟨0,0⟩).cell == -2)
theorem QHL(x:QE):(KO x).2.2=V0 x∧(V0 x≠0→(KO x).1=[]∧(KO x).2.1=0)∧(V0 x=0→QWh x (KO x).1 (KO x).2.1):=by
 unfold KO V0;cases ho:x.ok with
 | false=>exact⟨by trivial,fun _=>⟨by trivial,by trivial⟩,fun h=>by simp at h⟩
 | true=>
  cases hr:JE x with
  | true=>exact⟨by trivial,fun _=>⟨by trivial,by trivial⟩,fun h=>by simp at h⟩
  | false=>
   obtain⟨h',e⟩:=H1 x (Qk x x.scans.n) plY x.scans.n [] (0,fun _=>0) noH;rw[QDT (fun _ _=>rfl)]at e;have e:QFI x = .go ((Kr x).foldl plF (0,fun _=>0)) h':=e;simp only[e,cond_true,cond_false];have hlen:=QLx ho;have z:JK 0:=⟨by omega,by omega⟩
   have hs:=(Xc ho).s;obtain⟨p1,p2,p3⟩:=QLF hs (Kr x) (0,fun _=>0) (fun l hl=>⟨QUp ho ((QAX ho).1 hl),((QAX ho).1 hl).len⟩) (fun _=>z)
   have hc:((Kr x).foldl plF (0,fun _=>0)).1=(Kr x).length:=by
    have:=QDu (f:=plF) (p:=fun s=>s.1) (fun s l=>rfl) (Kr x) (0,fun _=>0) 0 rfl (by omega)
    simpa using this
   generalize hS:(Kr x).foldl plF (0,fun _=>0)=S at p1 p2 p3 hc;cases hL:Kr x with
   | nil=>
    have:decide (S.1>0)=false:=by rw[hc,hL];rfl
    simp only[this];exact⟨by trivial,fun _=>⟨by trivial,by trivial⟩,fun h=>by simp at h⟩
   | cons l L=>
    have:decide (S.1>0)=true:=by rw[hc,hL];simp
    simp only[this]
    have get:∀ j,j<x.scans.n→((List.range x.scans.n).map S.2).getD j 0=S.2 j:=fun j hj=>by
     rw[List.getD_eq_getElem?_getD,List.getElem?_map,List.getElem?_range hj];rfl
    refine⟨by trivial,fun h=>absurd (by trivial) h,fun _=>⟨by simp,fun j => ?_,p1 12,fun j hj k => ?_,fun k => ?_⟩⟩
    ·by_cases hj:j<x.scans.n
     ·rw[get j hj];exact p1 j
     ·rw[List.getD_eq_getElem?_getD,List.getElem?_eq_none (by simp;omega)];exact z
    ·rw[get j hj,p2 j hj k,QAl,Bool.false_or]
    ·rw[p3 k,QAl,Bool.false_or]
theorem QXx(x:QE):Qz x=cond (V0 x==0) ((Kr x).headD [],(Kr x).getD 1 [],((min (Kr x).length 100:Nat):Int),0) ([],[],0,V0 x):=by
 unfold Qz V0;cases ho:x.ok with
 | false=>rfl
 | true=>
  cases hr:JE x with
  | true=>rfl
  | false=>
   obtain⟨h',e⟩:=H1 x (Qk x x.scans.n) trY x.scans.n [] (0,[],[]) noH;change vv x=_ at e;have ha:=QUX (ZK x (Qk x x.scans.n) x.scans.n []);simp only[e,cond_true,cond_false];generalize Jr trY (ZK x (Qk x x.scans.n) x.scans.n []) (0,[],[])=S at ha;change S.1=(((min (Kr x).length 100:Nat):Int),(Kr x).headD [],(Kr x).getD 1 [])at ha;obtain⟨⟨m,f,g⟩,q⟩:=S;simp only[qpI]at ha;obtain⟨rfl,rfl,rfl⟩:=ha;cases hL:Kr x with
   | nil=>cases q<;>rfl
   | cons l L=>
    have:(((min (l::L).length 100:Nat):Int)==0)=false:=by
     rw[beq_eq_false_iff_ne,List.length_cons];omega
    cases q<;>simp only[this]<;>rfl
def laB(x:QE):List (Nat×Blk):=(8,.cells 0 50 (JJ 0 x))::JY 0 x
def ssQ(a b:Rw QB)(i:Nat):Bool := !((a.get i).cell==(b.get i).cell&&((a.get i).turn==(b.get i).turn&&true))
def Xp(a b:Rw QB):Bool:=((a.n:Int)==b.n)&&(QQ (ssQ a b) a.n 0).isNone
def ssJ(a b:Rw QB)(k:Nat):JSt:=⟨26,[(0,.slz 0 0 a.n (.of 0)),(1,.slz 1 0 b.n (.of 0)),(5,.int false .i64 k)],Qw.blk 0 a++Qw.blk 1 b,8⟩
def isQ(i:Nat):Bool:=a.get i != b.get i
def Vb:Bool:=((a.n:Int)==b.n)&&(QQ (isQ a b) a.n 0).isNone
def isJ:JSt:=⟨26,[(0,.slz 0 0 a.n (.of 0)),(1,.slz 1 0 b.n (.of 0)),(5,.int false .i64 k)],Qw.blk 0 a++Qw.blk 1 b,8⟩
def QAb:Ex→List Nat
 | .normal=>[0,1,5]
 | .exit _=>[]
 | .ret=>[4]
theorem QXR(a b:Rw QB)(k:Nat)(g:Nat→Value):exec (mkE Try.prog Ke) (hnd (mkE Try.prog Ke) 0) (QW Try.f17 0) (JSt.inst (ssJ a b k) g) (KF [] QAb) =
  QD.br (decide ((↑k:Int)<(↑a.n:Int))) (QD.need (decide ((0:Int)≤(↑k:Int)∧(↑k:Int)<(↑a.n:Int))&&decide (a.n≤a.n)) (QD.need (decide (k<a.n)) (QD.need
  (decide ((0:Int)≤(↑k:Int)∧(↑k:Int)<(↑b.n:Int))&&decide (b.n≤b.n)) (QD.need (decide (k<b.n)) (QD.br (!((a.get k).cell==(b.get k).cell&&((a.get k).turn ==
  (b.get k).turn&&true))) (QD.leaf (AV.tup [AV.nili,AV.ptr (26:Nat) (0:Nat) (0:Nat),AV.bool true false]) ([])) (QD.leaf (AV.tup [AV.nilp,AV.ptr (26:Nat) (0:Nat) (0
  : Nat),AV.slz (0:Nat) (0:Nat) a.n (Cap.of (0:Nat)),AV.slz (1:Nat) (0:Nat) b.n (Cap.of (0:Nat)),AV.int false i64 (i64.wrap ((↑k:Int)+(1:Int)))])
  ([((0:Nat),Blk.frz [CK.int i64,CK.int i64] a.n fun i=>QA.enc (a.get i)),((1:Nat),Blk.frz [CK.int i64,CK.int i64] b.n fun i=>QA.enc
  (b.get i))]))))))) (QD.leaf (AV.tup [AV.ptr (0:Nat) (0:Nat) (0:Nat),AV.ptr (26:Nat) (0:Nat) (0:Nat)]) ([])):=by kernel_rfl
theorem QTN(g:Nat→Value):exec (mkE Try.prog Ke) (hnd (mkE Try.prog Ke) 0) (QW Try.f26 0) (JSt.inst (isJ a b k) g) (KF [] QAb) =
  QD.br (decide ((↑k:Int)<(↑a.n:Int))) (QD.need (decide ((0:Int)≤(↑k:Int)∧(↑k:Int)<(↑a.n:Int))&&decide (a.n≤a.n)) (QD.need (decide (k<a.n)) (QD.need
  (decide ((0:Int)≤(↑k:Int)∧(↑k:Int)<(↑b.n:Int))&&decide (b.n≤b.n)) (QD.need (decide (k<b.n)) (QD.br (a.get k != b.get k) (QD.leaf (AV.tup [AV.nili,AV.ptr
  (26:Nat) (0:Nat) (0:Nat),AV.bool true false]) ([])) (QD.leaf (AV.tup [AV.nilp,AV.ptr (26:Nat) (0:Nat) (0:Nat),AV.slz (0:Nat) (0:Nat) a.n (Cap.of (0:Nat)),
  AV.slz (1:Nat) (0:Nat) b.n (Cap.of (0:Nat)),AV.int false i64 (i64.wrap ((↑k:Int)+(1:Int)))]) ([((0:Nat),Blk.frz [CK.int i64] a.n fun i=>
  QA.enc (a.get i)),((1:Nat),Blk.frz [CK.int i64] b.n fun i=>QA.enc (b.get i))]))))))) (QD.leaf (AV.tup [AV.ptr (0:Nat) (0:Nat) (0:Nat),AV.ptr (26:Nat) (0
  : Nat) (0:Nat)]) ([])):=by kernel_rfl
def QFa:JSt:=⟨26,[(4,.bool false false)],[],8⟩
def QEq:JSt:=⟨26,[],[],8⟩
def twR(p:Nat→Bool)(n k:Nat)(e:Ex)(J:JSt):Prop:=(e = .ret∧(QQ p (n-k) k).isNone=false∧J=QFa)∨(e = .exit 0∧(QQ p (n-k) k).isNone=true∧J=QEq)
theorem QLb :QL 8 [AV.bool true false] ([]) QFa=(
  some [false=false]):=by kernel_rfl
theorem QTr(a b:Rw QB)(k k':Nat):QL 8 [AV.slz (0:Nat) (0:Nat) a.n (Cap.of (0:Nat)),AV.slz (1:Nat) (0:Nat) b.n (Cap.of (0:Nat)),AV.int false i64 (i64.wrap ((↑k:Int)+(1:Int)))] ([((0:Nat),Blk.frz [CK.int i64,CK.int i64] a.n fun i=>QA.enc (a.get i)),((1:Nat),Blk.frz [CK.int i64,CK.int i64] b.n fun i=>QA.enc (b.get i))]) (ssJ a b k')=(
  some [(0:Nat)=(0:Nat),a.n=a.n,Cap.of (0:Nat)=Cap.of (0:Nat),(0:Nat)=(0:Nat),b.n=b.n,Cap.of (0:Nat)=Cap.of (0:Nat),i64.wrap ((↑k:Int)+(1
  : Int))=(↑k':Int),a.n≤a.n,QC (2:Nat) a.n (fun i=>QA.enc (a.get i)) fun i=>QA.enc (a.get i),b.n≤b.n,QC (2:Nat) b.n (fun i=>QA.enc (b.get i)) fun i
  => QA.enc (b.get i)]):=by kernel_rfl
theorem QM0 :QL 8 [] ([]) QEq=(
  some []):=by kernel_rfl
theorem QRW(k k':Nat):QL 8 [AV.slz (0:Nat) (0:Nat) a.n (Cap.of (0:Nat)),AV.slz (1:Nat) (0:Nat) b.n (Cap.of (0:Nat)),AV.int false i64 (i64.wrap ((↑k:Int)+(1:Int)))] ([((0:Nat),Blk.frz [CK.int i64] a.n fun i=>QA.enc (a.get i)),((1:Nat),Blk.frz [CK.int i64] b.n fun i=>QA.enc (b.get i))]) (isJ a b k')=(
  some [(0:Nat)=(0:Nat),a.n=a.n,Cap.of (0:Nat)=Cap.of (0:Nat),(0:Nat)=(0:Nat),b.n=b.n,Cap.of (0:Nat)=Cap.of (0:Nat),i64.wrap ((↑k:Int)+(1
  : Int))=(↑k':Int),a.n≤a.n,QC (1:Nat) a.n (fun i=>QA.enc (a.get i)) fun i=>QA.enc (a.get i),b.n≤b.n,QC (1:Nat) b.n (fun i=>QA.enc (b.get i)) fun i
  => QA.enc (b.get i)]):=by kernel_rfl
theorem QIt{p:Nat→Bool}{n k:Nat}(h:k<n):(p k=true→QQ p (n-k) k=some k)∧(p k=false→QQ p (n-k) k=QQ p (n-(k+1)) (k+1)):=by
 obtain⟨m,hm⟩:∃ m,n-k=m+1:=⟨n-k-1,by omega⟩
 rw[hm,show n-(k+1)=m by omega,QQ]
 exact⟨fun e=>by rw[e],fun e=>by rw[e]⟩
theorem QZ9(a b:Rw QB)(hl:a.n=b.n∧a.n≤1000):K0 (ssJ a b) (fun k=>k≤a.n) (fun k=>a.n-k) (twR (ssQ a b) a.n) 8 QAb [] (mkE Try.prog Ke) (fun _=>hnd (mkE Try.prog Ke) 0) (QW Try.f17 0):=by
 obtain⟨hab,hl⟩:=hl;refine⟨fun k g hk=>Qt (QXR a b k g) ?_⟩;refine QI (fun h => ?_) (fun h => ?_)
 ·have h:k<a.n:=by have:=qdt h;omega
  have hf:=QIt (p:=ssQ a b) h
  repeat' refine QF (by simp;omega) ?_
  refine QI (fun hb => ?_) (fun hb => ?_)
  ·exact⟨_,.inl ⟨rfl,by rw[hf.1 hb];rfl,rfl⟩,rfl,rfl,_,QLb,⟨rfl,trivial⟩⟩
  ·refine⟨k+1,by omega,by show a.n-(k+1)<a.n-k;omega,fun e J h=>by unfold twR at h ⊢;rw[hf.2 hb];exact h,rfl,rfl,_,QTr _ _ _ (k+1),?_⟩
   repeat' first|with_reducible refine QN ?_ ?_|exact trivial|with_reducible rfl|exact qlr _|exact qRr|exact Kj h hl|refine And.intro ?_ ?_
 ·have h:a.n≤k:=by have:=of_decide_eq_false h;omega
  exact⟨_,.inr ⟨rfl,by rw[show a.n-k=0 by omega];rfl,rfl⟩,rfl,rfl,_,QM0,trivial⟩
theorem QVJ(hl:a.n=b.n∧a.n≤1000):K0 (isJ a b) (fun k=>k≤a.n) (fun k=>a.n-k) (twR (isQ a b) a.n) 8 QAb [] (mkE Try.prog Ke) (fun _=>hnd (mkE Try.prog Ke) 0) (QW Try.f26 0):=by
 obtain⟨hab,hl⟩:=hl;refine⟨fun k g hk=>Qt (QTN a b k g) ?_⟩;refine QI (fun h => ?_) (fun h => ?_)
 ·have h:k<a.n:=by have:=qdt h;omega
  have hf:=QIt (p:=isQ a b) h
  repeat' refine QF (by simp;omega) ?_
  refine QI (fun hb => ?_) (fun hb => ?_)
  ·exact⟨_,.inl ⟨rfl,by rw[hf.1 hb];rfl,rfl⟩,rfl,rfl,_,QLb,⟨rfl,trivial⟩⟩
  ·refine⟨k+1,by omega,by show a.n-(k+1)<a.n-k;omega,fun e J h=>by unfold twR at h ⊢;rw[hf.2 hb];exact h,rfl,rfl,_,QRW _ _ _ (k+1),?_⟩
   repeat' first|with_reducible refine QN ?_ ?_|exact trivial|with_reducible rfl|exact qlr _|exact qRr|exact Kj h hl|refine And.intro ?_ ?_
 ·have h:a.n≤k:=by have:=of_decide_eq_false h;omega
  exact⟨_,.inr ⟨rfl,by rw[show a.n-k=0 by omega];rfl,rfl⟩,rfl,rfl,_,QM0,trivial⟩
def twX(p:Nat→Bool)(n:Nat):List (Prop×Ex×JSt):=[((QQ p n 0).isNone=false,.ret,QFa),((QQ p n 0).isNone=true,.exit 0,QEq)]
abbrev ssH(P:Program)(a b:Rw QB):Hnd:={ hnd (mkE P Ke) 1 with loop:=fun _=>Vn (a.n=b.n∧a.n≤1000) (Q7 8 [] (ssJ a b 0) (twX (ssQ a b) a.n)) }
abbrev isH(P:Program)(a b:Rw Int):Hnd:={ hnd (mkE P Ke) 1 with loop:=fun _=>Vn (a.n=b.n∧a.n≤1000) (Q7 8 [] (isJ a b 0) (twX (isQ a b) a.n)) }
theorem QSq(a b:Rw QB)(G:Ctx)(hrd:G.rd=none)(hG:G.n=8):Q1 (mkE Try.prog Ke) G (ssH Try.prog a b) (Qo Try.f17):=by
 refine JF (body:=QW Try.f17 0) (QP VH) hrd (by kernel_rfl) ?_
 refine ZW fun hl => ?_;refine JG (n0:=8) (QP VH) (by omega) (fun s hs=>Qq (QP VH) 0 G _ hrd) (fun s hs=>qlr _) ?_ (QZ9 a b hl) (s0:=0) (Nat.zero_le _) ?_
 ·rintro s e J (⟨_,_,rfl⟩|⟨_,_,rfl⟩)<;>exact qlr _
 ·rintro e J (⟨rfl,h,rfl⟩|⟨rfl,h,rfl⟩)
  ·exact⟨_,List.mem_cons_self,h,rfl,rfl⟩
  ·exact⟨_,List.mem_cons_of_mem _ List.mem_cons_self,h,rfl,rfl⟩
theorem QXH(G:Ctx)(hrd:G.rd=none)(hG:G.n=8):Q1 (mkE Try.prog Ke) G (isH Try.prog a b) (Qo Try.f26):=by
 refine JF (body:=QW Try.f26 0) (QP VH) hrd (by kernel_rfl) ?_
 refine ZW fun hl => ?_;refine JG (n0:=8) (QP VH) (by omega) (fun s hs=>Qq (QP VH) 0 G _ hrd) (fun s hs=>qlr _) ?_ (QVJ a b hl) (s0:=0) (Nat.zero_le _) ?_
 ·rintro s e J (⟨_,_,rfl⟩|⟨_,_,rfl⟩)<;>exact qlr _
 ·rintro e J (⟨rfl,h,rfl⟩|⟨rfl,h,rfl⟩)
  ·exact⟨_,List.mem_cons_self,h,rfl,rfl⟩
  ·exact⟨_,List.mem_cons_of_mem _ List.mem_cons_self,h,rfl,rfl⟩
def ssF:WF ((Rw QB)×(Rw QB)×Unit):=fun|(a,(b,_))=>(decide (a.n≤1000∧b.n≤1000),.bool false (Xp a b),[])
def ssC:FC:=wFC ssF
theorem QRz(a:(Rw QB))(b:(Rw QB)):KR (mkE Try.prog Ke) (ssH Try.prog a b) Try.f17 (QX.vals 0 ((a,b,()):(Rw QB)×(Rw QB)×Unit)) (QX.blks 0 ((a,b,()):(Rw QB)×(Rw QB)×Unit)) 8 =
  QD.br ((↑a.n:Int) != (↑b.n:Int)) (QD.leaf (AV.bool true false) ([])) (QD.ask (a.n=b.n∧a.n≤(1000:Nat)) (QD.ask ((0:Nat)=(0:Nat)) (QD.ask (a.n=a.n)
  (QD.ask (Cap.of (0:Nat)=Cap.of (0:Nat)) (QD.ask ((0:Nat)=(0:Nat)) (QD.ask (b.n=b.n) (QD.ask (Cap.of (0:Nat)=Cap.of (0:Nat)) (QD.ask ((0:Int)=(0 :
  Int)) (QD.ask (a.n≤a.n) (QD.ask (QC (2:Nat) a.n (fun i=>QA.enc (a.get i)) fun i=>QA.enc (a.get i)) (QD.ask (b.n≤b.n) (QD.ask (QC (2:Nat) b.n (fun i
  => QA.enc (b.get i)) fun i=>QA.enc (b.get i)) (QD.both (QD.asm ((QQ (ssQ a b) a.n (0:Nat)).isNone=false) (QD.all (fun(g0:Nat→Value)=>QD.leaf (AV.bool
  false false) ([])))) (QD.asm ((QQ (ssQ a b) a.n (0:Nat)).isNone=true) (QD.all (fun(g1:Nat→Value)=>QD.leaf (AV.bool true true) ([]))))))))))))))))):=by kernel_rfl
theorem QT7:JN (mkE Try.prog Ke) (Qo Try.f17) 8 ssF (fun x_=>(ssH Try.prog x_.1 x_.2.1)):=by
 refine⟨?_⟩;rintro⟨a,⟨b,⟨⟩⟩⟩ hp G h1 h2;exact QSq a b G h1 h2
theorem QPY:JM (mkE Try.prog Ke) Try.f17 8 ssF (fun x_=>(ssH Try.prog x_.1 x_.2.1)):=by
 refine⟨?_⟩;rintro⟨a,⟨b,⟨⟩⟩⟩ hp;refine⟨⟨rfl,by simp[ssF],rfl⟩,⟨?_⟩⟩
 rw[QRz a b];simp only[ssF]at hp;have hp:=qdt hp;refine QI (fun h=>Kk ?_ rfl) (fun h => ?_)
 ·have:((a.n:Int)==b.n)=false:=by simpa using h
  show false=Xp a b;simp only[Xp,this];rfl
 ·have hab:a.n=b.n:=by simp only[bne_eq_false_iff_eq]at h;omega
  have e:((a.n:Int)==b.n)=true:=by rw[hab];simp
  refine QR ⟨hab,hp.1⟩ ?_
  repeat' first|refine QR (show _=_ by with_reducible rfl) ?_|refine QR (show _≤_ from qlr _) ?_|refine QR (show QC _ _ _ _ from qRr) ?_
  refine Xf (KA fun h=>Q6 fun g => ?_) (KA fun h=>Q6 fun g => ?_)
  ·exact Kk (show _=Xp a b by simp only[Xp,e,h];rfl) rfl
  ·exact Kk (show _=Xp a b by simp only[Xp,e,h];rfl) rfl
theorem QXN:QO Try.prog 17 ssC:=
 JX (QP VH) Try.func17 (by kernel_rfl) (by kernel_rfl) (by decide) QT7 QPY
def zF:WF ((Rw Int)×(Rw Int)×Unit):=fun|(a,(b,_))=>(decide (a.n≤1000∧b.n≤1000),.bool false (Vb a b),[])
def QKA:FC:=wFC zF
theorem QZU(a:(Rw Int))(b:(Rw Int)):KR (mkE Try.prog Ke) (isH Try.prog a b) Try.f26 (QX.vals 0 ((a,b,()):(Rw Int)×(Rw Int)×Unit)) (QX.blks 0 ((a,b,()):(Rw Int)×(Rw Int)×Unit)) 8 =
  QD.br ((↑a.n:Int) != (↑b.n:Int)) (QD.leaf (AV.bool true false) ([])) (QD.ask (a.n=b.n∧a.n≤(1000:Nat)) (QD.ask ((0:Nat)=(0:Nat)) (QD.ask (a.n=a.n)
  (QD.ask (Cap.of (0:Nat)=Cap.of (0:Nat)) (QD.ask ((0:Nat)=(0:Nat)) (QD.ask (b.n=b.n) (QD.ask (Cap.of (0:Nat)=Cap.of (0:Nat)) (QD.ask ((0:Int)=(0 :
  Int)) (QD.ask (a.n≤a.n) (QD.ask (QC (1:Nat) a.n (fun i=>QA.enc (a.get i)) fun i=>QA.enc (a.get i)) (QD.ask (b.n≤b.n) (QD.ask (QC (1:Nat) b.n (fun i
  => QA.enc (b.get i)) fun i=>QA.enc (b.get i)) (QD.both (QD.asm ((QQ (isQ a b) a.n (0:Nat)).isNone=false) (QD.all (fun(g0:Nat→Value)=>QD.leaf (AV.bool
  false false) ([])))) (QD.asm ((QQ (isQ a b) a.n (0:Nat)).isNone=true) (QD.all (fun(g1:Nat→Value)=>QD.leaf (AV.bool true true) ([]))))))))))))))))):=by kernel_rfl
theorem QWf:JN (mkE Try.prog Ke) (Qo Try.f26) 8 zF (fun x_=>(isH Try.prog x_.1 x_.2.1)):=by
 refine⟨?_⟩;rintro⟨a,⟨b,⟨⟩⟩⟩ hp G h1 h2;exact QXH a b G h1 h2
theorem QUq:JM (mkE Try.prog Ke) Try.f26 8 zF (fun x_=>(isH Try.prog x_.1 x_.2.1)):=by
 refine⟨?_⟩;rintro⟨a,⟨b,⟨⟩⟩⟩ hp;refine⟨⟨rfl,by simp[zF],rfl⟩,⟨?_⟩⟩
 rw[QZU a b];simp only[zF]at hp;have hp:=qdt hp;refine QI (fun h=>Kk ?_ rfl) (fun h => ?_)
 ·have:((a.n:Int)==b.n)=false:=by simpa using h
  show false=Vb a b;simp only[Vb,this];rfl
 ·have hab:a.n=b.n:=by simp only[bne_eq_false_iff_eq]at h;omega
  have e:((a.n:Int)==b.n)=true:=by rw[hab];simp
  refine QR ⟨hab,hp.1⟩ ?_
  repeat' first|refine QR (show _=_ by with_reducible rfl) ?_|refine QR (show _≤_ from qlr _) ?_|refine QR (show QC _ _ _ _ from qRr) ?_
  refine Xf (KA fun h=>Q6 fun g => ?_) (KA fun h=>Q6 fun g => ?_)
  ·exact Kk (show _=Vb a b by simp only[Vb,e,h];rfl) rfl
  ·exact Kk (show _=Vb a b by simp only[Vb,e,h];rfl) rfl
theorem QT9:QO Try.prog 26 QKA:=
 JX (QP VH) Try.func26 (by kernel_rfl) (by kernel_rfl) (by decide) QWf QUq
theorem QEF(a:Rw QB):Xp a a=true:=by
 unfold Xp;rw[Hf (fun i _ _=>by simp only[ssQ,beq_self_eq_true,Bool.and_self,Bool.not_true])];simp
theorem QJh:Vb a a=true:=by
 unfold Vb;rw[Hf (fun i _ _=>by simp[isQ])];simp
def KK:Tab:=Qd (Qd (Qd (Qd (Qd (Qd (Qd (Qd (Qd QJy 12 QCj) 25 (Yt QNB)) 20 (Yt QIG)) 33 (Yt QHM)) 23 (Yt miC)) 13 (Yt QGP)) 15 (Yt QDF)) 26 (Yt QKA)) 17 (Yt ssC)
theorem VU:QZ KK:=((((((((QRt.add QQ0).add (Zd QVY)).add (Zd QRf)).add (Zd QUz)).add (Zd QU1)).add (Zd QIw)).add (Zd QGx)).add (Zd QT9)).add (Zd QXN)
end Go.Proofs.Ytbpffdkemeoajaa
namespace Go.SX
open Go Go.RowKit Go.Proofs.Ytbpffdkemeoajaa
def zd(E:Env)(H:Hnd)(body:Code):Nat→St→(Ex→St→QD)→QD
 | 0, _, _ => .fail "rounds"
 | n+1,st,K=>exec E H body st fun e st'=>match e with
  | .normal=>zd E H body n st' K
  | .exit id=>K (.exit id) st'
  | .ret=>K .ret st'
theorem QOw{E:Env}(hE:E.Sound){G:Ctx}{H:Hnd}{body:Code}(hH:Q1 E G H body):∀(n:Nat) (st:St) (K:Ex→St→QD) (T:AV→List (Nat×Blk)→Prop) (Q:Exit→Act→World→Prop) (a:Act) (w:World),G.n≤st.nid→(zd E H body n st K).den T→Rep G st.nid st a w →
  (∀ e st' a' w',G.n≤st'.nid→(K e st').den T→Rep G st'.nid st' a' w'→Q e.to a' w')→Code.roundsIn (FW G.rd) 0 E.P body Q n a w
 | 0,_,_,_,_,_,_,_,h,_,_=>h.elim
 | n+1,st,K,T,Q,a,w,hn,h,hrep,hQ=>by
  rw[roundsIn_succ];have key:JS E G body (exec E H body):=Z0 hE hH.call hH.yield body hH.loop;refine key st _ T _ a w hn h hrep ?_;intro e st' a' w' hn' hden hrep';cases e with
  | normal=>exact QOw hE hH n st' K T Q a' w' hn' hden hrep' hQ
  | exit id=>exact hQ (.exit id) st' a' w' hn' hden hrep'
  | ret=>exact hQ .ret st' a' w' hn' hden hrep'
theorem QTA{E:Env}(hE:E.Sound){G:Ctx}{H:Hnd}{body:Code}(hH:Q1 E G H body)(n:Nat):JS E G (.loop body) (zd E H body n):=
 fun st K T Q a w h1 h2 h3 h4=>wpIn_loop_rounds n (QOw hE hH n st K T Q a w h1 h2 h3 h4)
end Go.SX
