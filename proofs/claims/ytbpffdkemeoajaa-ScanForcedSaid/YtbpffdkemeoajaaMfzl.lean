/- - -/
import Derived.Test.YtbpffdkemeoajaaMfzf
import Derived.Test.YtbpffdkemeoajaaMfze
import Derived.Test.YtbpffdkemeoajaaMfy
import Derived.Test.YtbpffdkemeoajaaMfzk
import Derived.Test.YtbpffdkemeoajaaMfzj
import Derived.Test.YtbpffdkemeoajaaMfr
import Derived.Test.YtbpffdkemeoajaaMfp
import Derived.Test.YtbpffdkemeoajaaMft
open Go.IntKind (i64)
set_option maxRecDepth 100000
namespace Go.Proofs.Ytbpffdkemeoajaa
open Go Go.SX
def okC(x:QE)(l:List QB)(c:QB):Bool := !JP x l c&&Kk x (l++[c])
def GD(x:QE)(l:List QB):Bool := !YW x l
def ZL(x:QE)(C:List (List QB)):Nat→List QB→List (List QB):=VS (fun l=>QK C l.length) (okC x) (GD x)
theorem QIX{σ:Type}{Y:σ→List QB→σ×Bool}{f:σ→(Int→Bool)→QB→Res σ}{g:QB→List (List QB)}(hf:∀ c s h,∃ h',f s h c=match J6 Y (g c) s with
  | (s',true) => .go s' h'
  | (s',false) => .stop s' h'):∀(cs:List QB) (s:σ) (h:Int→Bool),∃ h',Jl f cs s h=match J6 Y (cs.flatMap g) s with
  | (s',true) => .go s' h'
  | (s',false) => .stop s' h'
 | [],s,h=>⟨h,rfl⟩
 | c::cs,s,h=>by
  obtain⟨h1,e⟩:=hf c s h;rw[List.flatMap_cons,QJP,Jl,e];cases e2:J6 Y (g c) s with
  | mk s' q=>
   cases q with
   | true=>exact QIX hf cs s' h1
   | false=>exact⟨h1,rfl⟩
theorem H5{σ:Type}(x:QE)(C:List (List QB))(Y:σ→List QB→σ×Bool):∀(d:Nat) (l:List QB) (s:σ) (h:Int→Bool),∃ h',onT x C Y d l s h=match J6 Y (ZL x C d l) s with
  | (s',true) => .go s' h'
  | (s',false) => .stop s' h'
 | 0,l,s,h=>by
  refine⟨h,?_⟩;simp only[onT,VF,ZL,VS,GD];cases YW x l with
  | true=>rfl
  | false=>
   simp only[Bool.not_false,cond_true,J6];cases Y s l with
   | mk s' q=>cases q<;>rfl
 | d+1,l,s,h=>by
  rw[onT];refine QIX (g:=fun c=>cond (okC x l c) (ZL x C d (l++[c])) []) (fun c s h => ?_) _ s h;unfold Kl okC;cases JP x l c with
  | true=>exact⟨h,rfl⟩
  | false=>
   cases Kk x (l++[c])with
   | false=>exact⟨_,rfl⟩
   | true=>
    obtain⟨h1,e⟩:=H5 x C Y d (l++[c]) s (Qe c.cell true h);simp only[e,Bool.not_false,Bool.and_self,cond_true];cases J6 Y (ZL x C d (l++[c])) s with
    | mk s' q=>
     cases q with
     | true=>exact⟨_,rfl⟩
     | false=>exact⟨_,rfl⟩
structure Tru (x:QE) (C:List (List QB)) (l:List QB):Prop where
 len:l.length=x.scans.n
 can:∀ i (h:i<l.length),l[i]∈QK C i
 one:∀ i j (hi:i<j) (hj:j<l.length),l[j].cell ≠ -2→l[i].cell≠l[j].cell
 al:QH l (-2)≤x.foreign
 hang:∀ k,k<x.hang.n→Xd x (x.hang.get k) (l.getD (x.hang.get k).a.toNat ⟨0,0⟩) (l.getD (x.hang.get k).b.toNat ⟨0,0⟩)=true
 lost:YW x l=false
theorem QNM{l:List QB}{n:Int}:QH l n<1↔∀ s∈l,s.cell≠n:=by
 unfold QH;constructor
 ·intro h s hs e;have:0<l.countP fun s=>s.cell==n:=List.countP_pos_iff.2 ⟨s,hs,by simp[e]⟩
  omega
 ·intro h;have:(l.countP fun s=>s.cell==n)=0:=List.countP_eq_zero.2 fun s hs=>by simpa using h s hs
  omega
variable {l:List QB}{α:Type}{i k N:Nat}{x:QE}(L:List (List QB))
theorem QZM{n:Int}(i:Nat):QH (l.take i) n≤QH l n:=by
 unfold QH;have:=List.Sublist.countP_le (p:=fun s:QB=>s.cell==n) (List.take_sublist i l);omega
theorem vO{l:List α}(h:i<l.length):l.take (i+1)=l.take i++[l[i]]:=by
 rw[List.take_add_one,List.getElem?_eq_getElem h];rfl
theorem QIa:Kk x l=true↔∀ k,k<x.hang.n→Ym x l k=true→Xd x (x.hang.get k) (l.getD (x.hang.get k).a.toNat ⟨0,0⟩) (l.getD (x.hang.get k).b.toNat ⟨0,0⟩)=true:=by
 unfold Kk;rw[Option.isNone_iff_eq_none];constructor
 ·intro h k hk hm;have:=ze h k (Nat.zero_le _) (by omega)
  simpa only [VT,hm,Bool.true_and,Bool.not_eq_false']using this
 ·intro h;refine QGg fun k _ hk => ?_;unfold VT;cases hm:Ym x l k with
  | false=>rfl
  | true=>rw[h k (by omega) hm];rfl
theorem QAk{l:List α}{z:α}(h:k<i):(l.take i).getD k z=l.getD k z:=by
 rw[List.getD_eq_getElem?_getD,List.getD_eq_getElem?_getD,List.getElem?_take_of_lt h]
structure QOJ (x:QE):Prop where
 f:0≤x.foreign
 a:∀ k,k<x.hang.n→0≤(x.hang.get k).a∧(x.hang.get k).a<x.scans.n
 b:∀ k,k<x.hang.n→0≤(x.hang.get k).b∧(x.hang.get k).b<x.scans.n
theorem QW6{C:List (List QB)}(hx:QOJ x):l∈ZL x C x.scans.n []↔Tru x C l:=by
 unfold ZL;rw[QOB];simp only[List.nil_append];constructor
 ·rintro⟨t,h1,rfl,h2,h3⟩;rw[QMe]at h2;simp only[List.nil_append,okC,qbA,Bool.not_eq_true']at h2;refine⟨h1,fun i h => ?_,fun i j hi hj hc he => ?_,?_,fun k hk => ?_,by simpa[GD]using h3⟩
  ·have:=(h2 i h).1
   rwa [List.length_take,Nat.min_eq_left (by omega)]at this
  ·have hf:=(h2 j hj).2.1;unfold JP at hf;rw[show(l[j].cell == -2)=false by simpa using hc]at hf
   have hf:QH (l.take j) l[j].cell<1:=by simpa using hf
   refine QNM.1 hf l[i] ?_ he;rw[List.mem_take_iff_getElem];exact⟨i,by omega,rfl⟩
  ·have key:∀ i,i≤l.length→QH (l.take i) (-2)≤x.foreign:=by
    intro i
    induction i with
    | zero=>intro _;simpa[QH]using hx.f
    | succ i ih=>
     intro hi;have hi:i<l.length:=hi;rw[vO hi,qi];have hf:=(h2 i hi).2.1;unfold JP at hf;split
     ·rename_i e;rw[e]at hf;simp at hf;omega
     ·exact ih (by omega)
   have:=key l.length (qlr _)
   rwa [List.take_length]at this
  ·have ha:=hx.a k hk;have hb:=hx.b k hk;have hm:(max (x.hang.get k).a (x.hang.get k).b).toNat<l.length:=by omega
   have hf:=(h2 _ hm).2.2;rw[←vO hm,QIa]at hf
   have:=hf k hk (by
    unfold Ym;rw[List.length_take,Nat.min_eq_left (by omega)]
    simp;omega)
   rwa [QAk (by omega),QAk (by omega)]at this
 ·intro h;refine⟨l,h.len,rfl,?_,by simp[GD,h.lost]⟩
  rw[QMe];intro i hi;simp only[List.nil_append,okC,qbA,Bool.not_eq_true'];refine⟨?_,?_,?_⟩
  ·rw[List.length_take,Nat.min_eq_left (by omega)];exact h.can i hi
  ·unfold JP;cases hc:l[i].cell == -2 with
   | true=>
    have hc:l[i].cell = -2:=by simpa using hc
    have h1:=QZM (l:=l) (n := -2) (i+1);rw[vO hi,qi,if_pos hc]at h1;have h2:=h.al;rw[hc];simp;omega
   | false=>
    have hc:l[i].cell ≠ -2:=by simpa using hc
    have:QH (l.take i) l[i].cell<1:=QNM.2 fun s hs=>by
     obtain⟨k,hk,rfl⟩:=List.mem_take_iff_getElem.1 hs;exact h.one k i (by omega) hi hc
    simpa using this
  ·rw[←vO hi,QIa];intro k hk hm;have ha:=hx.a k hk;have hb:=hx.b k hk;unfold Ym at hm;rw[List.length_take,Nat.min_eq_left (by omega)]at hm
   have hm:max (x.hang.get k).a (x.hang.get k).b=i:=by simpa using hm
   rw[QAk (by omega),QAk (by omega)]
   exact h.hang k hk
theorem QEm{σ:Type}{f:σ→List QB→σ}{p:σ→Int}(hp:∀ s l,p (f s l)=i64.wrap (p s+1)):∀(ls:List (List QB)) (s:σ) (n:Nat),p s=n→n+ls.length<2^63→p (ls.foldl f s)=((n+ls.length:Nat):Int)
 | [],s,n,h,_=>by simpa using h
 | l::ls,s,n,h,hn=>by
  simp only[List.length_cons]at hn ⊢;rw[List.foldl_cons,QEm hp ls (f s l) (n+1) (by rw[hp,h];exact(Xb ⟨by omega,by omega⟩).trans (by omega)) (by omega)]
  omega
structure QFz (l:List QB):Prop where
 s:∀ c∈l,c.cell = -2∨0≤c.cell∧c.cell<63
theorem vW{l:List α}{z:α}(h:i<l.length):l.getD i z∈l:=by
 rw[List.getD_eq_getElem?_getD,List.getElem?_eq_getElem h];exact List.getElem_mem h
theorem qD{l:List α}{z:α}(h:i<l.length):l.getD i z=l[i]:=by
 rw[List.getD_eq_getElem?_getD,List.getElem?_eq_getElem h];rfl
theorem QGG(l f:List QB)(m:Int){k:Nat}(hk:k<64):∀ n,Qx (mvL l f m n) k=(Qx m k||(decide (k<n)&&((l.getD k ⟨0,0⟩).cell != (f.getD k ⟨0,0⟩).cell)))
 | 0=>by simp[mvL]
 | n+1=>by
  have ih:=QGG l f m hk n;rw[mvL]
  by_cases e:k=n
  ·subst e;rw[decide_eq_false (qli _),Bool.false_and,Bool.or_false]at ih;cases h:(l.getD k ⟨0,0⟩).cell != (f.getD k ⟨0,0⟩).cell with
   | true=>simp only[XE];rw[jB (Int.natCast_nonneg _)];simp[hk]
   | false=>simp only[ih,Bool.and_false,Bool.or_false]
  ·have e1:decide (k<n+1)=decide (k<n):=decide_eq_decide.2 (by omega)
   rw[e1,←ih];split
   ·simp only[XE];rw[jB (Int.natCast_nonneg _)];have:decide ((n:Int)=(k:Int))=false:=by simp;omega
    rw[this];simp
   ·rfl
theorem QDR(l f:List QB)(m:Int){k:Nat}(hk:k<64):∀ n,Qx (tuL l f m n) k=(Qx m k||(decide (k<n)&&XD l f k))
 | 0=>by simp[tuL]
 | n+1=>by
  have ih:=QDR l f m hk n;rw[tuL]
  by_cases e:k=n
  ·subst e;rw[decide_eq_false (qli _),Bool.false_and,Bool.or_false]at ih;cases h:XD l f k with
   | true=>simp only[XE];rw[jB (Int.natCast_nonneg _)];simp[hk]
   | false=>simp only[ih,Bool.and_false,Bool.or_false]
  ·have e1:decide (k<n+1)=decide (k<n):=decide_eq_decide.2 (by omega)
   rw[e1,←ih];split
   ·simp only[XE];rw[jB (Int.natCast_nonneg _)];have:decide ((n:Int)=(k:Int))=false:=by simp;omega
    rw[this];simp
   ·rfl
theorem QEo(l f:List QB){m:Int}(hm:Kq m):∀ n,Kq (mvL l f m n)
 | 0=>hm
 | n+1=>by
  rw[mvL];split
  ·exact GN _
  ·exact QEo l f hm n
theorem QFI(l f:List QB){m:Int}(hm:Kq m):∀ n,Kq (tuL l f m n)
 | 0=>hm
 | n+1=>by
  rw[tuL];split
  ·exact GN _
  ·exact QFI l f hm n
def tdF(s:TdS)(l:List QB):TdS:=(tdY s l).1
theorem QLV{f:List QB}{N:Nat}:∀(L:List (List QB)) (s:TdS) (n:Nat),(∀ l∈L,l.length=N)→s.2.1=n→0<n→n+L.length<2^63→s.2.2.1=f→Kq s.2.2.2.1→Kq s.2.2.2.2 →
  (L.foldl tdF s).2.2.1=f∧Kq (L.foldl tdF s).2.2.2.1∧Kq (L.foldl tdF s).2.2.2.2∧∀ k,k<64→k<N→Qx (L.foldl tdF s).2.2.2.1 k=(Qx s.2.2.2.1 k||L.any fun l=>(l.getD k ⟨0,0⟩).cell != (f.getD k ⟨0,0⟩).cell)∧Qx (L.foldl tdF s).2.2.2.2 k=(Qx s.2.2.2.2 k||L.any fun l=>XD l f k)
 | [],s,n,_,_,_,_,hf,h1,h2=>⟨hf,h1,h2,fun k _ _=>by simp⟩
 | l::L,s,n,hN,hn,hp,hL,hf,h1,h2=>by
  simp only[List.length_cons]at hL;have q:(s.2.1==0)=false:=by rw[hn];simp;omega
  have e:KE s.2.1 l s.2.2.1=f:=by rw[KE,q,hf]
  have hl:=hN l List.mem_cons_self
  obtain⟨a1,a2,a3,a4⟩:=QLV (f:=f) (N:=N) L (tdF s l) (n+1) (fun y hy=>hN y (List.mem_cons_of_mem _ hy)) (by
   show i64.wrap (s.2.1+1)=_;rw[hn];exact(Xb ⟨by omega,by omega⟩).trans (by omega)) (by omega) (by omega) e (QEo _ _ h1 _) (QFI _ _ h2 _)
  refine⟨a1,a2,a3,fun k hk hkN => ?_⟩;obtain⟨b1,b2⟩:=a4 k hk hkN;rw[List.foldl_cons,b1,b2,List.any_cons,List.any_cons,←Bool.or_assoc,←Bool.or_assoc];have d1:decide (k<l.length)=true:=decide_eq_true (by omega)
  constructor
  ·congr 1;show Qx (mvL l (KE s.2.1 l s.2.2.1) s.2.2.2.1 l.length) k=_;rw[e,QGG _ _ _ hk,d1,Bool.true_and]
  ·congr 1;show Qx (tuL l (KE s.2.1 l s.2.2.1) s.2.2.2.2 l.length) k=_;rw[e,QDR _ _ _ hk,d1,Bool.true_and]
theorem QRP{f:List QB}{L:List (List QB)}(hN:∀ l∈f::L,l.length=N)(hL:(f::L).length<2^63):∃ s:TdS,(f::L).foldl tdF (0,0,[],0,0)=s∧s.1=(f::L).length∧s.2.2.1=f∧Kq s.2.2.2.1∧Kq s.2.2.2.2∧∀ k,k<64→k<N→Qx s.2.2.2.1 k=((f::L).any fun l=>(l.getD k ⟨0,0⟩).cell != (f.getD k ⟨0,0⟩).cell)∧Qx s.2.2.2.2 k=((f::L).any fun l=>XD l f k):=by
 refine⟨_,rfl,?_,?_⟩
 ·have:=QEm (f:=tdF) (p:=fun s=>s.1) (fun s l=>rfl) (f::L) (0,0,[],0,0) 0 rfl (by omega)
  simpa using this
 ·have z:Kq 0:=⟨by omega,by omega⟩
  have e:KE 0 f []=f:=rfl;have hf:=hN f List.mem_cons_self;simp only[List.length_cons]at hL;obtain⟨a1,a2,a3,a4⟩:=QLV (f:=f) (N:=N) L (tdF (0,0,[],0,0) f) 1 (fun y hy=>hN y (List.mem_cons_of_mem _ hy)) rfl (by omega) (by omega) e (QEo _ _ z _) (QFI _ _ z _)
  refine⟨a1,a2,a3,fun k hk hkN => ?_⟩;obtain⟨b1,b2⟩:=a4 k hk hkN;rw[List.foldl_cons,b1,b2,List.any_cons,List.any_cons];have d1:decide (k<f.length)=true:=decide_eq_true (by omega)
  constructor
  ·congr 1;show Qx (mvL f (KE 0 f []) 0 f.length) k=_;rw[e,QGG _ _ _ hk,d1,Bool.true_and,Zp,Bool.false_or]
  ·congr 1;show Qx (tuL f (KE 0 f []) 0 f.length) k=_;rw[e,QDR _ _ _ hk,d1,Bool.true_and,Zp,Bool.false_or]
theorem QI8(f:List QB)(m t:Int)(k:Nat):∀ n,n≤f.length→(Ki f m t n).getD k ⟨0,0⟩=if k<n then X2 m t k (f.getD k ⟨0,0⟩)else f.getD k ⟨0,0⟩
 | 0,_=>by simp[Ki]
 | n+1,h=>by
  have ih:=QI8 f m t k n (by omega)
  rw[Ki]
  by_cases e:k=n
  ·subst e;rw[if_neg (qli _)]at ih;rw[if_pos (Nat.lt_succ_self _),List.getD_eq_getElem?_getD,List.getElem?_set_self (by rw[Wq];omega),Option.getD_some,ih]
  ·rw[List.getD_eq_getElem?_getD,List.getElem?_set_ne (fun h=>e h.symm),←List.getD_eq_getElem?_getD,ih]
   by_cases h2:k<n
   ·rw[if_pos h2,if_pos (by omega)]
   ·rw[if_neg h2,if_neg (by omega)]
def Jy(k:Nat):QB:=
 cond (L.any fun l=>(l.getD k ⟨0,0⟩).cell != ((L.headD []).getD k ⟨0,0⟩).cell) ⟨-1,0⟩
  (cond (L.any fun l=>XD l (L.headD []) k) ⟨((L.headD []).getD k ⟨0,0⟩).cell,0⟩ ((L.headD []).getD k ⟨0,0⟩))
def X9(N:Nat):List QB:=(List.range N).map (Jy L)
theorem QF9(N:Nat):(X9 L N).length=N:=by simp[X9]
theorem QMa(N:Nat)(h:k<(X9 L N).length):(X9 L N)[k]=Jy L k:=by simp[X9]
theorem QZT{f:List QB}{L:List (List QB)}(h64:N≤64)(hN:∀ l∈f::L,l.length=N)(hL:(f::L).length<2^63):∃ s:TdS,(f::L).foldl tdF (0,0,[],0,0)=s∧s.1=(f::L).length∧Ki s.2.2.1 s.2.2.2.1 s.2.2.2.2 s.2.2.1.length=X9 (f::L) N:=by
 obtain⟨s,e,h1,h2,h3,h4,h5⟩:=QRP hN hL;refine⟨s,e,h1,?_⟩;have hf:=hN f List.mem_cons_self;rw[h2];apply List.ext_getElem
 ·rw[Wq,QF9,hf]
 ·intro k hk hk2;rw[Wq]at hk;have:=QI8 f s.2.2.2.1 s.2.2.2.2 k f.length (qlr _);rw[if_pos hk,qD (by rw[Wq];exact hk)]at this
  rw[this,QMa];obtain⟨b1,b2⟩:=h5 k (by omega) (by omega)
  show X2 _ _ _ _=_;unfold X2 Jy;have v1:bitV s.2.2.2.1 k=Qx s.2.2.2.1 k:=Go.SX.bitV_bit h3 (by omega)
  have v2:bitV s.2.2.2.2 k=Qx s.2.2.2.2 k:=Go.SX.bitV_bit h4 (by omega)
  rw[v1,v2,b1,b2];simp only[List.headD_cons];split
  ·rename_i q;rw[q];rfl
  ·rename_i q;rw[q];split
   ·rename_i q;rw[q];rfl
   ·rename_i q;rw[q];rfl
theorem QKx{l:List QB}(hl:QFz l)(f:Nat→Int){j:Nat}(hj:j<12)(k:Nat):∀ n,n≤l.length→n≤12→Qx (plL l f n j) k=(Qx (f j) k||(decide (j<n)&&((l.getD j ⟨0,0⟩).cell==(k:Int))))
 | 0,_,_=>by simp[plL]
 | n+1,h,h12=>by
  have ih:=QKx hl f hj k n (by omega) (by omega)
  rw[plL,plS];have hc:=hl.s (l.getD n ⟨0,0⟩) (vW (by omega))
  have q12:Nat.beq j 12=false:=by
   cases hb:Nat.beq j 12 with
   | true=>have:=Nat.eq_of_beq_eq_true hb;omega
   | false=>rfl
  cases e:(l.getD n ⟨0,0⟩).cell == -2 with
  | true=>
   simp only[q12];have e:(l.getD n ⟨0,0⟩).cell = -2:=by simpa using e
   rw[ih]
   by_cases q:j=n
   ·subst q;rw[e];have:((-2:Int)==(k:Int))=false:=by rw[beq_eq_false_iff_ne];omega
    rw[this];simp
   ·rw[decide_eq_decide.2 (show j<n+1↔j<n by omega)]
  | false=>
   have e:(l.getD n ⟨0,0⟩).cell ≠ -2:=by simpa using e
   have h0:0≤(l.getD n ⟨0,0⟩).cell∧(l.getD n ⟨0,0⟩).cell<63:=by omega
   by_cases q:j=n
   ·subst q;rw[Nat.beq_refl];simp only[XE];rw[jB h0.1,ih];simp only[qli,decide_false,Bool.false_and,Bool.or_false,Nat.lt_succ_self,decide_true,Bool.true_and];congr 1
    by_cases hk:(l.getD j ⟨0,0⟩).cell=(k:Int)
    ·have:k<64:=by omega
     rw[hk];simp[this]
    ·have h2:((l.getD j ⟨0,0⟩).cell==(k:Int))=false:=by simpa using hk
     rw[h2,decide_eq_false hk,Bool.and_false]
   ·have q2:Nat.beq j n=false:=by
     cases hb:Nat.beq j n with
     | true=>exact absurd (Nat.eq_of_beq_eq_true hb) q
     | false=>rfl
    simp only[q2];rw[ih,decide_eq_decide.2 (show j<n+1↔j<n by omega)]
theorem QMr{l:List QB}(f:Nat→Int)(k:Nat):∀ n,n≤l.length→n≤12→Qx (plL l f n 12) k=(Qx (f 12) k||(decide (k<n)&&((l.getD k ⟨0,0⟩).cell == -2)))
 | 0,_,_=>by simp[plL]
 | n+1,h,h12=>by
  have ih:=QMr (l:=l) f k n (by omega) (by omega)
  rw[plL,plS];cases e:(l.getD n ⟨0,0⟩).cell == -2 with
  | true=>
   have e0:Nat.beq 12 12=true:=rfl;simp only[e0,XE];rw[jB (Int.natCast_nonneg _),ih]
   by_cases q:k=n
   ·subst q;have:k<64:=by omega
    rw[e,decide_eq_true this,decide_eq_true (Nat.lt_succ_self k),decide_eq_true (rfl:(k:Int)=k)];simp
   ·have:decide ((n:Int)=(k:Int))=false:=by simp;omega
    rw[this,decide_eq_decide.2 (show k<n+1↔k<n by omega),Bool.and_false,Bool.or_false]
  | false=>
   have q2:Nat.beq 12 n=false:=by
    cases hb:Nat.beq 12 n with
    | true=>have:=Nat.eq_of_beq_eq_true hb;omega
    | false=>rfl
   simp only[q2];rw[ih]
   by_cases q:k=n
   ·subst q;rw[e];simp
   ·rw[decide_eq_decide.2 (show k<n+1↔k<n by omega)]
theorem QED{l:List QB}{f:Nat→Int}(hf:∀ j,Kq (f j)):∀ n j,Kq (plL l f n j)
 | 0,j=>hf j
 | n+1,j=>by
  rw[plL,plS];split
  ·split
   ·exact GN _
   ·exact QED hf n j
  ·split
   ·exact GN _
   ·exact QED hf n j
def plF(s:PlS)(l:List QB):PlS:=(plY s l).1
theorem QKw{N:Nat}(h12:N≤12):∀(L:List (List QB)) (s:PlS),(∀ l∈L,QFz l∧l.length=N)→(∀ j,Kq (s.2 j)) →
  (∀ j,Kq ((L.foldl plF s).2 j))∧(∀ j,j<N→∀ k,Qx ((L.foldl plF s).2 j) k=(Qx (s.2 j) k||L.any fun l=>(l.getD j ⟨0,0⟩).cell==(k:Int)))∧∀ k,Qx ((L.foldl plF s).2 12) k=(Qx (s.2 12) k||(decide (k<N)&&L.any fun l=>(l.getD k ⟨0,0⟩).cell == -2))
 | [],s,_,h=>⟨h,fun j _ k=>by simp,fun k=>by simp⟩
 | l::L,s,h,hs=>by
  obtain⟨h1,h2⟩:=h l List.mem_cons_self;obtain⟨a1,a2,a3⟩:=QKw h12 L (plF s l) (fun y hy=>h y (List.mem_cons_of_mem _ hy)) (QED hs _);refine⟨a1,fun j hj k => ?_,fun k => ?_⟩
  ·rw[List.foldl_cons,a2 j hj k,List.any_cons,←Bool.or_assoc];congr 1;show Qx (plL l s.2 l.length j) k=_;rw[QKx h1 _ (by omega) _ _ (qlr _) (by omega),decide_eq_true (show j<l.length by omega),Bool.true_and]
  ·rw[List.foldl_cons,a3 k,List.any_cons]
   have e:Qx ((plF s l).2 12) k=(Qx (s.2 12) k||(decide (k<N)&&((l.getD k ⟨0,0⟩).cell == -2))):=by
    show Qx (plL l s.2 l.length 12) k=_;rw[QMr _ _ _ (qlr _) (by omega),h2]
   rw[e,Bool.or_assoc,Bool.and_or_distrib_left]
theorem QJX:∀(L:List (List QB)) (n:Nat) (f g:List QB),2≤n→n<100→(J6 trY L ((n:Int),f,g)).1=(((min (n+L.length) 100:Nat):Int),f,g)
 | [],n,f,g,h1,h2=>by
  simp only[J6,List.length_nil];rw[Nat.min_eq_left (by omega)];rfl
 | l::L,n,f,g,h1,h2=>by
  have w:i64.wrap ((n:Int)+1)=((n+1:Nat):Int):=(Xb ⟨by omega,by omega⟩).trans (by omega)
  have e1:((n+1:Nat):Int)≠1:=by omega
  have e2:((n+1:Nat):Int)≠2:=by omega
  have e:trY ((n:Int),f,g) l=((((n+1:Nat):Int),f,g),!(((n+1:Nat):Int)==100)):=by
   simp only[trY,w,WJ,WN,beq_eq_false_iff_ne.2 e1,beq_eq_false_iff_ne.2 e2]
  simp only[J6,e]
  by_cases h:n+1=100
  ·have q:(((n+1:Nat):Int)==100)=true:=by simp;omega
   rw[q];simp only[Bool.not_true,List.length_cons];rw[Nat.min_eq_right (by omega),h]
  ·have q:(((n+1:Nat):Int)==100)=false:=by simp;omega
   rw[q];simp only[Bool.not_false];rw[QJX L (n+1) f g (by omega) (by omega),List.length_cons]
   congr 3;omega
theorem QPa:(J6 trY L (0,[],[])).1=(((min L.length 100:Nat):Int),L.headD [],L.getD 1 []):=by
 match L with
 | []=>rfl
 | [l]=>rfl
 | l::l2::L=>
  have e1:trY (0,[],[]) l=((1,l,[]),true):=rfl;have e2:trY (1,l,[]) l2=((2,l,l2),true):=rfl;simp only[J6,e1,e2];have:=QJX L 2 l l2 (by omega) (by omega)
  rw[show((2:Nat):Int)=2 from rfl]at this;rw[this];simp only[List.length_cons,List.headD_cons];congr 3;omega
def QMD(l:List QB)(k:Nat):Bool:=l.any fun s=>s.cell==(k:Int)
structure QaF (l:List QB) (n:Nat):Prop where
 s:∀ c∈l,c.cell = -2∨0≤c.cell∧c.cell<n
 one:l.Pairwise fun a b=>b.cell ≠ -2→a.cell≠b.cell
def Qb(x:QE):List (List QB):=ZL x (Qr x x.scans.n) x.scans.n []
theorem QXL(hx:x.ok=true):QOJ x:=by
 have hg:=JM hx;refine⟨?_,fun k hk=>(hg.j k hk).2.1,fun k hk=>(hg.j k hk).2.2⟩;simp only[QE.ok,QE.sz,QW,qbA,qdE]at hx;omega
theorem QNL(hx:x.ok=true):(Qb x).length<2^63:=by
 have hg:=JM hx;have hs:=hg.s
 have h:=QKp (fun l=>QK (Qr x x.scans.n) l.length) (okC x) (GD x) (B:=37) (fun l=>by
  show(QK (Qr x x.scans.n) l.length).length≤37
  by_cases h:l.length<x.scans.n
  ·rw[vC h];have:=Wt x.d (x.scans.get l.length) x.d.ps.n;have:=hg.d.n9;simp only[X4,List.length_cons];omega
  ·rw[HV (by rw[Ye];omega)];exact Nat.zero_le _) x.scans.n []
 have h2:37^x.scans.n≤37^12:=Nat.pow_le_pow_right (by omega) hs
 have h3:37^12<2^63:=by decide
 show(VS _ _ _ _ _).length<_;omega
theorem Ys(hx:x.ok=true):l∈Qb x↔Tru x (Qr x x.scans.n) l:=QW6 (QXL hx)
theorem QEW(h:Tru x (Qr x x.scans.n) l)(hi:i<l.length):l[i]∈X4 x i:=by
 have:=h.can i hi
 rwa [vC (by rw[←h.len];exact hi)]at this
theorem QCj{l:List QB}(h:Tru x (Qr x x.scans.n) l):∀ c∈l,(c.cell = -2∧c.turn=0)∨(0≤c.cell∧c.cell<x.d.ps.n∧0≤c.turn∧c.turn<4):=by
 intro c hc;obtain⟨i,hi,rfl⟩:=List.mem_iff_getElem.1 hc;have:=QEW h hi;simp only[X4,List.mem_cons]at this;rcases this with e|e
 ·rw[e];exact .inl ⟨rfl,rfl⟩
 ·obtain⟨k,u,h1,h2,e⟩:=Wx e;rw[e];exact .inr ⟨by simp only;omega,by simp only;omega,by simp only;omega,by simp only;omega⟩
theorem QYV(hx:x.ok=true)(h:Tru x (Qr x x.scans.n) l):QFz l:=⟨fun c hc=>by
 have:=(JM hx).d.n9;rcases QCj h c hc with ⟨e,_⟩|⟨h1,h2,_⟩<;>omega⟩
def Kx(x:QE):Int:=cond x.ok (cond (JU x) 11 (cond (Qb x).isEmpty 6 0)) 1
theorem zH(h:Kx x=0):x.ok=true∧JU x=false∧Qb x≠[]:=by
 unfold Kx at h;cases ho:x.ok with
 | false=>rw[ho]at h;simp at h
 | true=>
  cases hr:JU x with
  | true=>rw[ho,hr]at h;simp at h
  | false=>
   refine⟨rfl,rfl,fun e => ?_⟩;rw[ho,hr,e]at h;simp at h
structure QaG (x:QE) (sure may:Int):Prop where
 si:Kq sure
 mi:Kq may
 sb:∀ k,Qx sure k=(decide (k<x.d.ps.n)&&(Qb x).all fun l => !QMD l k)
 mb:∀ k,Qx may k=(decide (k<x.d.ps.n)&&(Qb x).any fun l => !QMD l k)
theorem QCY(x:QE):Kd x=(cond (Kx x==0) (X9 (Qb x) x.scans.n) [],Kx x):=by
 unfold Kd Kx;cases ho:x.ok with
 | false=>rfl
 | true=>
  cases hr:JU x with
  | true=>rfl
  | false=>
   obtain⟨h',e⟩:=H5 x (Qr x x.scans.n) tdY x.scans.n [] (0,0,[],0,0) noH;rw[QD3 (fun _ _=>rfl)]at e;have e:tdS x = .go ((Qb x).foldl tdF (0,0,[],0,0)) h':=e;simp only[e,cond_true,cond_false];have hlen:=QNL ho;have hall:∀ l∈Qb x,l.length=x.scans.n:=fun l hl=>((Ys ho).1 hl).len;have hs:=(JM ho).s;cases hL:Qb x with
   | nil=>rfl
   | cons l L=>
    rw[hL]at hlen hall;obtain⟨s,e2,s1,s2⟩:=QZT (by omega) hall hlen
    rw[e2];have:decide (s.1>0)=true:=by rw[s1];simp
    simp only[this,s2];rfl
structure QBL (x:QE) (cells:List Int) (al:Int):Prop where
 len:cells.length=x.scans.n
 ci:∀ j,Kq (cells.getD j 0)
 ai:Kq al
 cb:∀ j,j<x.scans.n→∀ k,Qx (cells.getD j 0) k=(Qb x).any fun l=>(l.getD j ⟨0,0⟩).cell==(k:Int)
 ab:∀ k,Qx al k=(decide (k<x.scans.n)&&(Qb x).any fun l=>(l.getD k ⟨0,0⟩).cell == -2)
theorem H2(x:QE):(Q1 x).2.2=Kx x∧(Kx x≠0→(Q1 x).1=[]∧(Q1 x).2.1=0)∧(Kx x=0→QBL x (Q1 x).1 (Q1 x).2.1):=by
 unfold Q1 Kx;cases ho:x.ok with
 | false=>exact⟨by trivial,fun _=>⟨by trivial,by trivial⟩,fun h=>by simp at h⟩
 | true=>
  cases hr:JU x with
  | true=>exact⟨by trivial,fun _=>⟨by trivial,by trivial⟩,fun h=>by simp at h⟩
  | false=>
   obtain⟨h',e⟩:=H5 x (Qr x x.scans.n) plY x.scans.n [] (0,fun _=>0) noH;rw[QD3 (fun _ _=>rfl)]at e;have e:QEx x = .go ((Qb x).foldl plF (0,fun _=>0)) h':=e;simp only[e,cond_true,cond_false];have hlen:=QNL ho;have z:Kq 0:=⟨by omega,by omega⟩
   have hs:=(JM ho).s;obtain⟨p1,p2,p3⟩:=QKw hs (Qb x) (0,fun _=>0) (fun l hl=>⟨QYV ho ((Ys ho).1 hl),((Ys ho).1 hl).len⟩) (fun _=>z)
   have hc:((Qb x).foldl plF (0,fun _=>0)).1=(Qb x).length:=by
    have:=QEm (f:=plF) (p:=fun s=>s.1) (fun s l=>rfl) (Qb x) (0,fun _=>0) 0 rfl (by omega)
    simpa using this
   generalize hS:(Qb x).foldl plF (0,fun _=>0)=S at p1 p2 p3 hc;cases hL:Qb x with
   | nil=>
    have:decide (S.1>0)=false:=by rw[hc,hL];rfl
    simp only[this];exact⟨by trivial,fun _=>⟨by trivial,by trivial⟩,fun h=>by simp at h⟩
   | cons l L=>
    have:decide (S.1>0)=true:=by rw[hc,hL];simp
    simp only[this]
    have get:∀ j,j<x.scans.n→((List.range x.scans.n).map S.2).getD j 0=S.2 j:=fun j hj=>by
     rw[List.getD_eq_getElem?_getD,List.getElem?_map,List.getElem?_range hj];rfl
    refine⟨by trivial,fun h=>absurd (by trivial) h,fun _=>⟨by simp,fun j => ?_,p1 12,fun j hj k => ?_,fun k => ?_⟩⟩
    ·by_cases hj:j<x.scans.n
     ·rw[get j hj];exact p1 j
     ·rw[List.getD_eq_getElem?_getD,List.getElem?_eq_none (by simp;omega)];exact z
    ·rw[get j hj,p2 j hj k,Zp,Bool.false_or]
    ·rw[p3 k,Zp,Bool.false_or]
theorem Gr(x:QE):QO x=cond (Kx x==0) ((Qb x).headD [],(Qb x).getD 1 [],((min (Qb x).length 100:Nat):Int),0) ([],[],0,Kx x):=by
 unfold QO Kx;cases ho:x.ok with
 | false=>rfl
 | true=>
  cases hr:JU x with
  | true=>rfl
  | false=>
   obtain⟨h',e⟩:=H5 x (Qr x x.scans.n) trY x.scans.n [] (0,[],[]) noH;change GG x=_ at e;have ha:=QPa (ZL x (Qr x x.scans.n) x.scans.n []);simp only[e,cond_true,cond_false];generalize J6 trY (ZL x (Qr x x.scans.n) x.scans.n []) (0,[],[])=S at ha;change S.1=(((min (Qb x).length 100:Nat):Int),(Qb x).headD [],(Qb x).getD 1 [])at ha;obtain⟨⟨m,f,g⟩,q⟩:=S;simp only[qpI]at ha;obtain⟨rfl,rfl,rfl⟩:=ha;cases hL:Qb x with
   | nil=>cases q<;>rfl
   | cons l L=>
    have:(((min (l::L).length 100:Nat):Int)==0)=false:=by
     rw[beq_eq_false_iff_ne,List.length_cons];omega
    cases q<;>simp only[this]<;>rfl
def laB(x:QE):List (Nat×Blk):=(8,.cells 0 50 (JG 0 x))::Jd 0 x
def ltS(a b:QB):Prop:=a.cell<b.cell∨(a.cell=b.cell∧a.turn<b.turn)
theorem QKW{d:Puz}{s:QS}{l:List QB}{c:Nat}(h1:l.Pairwise ltS)(h2:∀ y∈l,y.cell<c):∀ t,(KK d s l c t).Pairwise ltS
 | 0=>h1
 | t+1=>by
  have ih:=QKW (d:=d) (s:=s) h1 h2 t;simp only[KK];cases JX d s c t with
  | false=>exact ih
  | true=>
   show(KK d s l c t++[(⟨c,t⟩:QB)]).Pairwise ltS;rw[List.pairwise_append];refine⟨ih,by simp,fun a ha b hb => ?_⟩
   rw[List.mem_singleton.1 hb];rcases QGf ha with h|⟨u,hu,rfl⟩
   ·exact .inl (h2 a h)
   ·exact .inr ⟨rfl,by simp only;omega⟩
theorem QO7{d:Puz}{s:QS}:∀ c,(KI d s c).Pairwise ltS
 | 0=>by simp[KI]
 | c+1=>by
  simp only[KI];refine QKW (QO7 c) (fun y hy => ?_) 4;obtain⟨k,u,h1,_,rfl⟩:=Wx hy;simp only;omega
theorem QYj(x:QE)(k:Nat):(X4 x k).Pairwise ltS:=by
 simp only[X4,List.pairwise_cons];refine⟨fun y hy => ?_,QO7 _⟩;obtain⟨k,u,h1,_,rfl⟩:=Wx hy;exact .inl (by simp only[Z2];omega)
theorem QSE(x:QE):(Qb x).Pairwise (QHc ltS):=by
 refine QK5 _ _ _ (fun l => ?_) _ _
 by_cases h:l.length<x.scans.n
 ·rw[vC h];exact QYj x _
 ·rw[HV (by rw[Ye];omega)];simp
theorem QOI{d:Puz}{s:QS}{l:List QB}{c:Nat}{y:QB}:∀{t:Nat},y∈KK d s l c t↔y∈l∨∃ u,u<t∧JX d s c u=true∧y=⟨c,(u:Nat)⟩
 | 0=>by simp[KK]
 | t+1=>by
  have ih:=QOI (d:=d) (s:=s) (l:=l) (c:=c) (y:=y) (t:=t);simp only[KK];cases hq:JX d s c t with
  | false=>
   show y∈KK d s l c t↔_;rw[ih];constructor
   ·rintro(h|⟨u,h1,h2⟩)
    ·exact .inl h
    ·exact .inr ⟨u,by omega,h2⟩
   ·rintro(h|⟨u,h1,h2,h3⟩)
    ·exact .inl h
    ·have:u≠t:=fun e=>by rw[e,hq]at h2;cases h2
     exact .inr ⟨u,by omega,h2,h3⟩
  | true=>
   show y∈KK d s l c t++[(⟨c,t⟩:QB)]↔_;rw[List.mem_append,ih,List.mem_singleton];constructor
   ·rintro((h|⟨u,h1,h2⟩)|h)
    ·exact .inl h
    ·exact .inr ⟨u,by omega,h2⟩
    ·exact .inr ⟨t,by omega,hq,h⟩
   ·rintro(h|⟨u,h1,h2,h3⟩)
    ·exact .inl (.inl h)
    ·by_cases e:u=t
     ·subst e;exact .inr h3
     ·exact .inl (.inr ⟨u,by omega,h2,h3⟩)
theorem QMP{d:Puz}{s:QS}{y:QB}:∀{c:Nat},y∈KI d s c↔∃ k u:Nat,k<c∧u<4∧JX d s k u=true∧y=⟨(k:Nat),(u:Nat)⟩
 | 0=>by simp[KI]
 | c+1=>by
  simp only[KI];rw[QOI,QMP (c:=c)];constructor
  ·rintro(⟨k,u,h1,h2⟩|⟨u,h1,h2,h3⟩)
   ·exact⟨k,u,by omega,h2⟩
   ·exact⟨c,u,by omega,h1,h2,h3⟩
  ·rintro⟨k,u,h1,h2,h3,h4⟩
   by_cases e:k=c
   ·subst e;exact .inr ⟨u,h2,h3,h4⟩
   ·exact .inl ⟨k,u,by omega,h2,h3,h4⟩
theorem QWE(h:Tru x (Qr x x.scans.n) l):(x.d.ps.n:Int)-(x.scans.n-QH l (-2))≤x.lost:=by
 have:=h.lost;unfold YW at this;rw[h.len]at this;have:=of_decide_eq_false this;omega
theorem QOg{L:List (List QB)}(h:(Jy L k).cell ≠ -1):∀ l∈L,(l.getD k ⟨0,0⟩).cell=(Jy L k).cell:=by
 intro l hl;unfold Jy at h ⊢;cases e:L.any fun l=>(l.getD k ⟨0,0⟩).cell != ((L.headD []).getD k ⟨0,0⟩).cell with
 | true=>rw[e]at h;exact absurd rfl h
 | false=>
  rw[List.any_eq_false]at e;have:=e l hl;have q:(l.getD k ⟨0,0⟩).cell=((L.headD []).getD k ⟨0,0⟩).cell:=by simpa using this
  rw[cond_false,q];cases L.any fun l=>XD l (L.headD []) k<;>rfl
theorem QHa{L:List (List QB)}(h:k<N):(X9 L N).getD k ⟨0,0⟩=Jy L k:=by
 rw[qD (by rw[QF9];exact h),QMa]
def rwS(t:List QB):Rw QB:=⟨t.length,fun i=>t.getD i ⟨0,0⟩⟩
theorem QL7(t:List QB)(hl:t.length≤1000):∀ k,k≤t.length→alN (rwS t) k=QH (t.take k) (-2)∧tkN (rwS t) k=k-QH (t.take k) (-2)
 | 0,_=>by simp[alN,tkN,QH]
 | k+1,h=>by
  obtain⟨h1,h2⟩:=QL7 t hl k (by omega)
  have c1:=jm (t.take k) (-2);have c2:=vo (t.take k) (-2);rw[List.length_take,Nat.min_eq_left (by omega)]at c2
  have e:(rwS t).get k=t[k]:=qD (by omega)
  rw[vO (by omega),qi,alN,tkN,e,h1,h2]
  by_cases hc:t[k].cell = -2
  ·rw[if_pos hc,hc];exact⟨Xb ⟨by omega,by omega⟩,by show(k:Int)-_=_;omega⟩
  ·have hc2:(t[k].cell == -2)=false:=by simpa using hc
   rw[if_neg hc,hc2];exact⟨rfl,(Xb ⟨by omega,by omega⟩).trans (by omega)⟩
theorem QRc{j:Jn}{a b:QB}(h:Xd x j a b=true):YC x.d j a b=true:=by
 unfold Xd at h;unfold YC;cases e:(a.cell == -2)||(b.cell == -2)with
 | true=>
  rw[e,cond_true,qbA]at h;rw[cond_true];exact h.1
 | false=>rw[e]at h;exact h
theorem QIk(hx:x.ok=true){t:List QB}(ht:t∈Qb x):KH x (rwS t)=true:=by
 have h:=(Ys hx).1 ht;have hg:=JM hx;have hs:=hg.s;have n9:=hg.d.n9;have hlen:=h.len;unfold KH;have e1:(((rwS t).n:Int)==x.scans.n)=true:=by simp[rwS,hlen]
 have e2:(QM (Je x (rwS t)) (rwS t).n 0).isNone=true:=QDf fun k hk=>by
  have hk:k<t.length:=hk;have e:(rwS t).get k=t[k]:=qD hk;have hc:=QEW h hk;unfold Je;rw[e];simp only[X4,List.mem_cons]at hc;rcases hc with hc|hc
  ·rw[hc];rfl
  ·obtain⟨c,u,h1,h2,h3,h4⟩:=QMP.1 hc;have q:(t[k].cell == -2)=false:=by rw[h4,beq_eq_false_iff_ne];simp only;omega
   have w:i64.wrap ((x.d.ps.n:Int)-1)=(x.d.ps.n:Int)-1:=Xb ⟨by omega,by omega⟩
   have q2:(QM (eqC (rwS t) k) k 0).isNone=true:=QDf fun i hi=>by
    have ei:(rwS t).get i=t[i]:=qD (by omega)
    have:=h.one i k hi hk (by simpa using q)
    simp only[eqC,ei,e];simpa using this
   rw[q,q2,h4,cond_false,w];simp only[Int.toNat_natCast,h3,QW];simp;omega
 have e3:(QM (YT x (rwS t)) x.hang.n 0).isNone=true:=QDf fun k hk=>by
  unfold YT;rw[show YC x.d (x.hang.get k) ((rwS t).get (x.hang.get k).a.toNat) ((rwS t).get (x.hang.get k).b.toNat)=true from QRc (h.hang k hk)];rfl
 obtain⟨a1,a2⟩:=QL7 t (by omega) t.length (qlr _)
 rw[List.take_length]at a1 a2;have c1:=jm t (-2);have c2:=vo t (-2);have hal:=h.al;have hlo:=QWE h;have e4:decide (alN (rwS t) (rwS t).n≤x.foreign)=true:=decide_eq_true (by show alN (rwS t) t.length≤_;omega)
 have e5:decide (i64.wrap ((x.d.ps.n:Int)-tkN (rwS t) (rwS t).n)≤x.lost)=true:=decide_eq_true (by
  show i64.wrap ((x.d.ps.n:Int)-tkN (rwS t) t.length)≤_;rw[a2,Xb ⟨by omega,by omega⟩];omega)
 rw[e1,e2,e3,e4,e5];rfl
end Go.Proofs.Ytbpffdkemeoajaa
namespace Go.SX
open Go Go.RowKit Go.Proofs.Ytbpffdkemeoajaa
def QKr(rw_:Bool)(E:Env)(H:Hnd)(fn:Func):FC:=fun args nid _=>GL rw_ E H fn args nid (Xj (AV.idsFromL 0 args) [])
variable {f:FuncId}
theorem QXy{E:Env}(hE:E.Sound){H:Hnd}{rw_:Bool}{fn:Func}{c:Code}(hf:E.P.funcs[f]? = some fn)(hb:fn.body=some c)(hgo:Js E.P f=true)(hl:∀ G,G.rd=none→KC E G H c):QP E.P f (QKr rw_ E H fn):=by
 have h:=QFW (rw_:=rw_) hE hf hb hgo hl;exact⟨h.1,fun args nid all r w lk blks eff hH ha hv he hp=>h.2 args nid (Xj (AV.idsFromL 0 args) []) r w lk blks eff hH ha hv he hp⟩
def QEr(fc:FC):FC:=fun args nid _=>((fc args nid (Xj (AV.idsFromL 0 args) [])).1,fun blks=>match (fc args nid (Xj (AV.idsFromL 0 args) [])).2 blks with
 | some e=>some ⟨true,e.pre,e.val.setK true,e.upd⟩
 | none=>none)
theorem QY4{P:Program}{fc:FC}(h:QP P f fc):QP P f (QEr fc):=by
 refine⟨h.1,fun args nid all r w lk blks eff hH ha hv he hp => ?_⟩;simp only[QEr]at hv he;split at he<;>(try (cases he;done))
 rename_i e h0;simp only[qsI]at he;subst he;refine(h.2 args nid (Xj (AV.idsFromL 0 args) []) r w lk blks e hH ha hv h0 hp).mono ?_;rintro e' w' ⟨r',rfl,hpost⟩;exact⟨r',by simp only;rw[qQ],hpost⟩
end Go.SX
namespace Go.Proofs.Ytbpffdkemeoajaa
open Go.SX
abbrev mkG(P:Program)(C:Tab):Env:=⟨P,C,qK P,false,fun _=>false,false,true,false⟩
theorem QDJ{C:Tab}(hC:QZ C):(mkG Try.prog C).Sound:={ c:=hC,m:=HI Try.prog,mixed:=Gk }
def QOU:List (Nat×Nat)→Nat→Nat
 | [],_=>0
 | (g,k)::l,f=>match Nat.beq g f with
  | true=>k
  | false=>QOU l f
def Y2(P:Program)(B:Tab)(l:List (Nat×Nat)):Nat→Tab
 | 0=>fun _=>none
 | d+1=>fun f=>match B f with
  | some fc=>some (QEr fc)
  | none=>match QOU l f with
   | 0=>none
   | k=>match P.funcs[f]? with
    | none=>none
    | some fn=>match fn.body.isSome&&Js P f with
     | false=>none
     | true=>match k with
      | 1=>some (QKr false (mkG P (Y2 P B l d)) (hnd (mkG P (Y2 P B l d)) 60) fn)
      | 2=>some (GL false (mkG P (Y2 P B l d)) (hnd (mkG P (Y2 P B l d)) 60) fn)
      | _=>some (GL true (mkG P (Y2 P B l d)) (hnd (mkG P (Y2 P B l d)) 60) fn)
theorem QOi{B:Tab}(hB:QZ B)(l:List (Nat×Nat)):∀ d,QZ (Y2 Try.prog B l d)
 | 0=>fun f fc h=>by cases h
 | d+1=>fun f fc h=>by
  have ih:=QDJ (QOi hB l d);simp only[Y2]at h;split at h
  ·rename_i fc0 h0;simp only[qsI]at h;subst h;exact QY4 (hB _ _ h0)
  split at h
  ·cases h
  ·split at h
   ·cases h
   ·rename_i fn hf;split at h
    ·cases h
    ·rename_i hb;simp only[qbA,Option.isSome_iff_exists]at hb;obtain⟨⟨c,hc⟩,hgo⟩:=hb;split at h<;>simp only[qsI]at h<;>subst h
     ·exact QXy ih hf hc hgo fun G hG=>Qy ih 60 G _ hG
     ·exact QFW ih hf hc hgo fun G hG=>Qy ih 60 G _ hG
     ·exact QFW ih hf hc hgo fun G hG=>Qy ih 60 G _ hG
def QV5:Unit→Bool×AV:=fun _=>(true,.bool false true)
def QGK:FC:=Q8 (KA QV5)
variable {f:FuncId}
theorem QUv{C:Tab}(hC:QZ C)(d:Nat){fn:Func}(hf:Try.prog.funcs[f]? = some fn)(hb:fn.body=some (Qs fn))(hgo:Js Try.prog f=true)(h:Q5 (mkG Try.prog C) (hnd (mkG Try.prog C) d) false fn [] [] 0 = .leaf (.bool true true) []):QP Try.prog f QGK:=by
 refine QGi (QDJ hC) hf hb hgo (fun G _ hG=>Qy (QDJ hC) d G _ hG) ?_;rintro⟨⟩ _;rw[show(Qt.enc ((()):Unit):List AV)=[]from rfl,h];rfl
def QFF:List (Nat×Nat):=[(95,1)]
theorem QPe:Q5 (mkG Try.prog (Y2 Try.prog V4 QFF 12)) (hnd (mkG Try.prog (Y2 Try.prog V4 QFF 12)) 100) false Try.f12 [] [] 0 = .leaf (.bool true true) []:=by kernel_rfl
theorem QW5:QP Try.prog 12 QGK:=QUv (QOi Wb QFF 12) 100 Try.func12 (by kernel_rfl) (by kernel_rfl) QPe
def Kw:Tab:=Qg (Qg (Qg (Qg (Qg QNF 12 QGK) 25 (vw QK3)) 20 (vw QIz)) 33 (vw QID)) 15 (vw QEv)
theorem YB:QZ Kw:=((((QV3.add QW5).add (GY QTM)).add (GY QQh)).add (GY QaB)).add (GY QJF)
end Go.Proofs.Ytbpffdkemeoajaa
