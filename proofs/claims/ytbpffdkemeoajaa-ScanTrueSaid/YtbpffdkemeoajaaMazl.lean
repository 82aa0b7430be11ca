/- - -/
import Derived.Test.YtbpffdkemeoajaaMazg
import Derived.Test.YtbpffdkemeoajaaMazf
import Derived.Test.YtbpffdkemeoajaaMaza
import Derived.Test.YtbpffdkemeoajaaMazk
import Derived.Test.YtbpffdkemeoajaaMazj
import Derived.Test.YtbpffdkemeoajaaMas
import Derived.Test.YtbpffdkemeoajaaMap
open Go.IntKind (i64)
set_option maxRecDepth 100000
namespace Go.Proofs.Ytbpffdkemeoajaa
open Go Go.SX
def okC(x:QE)(l:List QB)(c:QB):Bool := !JG x l c&&Kj x (l++[c])
def HR(x:QE)(l:List QB):Bool := !X2 x l
def ZY(x:QE)(C:List (List QB)):Nat→List QB→List (List QB):=X9 (fun l=>QJ C l.length) (okC x) (HR x)
theorem QNw{σ:Type}{Y:σ→List QB→σ×Bool}{f:σ→(Int→Bool)→QB→Res σ}{g:QB→List (List QB)}(hf:∀ c s h,∃ h',f s h c=match VA Y (g c) s with
  | (s',true) => .go s' h'
  | (s',false) => .stop s' h'):∀(cs:List QB) (s:σ) (h:Int→Bool),∃ h',Jk f cs s h=match VA Y (cs.flatMap g) s with
  | (s',true) => .go s' h'
  | (s',false) => .stop s' h'
 | [],s,h=>⟨h,rfl⟩
 | c::cs,s,h=>by
  obtain⟨h1,e⟩:=hf c s h;rw[List.flatMap_cons,QIK,Jk,e];cases e2:VA Y (g c) s with
  | mk s' q=>
   cases q with
   | true=>exact QNw hf cs s' h1
   | false=>exact⟨h1,rfl⟩
theorem GE{σ:Type}(x:QE)(C:List (List QB))(Y:σ→List QB→σ×Bool):∀(d:Nat) (l:List QB) (s:σ) (h:Int→Bool),∃ h',onT x C Y d l s h=match VA Y (ZY x C d l) s with
  | (s',true) => .go s' h'
  | (s',false) => .stop s' h'
 | 0,l,s,h=>by
  refine⟨h,?_⟩;simp only[onT,Jp,ZY,X9,HR];cases X2 x l with
  | true=>rfl
  | false=>
   simp only[Bool.not_false,cond_true,VA];cases Y s l with
   | mk s' q=>cases q<;>rfl
 | d+1,l,s,h=>by
  rw[onT];refine QNw (g:=fun c=>cond (okC x l c) (ZY x C d (l++[c])) []) (fun c s h => ?_) _ s h;unfold Kf okC;cases JG x l c with
  | true=>exact⟨h,rfl⟩
  | false=>
   cases Kj x (l++[c])with
   | false=>exact⟨_,rfl⟩
   | true=>
    obtain⟨h1,e⟩:=GE x C Y d (l++[c]) s (QW c.cell true h);simp only[e,Bool.not_false,Bool.and_self,cond_true];cases VA Y (ZY x C d (l++[c])) s with
    | mk s' q=>
     cases q with
     | true=>exact⟨_,rfl⟩
     | false=>exact⟨_,rfl⟩
structure Tru (x:QE) (C:List (List QB)) (l:List QB):Prop where
 len:l.length=x.scans.n
 can:∀ i (h:i<l.length),l[i]∈QJ C i
 one:∀ i j (hi:i<j) (hj:j<l.length),l[j].cell ≠ -2→l[i].cell≠l[j].cell
 al:QH l (-2)≤x.foreign
 hang:∀ k,k<x.hang.n→XD x (x.hang.get k) (l.getD (x.hang.get k).a.toNat ⟨0,0⟩) (l.getD (x.hang.get k).b.toNat ⟨0,0⟩)=true
 lost:X2 x l=false
theorem QFJ{l:List QB}{n:Int}:QH l n<1↔∀ s∈l,s.cell≠n:=by
 unfold QH;constructor
 ·intro h s hs e;have:0<l.countP fun s=>s.cell==n:=List.countP_pos_iff.2 ⟨s,hs,by simp[e]⟩
  omega
 ·intro h;have:(l.countP fun s=>s.cell==n)=0:=List.countP_eq_zero.2 fun s hs=>by simpa using h s hs
  omega
variable {l:List QB}{α:Type}{i N:Nat}{x:QE}{L:List (List QB)}
theorem QXR{n:Int}(i:Nat):QH (l.take i) n≤QH l n:=by
 unfold QH;have:=List.Sublist.countP_le (p:=fun s:QB=>s.cell==n) (List.take_sublist i l);omega
theorem HW{l:List α}(h:i<l.length):l.take (i+1)=l.take i++[l[i]]:=by
 rw[List.take_add_one,List.getElem?_eq_getElem h];rfl
theorem QI9:Kj x l=true↔∀ k,k<x.hang.n→Yy x l k=true→XD x (x.hang.get k) (l.getD (x.hang.get k).a.toNat ⟨0,0⟩) (l.getD (x.hang.get k).b.toNat ⟨0,0⟩)=true:=by
 unfold Kj;rw[Option.isNone_iff_eq_none];constructor
 ·intro h k hk hm;have:=HG h k (Nat.zero_le _) (by omega)
  simpa only [Vq,hm,Bool.true_and,Bool.not_eq_false']using this
 ·intro h;refine GA fun k _ hk => ?_;unfold Vq;cases hm:Yy x l k with
  | false=>rfl
  | true=>rw[h k (by omega) hm];rfl
theorem QAF{l:List α}{k:Nat}{z:α}(h:k<i):(l.take i).getD k z=l.getD k z:=by
 rw[List.getD_eq_getElem?_getD,List.getD_eq_getElem?_getD,List.getElem?_take_of_lt h]
structure QJp (x:QE):Prop where
 f:0≤x.foreign
 a:∀ k,k<x.hang.n→0≤(x.hang.get k).a∧(x.hang.get k).a<x.scans.n
 b:∀ k,k<x.hang.n→0≤(x.hang.get k).b∧(x.hang.get k).b<x.scans.n
theorem QTQ{C:List (List QB)}(hx:QJp x):l∈ZY x C x.scans.n []↔Tru x C l:=by
 unfold ZY;rw[QSp];simp only[List.nil_append];constructor
 ·rintro⟨t,h1,rfl,h2,h3⟩;rw[QNT]at h2;simp only[List.nil_append,okC,qbA,Bool.not_eq_true']at h2;refine⟨h1,fun i h => ?_,fun i j hi hj hc he => ?_,?_,fun k hk => ?_,by simpa[HR]using h3⟩
  ·have:=(h2 i h).1
   rwa [List.length_take,Nat.min_eq_left (by omega)]at this
  ·have hf:=(h2 j hj).2.1;unfold JG at hf;rw[show(l[j].cell == -2)=false by simpa using hc]at hf
   have hf:QH (l.take j) l[j].cell<1:=by simpa using hf
   refine QFJ.1 hf l[i] ?_ he;rw[List.mem_take_iff_getElem];exact⟨i,by omega,rfl⟩
  ·have key:∀ i,i≤l.length→QH (l.take i) (-2)≤x.foreign:=by
    intro i
    induction i with
    | zero=>intro _;simpa[QH]using hx.f
    | succ i ih=>
     intro hi;have hi:i<l.length:=hi;rw[HW hi,qc];have hf:=(h2 i hi).2.1;unfold JG at hf;split
     ·rename_i e;rw[e]at hf;simp at hf;omega
     ·exact ih (by omega)
   have:=key l.length (qlr _)
   rwa [List.take_length]at this
  ·have ha:=hx.a k hk;have hb:=hx.b k hk;have hm:(max (x.hang.get k).a (x.hang.get k).b).toNat<l.length:=by omega
   have hf:=(h2 _ hm).2.2;rw[←HW hm,QI9]at hf
   have:=hf k hk (by
    unfold Yy;rw[List.length_take,Nat.min_eq_left (by omega)]
    simp;omega)
   rwa [QAF (by omega),QAF (by omega)]at this
 ·intro h;refine⟨l,h.len,rfl,?_,by simp[HR,h.lost]⟩
  rw[QNT];intro i hi;simp only[List.nil_append,okC,qbA,Bool.not_eq_true'];refine⟨?_,?_,?_⟩
  ·rw[List.length_take,Nat.min_eq_left (by omega)];exact h.can i hi
  ·unfold JG;cases hc:l[i].cell == -2 with
   | true=>
    have hc:l[i].cell = -2:=by simpa using hc
    have h1:=QXR (l:=l) (n := -2) (i+1);rw[HW hi,qc,if_pos hc]at h1;have h2:=h.al;rw[hc];simp;omega
   | false=>
    have hc:l[i].cell ≠ -2:=by simpa using hc
    have:QH (l.take i) l[i].cell<1:=QFJ.2 fun s hs=>by
     obtain⟨k,hk,rfl⟩:=List.mem_take_iff_getElem.1 hs;exact h.one k i (by omega) hi hc
    simpa using this
  ·rw[←HW hi,QI9];intro k hk hm;have ha:=hx.a k hk;have hb:=hx.b k hk;unfold Yy at hm;rw[List.length_take,Nat.min_eq_left (by omega)]at hm
   have hm:max (x.hang.get k).a (x.hang.get k).b=i:=by simpa using hm
   rw[QAF (by omega),QAF (by omega)]
   exact h.hang k hk
theorem QBZ{σ:Type}{f:σ→List QB→σ}{p:σ→Int}(hp:∀ s l,p (f s l)=i64.wrap (p s+1)):∀(ls:List (List QB)) (s:σ) (n:Nat),p s=n→n+ls.length<2^63→p (ls.foldl f s)=((n+ls.length:Nat):Int)
 | [],s,n,h,_=>by simpa using h
 | l::ls,s,n,h,hn=>by
  simp only[List.length_cons]at hn ⊢;rw[List.foldl_cons,QBZ hp ls (f s l) (n+1) (by rw[hp,h];exact(Y3 ⟨by omega,by omega⟩).trans (by omega)) (by omega)]
  omega
structure WO (l:List QB):Prop where
 s:∀ c∈l,c.cell = -2∨0≤c.cell∧c.cell<63
theorem QKL{l:List α}{z:α}(h:i<l.length):l.getD i z∈l:=by
 rw[List.getD_eq_getElem?_getD,List.getElem?_eq_getElem h];exact List.getElem_mem h
theorem QBP{l:List α}{z:α}(h:i<l.length):l.getD i z=l[i]:=by
 rw[List.getD_eq_getElem?_getD,List.getElem?_eq_getElem h];rfl
theorem QQC{l:List QB}(hl:WO l)(k:Nat):∀ n,n≤l.length→Ql (Kr l n) k=(l.take n).any fun s=>s.cell==(k:Int)
 | 0,_=>by rw[Kr,ZW];rfl
 | n+1,h=>by
  rw[HW (by omega),List.any_append,←QQC hl k n (by omega),Kr,QBP (by omega),QCu]
  have hc:=hl.s l[n] (List.getElem_mem _);cases e:l[n].cell != -2 with
  | true=>
   have e:l[n].cell ≠ -2:=by simpa using e
   have h0:0≤l[n].cell∧l[n].cell<63:=by omega
   simp only[VT];rw[Wh h0.1];simp only[List.any_cons,List.any_nil,Bool.or_false];congr 1
   by_cases hk:l[n].cell=(k:Int)
   ·have:k<64:=by omega
    simp[hk,this]
   ·simp[hk]
  | false=>
   have e:l[n].cell = -2:=by simpa using e
   simp[e]
theorem QP5(hl:WO l)(k:Nat):Ql (Kr l l.length) k=l.any fun s=>s.cell==(k:Int):=by
 rw[QQC hl k _ (qlr _),List.take_length]
theorem QbY{L:List (List QB)}(hL:∀ l∈L,WO l)(all:Int)(hn:L.length<2^63):∃ s:MsS,L.foldl (fun s l=>(msY all s l).1) (0,all,0)=s∧s.1=L.length∧KY s.2.2∧(KY all→KY s.2.1)∧(∀ k,Ql s.2.1 k=(Ql all k&&L.all fun l => !l.any fun s=>s.cell==(k:Int)))∧∀ k,Ql s.2.2 k=(Ql all k&&L.any fun l => !l.any fun s=>s.cell==(k:Int)):=by
 refine⟨_,rfl,?_,?_,?_,fun k => ?_,fun k => ?_⟩
 ·have:=QBZ (f:=fun(s:MsS) l=>(msY all s l).1) (p:=fun s=>s.1) (fun s l=>rfl) L (0,all,0) 0 rfl (by omega)
  simpa using this
 ·have key:∀(ls:List (List QB)) (s:MsS),KY s.2.2→KY (ls.foldl (fun s l=>(msY all s l).1) s).2.2:=by
   intro ls
   induction ls with
   | nil=>exact fun s h=>h
   | cons l ls ih=>exact fun s _=>ih _ (Ym _)
  exact key L _ ⟨by simp,by simp⟩
 ·have key:∀(ls:List (List QB)) (s:MsS),KY s.2.1→KY (ls.foldl (fun s l=>(msY all s l).1) s).2.1:=by
   intro ls
   induction ls with
   | nil=>exact fun s h=>h
   | cons l ls ih=>exact fun s _=>ih _ (Ym _)
  exact fun h=>key L (0,all,0) h
 ·have key:∀(ls:List (List QB)) (s:MsS),(∀ l∈ls,WO l)→Ql (ls.foldl (fun s l=>(msY all s l).1) s).2.1 k=(Ql s.2.1 k&&ls.all fun l => !l.any fun s=>s.cell==(k:Int)):=by
   intro ls
   induction ls with
   | nil=>intro s _;simp
   | cons l ls ih=>
    intro s h;rw[List.foldl_cons,ih _ (fun l hl=>h l (List.mem_cons_of_mem _ hl)),List.all_cons,←Bool.and_assoc];congr 1;show Ql (VM s.2.1 (Kr l l.length)) k=_;unfold VM;rw[QC5,QP5 (h l List.mem_cons_self)]
  exact key L _ hL
 ·have key:∀(ls:List (List QB)) (s:MsS),(∀ l∈ls,WO l)→Ql (ls.foldl (fun s l=>(msY all s l).1) s).2.2 k=(Ql s.2.2 k||(Ql all k&&ls.any fun l => !l.any fun s=>s.cell==(k:Int))):=by
   intro ls
   induction ls with
   | nil=>intro s _;simp
   | cons l ls ih=>
    intro s h;rw[List.foldl_cons,ih _ (fun l hl=>h l (List.mem_cons_of_mem _ hl)),List.any_cons,Bool.and_or_distrib_left,←Bool.or_assoc];congr 1;show Ql (orN s.2.2 (VM all (Kr l l.length))) k=_;unfold orN VM;rw[QO9,QC5,QP5 (h l List.mem_cons_self)]
  have:=key L (0,all,0) hL;simpa[ZW]using this
theorem QF4(l f:List QB)(m:Int){k:Nat}(hk:k<64):∀ n,Ql (mvL l f m n) k=(Ql m k||(decide (k<n)&&((l.getD k ⟨0,0⟩).cell != (f.getD k ⟨0,0⟩).cell)))
 | 0=>by simp[mvL]
 | n+1=>by
  have ih:=QF4 l f m hk n;rw[mvL]
  by_cases e:k=n
  ·subst e;rw[decide_eq_false (qli _),Bool.false_and,Bool.or_false]at ih;cases h:(l.getD k ⟨0,0⟩).cell != (f.getD k ⟨0,0⟩).cell with
   | true=>simp only[VT];rw[Wh (Int.natCast_nonneg _)];simp[hk]
   | false=>simp only[ih,Bool.and_false,Bool.or_false]
  ·have e1:decide (k<n+1)=decide (k<n):=decide_eq_decide.2 (by omega)
   rw[e1,←ih];split
   ·simp only[VT];rw[Wh (Int.natCast_nonneg _)];have:decide ((n:Int)=(k:Int))=false:=by simp;omega
    rw[this];simp
   ·rfl
theorem QEO(l f:List QB)(m:Int){k:Nat}(hk:k<64):∀ n,Ql (tuL l f m n) k=(Ql m k||(decide (k<n)&&Xv l f k))
 | 0=>by simp[tuL]
 | n+1=>by
  have ih:=QEO l f m hk n;rw[tuL]
  by_cases e:k=n
  ·subst e;rw[decide_eq_false (qli _),Bool.false_and,Bool.or_false]at ih;cases h:Xv l f k with
   | true=>simp only[VT];rw[Wh (Int.natCast_nonneg _)];simp[hk]
   | false=>simp only[ih,Bool.and_false,Bool.or_false]
  ·have e1:decide (k<n+1)=decide (k<n):=decide_eq_decide.2 (by omega)
   rw[e1,←ih];split
   ·simp only[VT];rw[Wh (Int.natCast_nonneg _)];have:decide ((n:Int)=(k:Int))=false:=by simp;omega
    rw[this];simp
   ·rfl
theorem QGE(l f:List QB){m:Int}(hm:KY m):∀ n,KY (mvL l f m n)
 | 0=>hm
 | n+1=>by
  rw[mvL];split
  ·exact Ym _
  ·exact QGE l f hm n
theorem QEE(l f:List QB){m:Int}(hm:KY m):∀ n,KY (tuL l f m n)
 | 0=>hm
 | n+1=>by
  rw[tuL];split
  ·exact Ym _
  ·exact QEE l f hm n
def tdF(s:TdS)(l:List QB):TdS:=(tdY s l).1
theorem QOX{f:List QB}{N:Nat}:∀(L:List (List QB)) (s:TdS) (n:Nat),(∀ l∈L,l.length=N)→s.2.1=n→0<n→n+L.length<2^63→s.2.2.1=f→KY s.2.2.2.1→KY s.2.2.2.2 →
  (L.foldl tdF s).2.2.1=f∧KY (L.foldl tdF s).2.2.2.1∧KY (L.foldl tdF s).2.2.2.2∧∀ k,k<64→k<N→Ql (L.foldl tdF s).2.2.2.1 k=(Ql s.2.2.2.1 k||L.any fun l=>(l.getD k ⟨0,0⟩).cell != (f.getD k ⟨0,0⟩).cell)∧Ql (L.foldl tdF s).2.2.2.2 k=(Ql s.2.2.2.2 k||L.any fun l=>Xv l f k)
 | [],s,n,_,_,_,_,hf,h1,h2=>⟨hf,h1,h2,fun k _ _=>by simp⟩
 | l::L,s,n,hN,hn,hp,hL,hf,h1,h2=>by
  simp only[List.length_cons]at hL;have q:(s.2.1==0)=false:=by rw[hn];simp;omega
  have e:KI s.2.1 l s.2.2.1=f:=by rw[KI,q,hf]
  have hl:=hN l List.mem_cons_self
  obtain⟨a1,a2,a3,a4⟩:=QOX (f:=f) (N:=N) L (tdF s l) (n+1) (fun y hy=>hN y (List.mem_cons_of_mem _ hy)) (by
   show i64.wrap (s.2.1+1)=_;rw[hn];exact(Y3 ⟨by omega,by omega⟩).trans (by omega)) (by omega) (by omega) e (QGE _ _ h1 _) (QEE _ _ h2 _)
  refine⟨a1,a2,a3,fun k hk hkN => ?_⟩;obtain⟨b1,b2⟩:=a4 k hk hkN;rw[List.foldl_cons,b1,b2,List.any_cons,List.any_cons,←Bool.or_assoc,←Bool.or_assoc];have d1:decide (k<l.length)=true:=decide_eq_true (by omega)
  constructor
  ·congr 1;show Ql (mvL l (KI s.2.1 l s.2.2.1) s.2.2.2.1 l.length) k=_;rw[e,QF4 _ _ _ hk,d1,Bool.true_and]
  ·congr 1;show Ql (tuL l (KI s.2.1 l s.2.2.1) s.2.2.2.2 l.length) k=_;rw[e,QEO _ _ _ hk,d1,Bool.true_and]
theorem QYi{f:List QB}(hN:∀ l∈f::L,l.length=N)(hL:(f::L).length<2^63):∃ s:TdS,(f::L).foldl tdF (0,0,[],0,0)=s∧s.1=(f::L).length∧s.2.2.1=f∧KY s.2.2.2.1∧KY s.2.2.2.2∧∀ k,k<64→k<N→Ql s.2.2.2.1 k=((f::L).any fun l=>(l.getD k ⟨0,0⟩).cell != (f.getD k ⟨0,0⟩).cell)∧Ql s.2.2.2.2 k=((f::L).any fun l=>Xv l f k):=by
 refine⟨_,rfl,?_,?_⟩
 ·have:=QBZ (f:=tdF) (p:=fun s=>s.1) (fun s l=>rfl) (f::L) (0,0,[],0,0) 0 rfl (by omega)
  simpa using this
 ·have z:KY 0:=⟨by omega,by omega⟩
  have e:KI 0 f []=f:=rfl;have hf:=hN f List.mem_cons_self;simp only[List.length_cons]at hL;obtain⟨a1,a2,a3,a4⟩:=QOX (f:=f) (N:=N) L (tdF (0,0,[],0,0) f) 1 (fun y hy=>hN y (List.mem_cons_of_mem _ hy)) rfl (by omega) (by omega) e (QGE _ _ z _) (QEE _ _ z _)
  refine⟨a1,a2,a3,fun k hk hkN => ?_⟩;obtain⟨b1,b2⟩:=a4 k hk hkN;rw[List.foldl_cons,b1,b2,List.any_cons,List.any_cons];have d1:decide (k<f.length)=true:=decide_eq_true (by omega)
  constructor
  ·congr 1;show Ql (mvL f (KI 0 f []) 0 f.length) k=_;rw[e,QF4 _ _ _ hk,d1,Bool.true_and,ZW,Bool.false_or]
  ·congr 1;show Ql (tuL f (KI 0 f []) 0 f.length) k=_;rw[e,QEO _ _ _ hk,d1,Bool.true_and,ZW,Bool.false_or]
theorem QI7(f:List QB)(m t:Int)(k:Nat):∀ n,n≤f.length→(Kv f m t n).getD k ⟨0,0⟩=if k<n then YI m t k (f.getD k ⟨0,0⟩)else f.getD k ⟨0,0⟩
 | 0,_=>by simp[Kv]
 | n+1,h=>by
  have ih:=QI7 f m t k n (by omega)
  rw[Kv]
  by_cases e:k=n
  ·subst e;rw[if_neg (qli _)]at ih;rw[if_pos (Nat.lt_succ_self _),List.getD_eq_getElem?_getD,List.getElem?_set_self (by rw[je];omega),Option.getD_some,ih]
  ·rw[List.getD_eq_getElem?_getD,List.getElem?_set_ne (fun h=>e h.symm),←List.getD_eq_getElem?_getD,ih]
   by_cases h2:k<n
   ·rw[if_pos h2,if_pos (by omega)]
   ·rw[if_neg h2,if_neg (by omega)]
def YC(L:List (List QB))(k:Nat):QB:=
 cond (L.any fun l=>(l.getD k ⟨0,0⟩).cell != ((L.headD []).getD k ⟨0,0⟩).cell) ⟨-1,0⟩
  (cond (L.any fun l=>Xv l (L.headD []) k) ⟨((L.headD []).getD k ⟨0,0⟩).cell,0⟩ ((L.headD []).getD k ⟨0,0⟩))
def Zs(L:List (List QB))(N:Nat):List QB:=(List.range N).map (YC L)
theorem QFA(L:List (List QB))(N:Nat):(Zs L N).length=N:=by simp[Zs]
theorem QP4(L:List (List QB))(N:Nat){k:Nat}(h:k<(Zs L N).length):(Zs L N)[k]=YC L k:=by simp[Zs]
theorem QRa{f:List QB}(h64:N≤64)(hN:∀ l∈f::L,l.length=N)(hL:(f::L).length<2^63):∃ s:TdS,(f::L).foldl tdF (0,0,[],0,0)=s∧s.1=(f::L).length∧Kv s.2.2.1 s.2.2.2.1 s.2.2.2.2 s.2.2.1.length=Zs (f::L) N:=by
 obtain⟨s,e,h1,h2,h3,h4,h5⟩:=QYi hN hL;refine⟨s,e,h1,?_⟩;have hf:=hN f List.mem_cons_self;rw[h2];apply List.ext_getElem
 ·rw[je,QFA,hf]
 ·intro k hk hk2;rw[je]at hk;have:=QI7 f s.2.2.2.1 s.2.2.2.2 k f.length (qlr _);rw[if_pos hk,QBP (by rw[je];exact hk)]at this
  rw[this,QP4];obtain⟨b1,b2⟩:=h5 k (by omega) (by omega)
  show YI _ _ _ _=_;unfold YI YC;have v1:bitV s.2.2.2.1 k=Ql s.2.2.2.1 k:=Go.SX.bitV_bit h3 (by omega)
  have v2:bitV s.2.2.2.2 k=Ql s.2.2.2.2 k:=Go.SX.bitV_bit h4 (by omega)
  rw[v1,v2,b1,b2];simp only[List.headD_cons];split
  ·rename_i q;rw[q];rfl
  ·rename_i q;rw[q];split
   ·rename_i q;rw[q];rfl
   ·rename_i q;rw[q];rfl
theorem QJP{l:List QB}(hl:WO l)(f:Nat→Int){j:Nat}(hj:j<12)(k:Nat):∀ n,n≤l.length→n≤12→Ql (plL l f n j) k=(Ql (f j) k||(decide (j<n)&&((l.getD j ⟨0,0⟩).cell==(k:Int))))
 | 0,_,_=>by simp[plL]
 | n+1,h,h12=>by
  have ih:=QJP hl f hj k n (by omega) (by omega)
  rw[plL,plS];have hc:=hl.s (l.getD n ⟨0,0⟩) (QKL (by omega))
  have q12:Nat.beq j 12=false:=by
   cases hb:Nat.beq j 12 with
   | true=>have:=Nat.eq_of_beq_eq_true hb;omega
   | false=>rfl
  cases e:(l.getD n ⟨0,0⟩).cell == -2 with
  | true=>
   simp only[q12];have e:(l.getD n ⟨0,0⟩).cell = -2:=by simpa using e
   rw[ih]
   by_cases q:j=n
   ·subst q;rw[e];have:((-2:Int)==(k:Int))=false:=by rw[beq_eq_false_iff_ne];omega
    rw[this];simp
   ·rw[decide_eq_decide.2 (show j<n+1↔j<n by omega)]
  | false=>
   have e:(l.getD n ⟨0,0⟩).cell ≠ -2:=by simpa using e
   have h0:0≤(l.getD n ⟨0,0⟩).cell∧(l.getD n ⟨0,0⟩).cell<63:=by omega
   by_cases q:j=n
   ·subst q;rw[Nat.beq_refl];simp only[VT];rw[Wh h0.1,ih];simp only[qli,decide_false,Bool.false_and,Bool.or_false,Nat.lt_succ_self,decide_true,Bool.true_and];congr 1
    by_cases hk:(l.getD j ⟨0,0⟩).cell=(k:Int)
    ·have:k<64:=by omega
     rw[hk];simp[this]
    ·have h2:((l.getD j ⟨0,0⟩).cell==(k:Int))=false:=by simpa using hk
     rw[h2,decide_eq_false hk,Bool.and_false]
   ·have q2:Nat.beq j n=false:=by
     cases hb:Nat.beq j n with
     | true=>exact absurd (Nat.eq_of_beq_eq_true hb) q
     | false=>rfl
    simp only[q2];rw[ih,decide_eq_decide.2 (show j<n+1↔j<n by omega)]
theorem QIe{l:List QB}(f:Nat→Int)(k:Nat):∀ n,n≤l.length→n≤12→Ql (plL l f n 12) k=(Ql (f 12) k||(decide (k<n)&&((l.getD k ⟨0,0⟩).cell == -2)))
 | 0,_,_=>by simp[plL]
 | n+1,h,h12=>by
  have ih:=QIe (l:=l) f k n (by omega) (by omega)
  rw[plL,plS];cases e:(l.getD n ⟨0,0⟩).cell == -2 with
  | true=>
   have e0:Nat.beq 12 12=true:=rfl;simp only[e0,VT];rw[Wh (Int.natCast_nonneg _),ih]
   by_cases q:k=n
   ·subst q;have:k<64:=by omega
    rw[e,decide_eq_true this,decide_eq_true (Nat.lt_succ_self k),decide_eq_true (rfl:(k:Int)=k)];simp
   ·have:decide ((n:Int)=(k:Int))=false:=by simp;omega
    rw[this,decide_eq_decide.2 (show k<n+1↔k<n by omega),Bool.and_false,Bool.or_false]
  | false=>
   have q2:Nat.beq 12 n=false:=by
    cases hb:Nat.beq 12 n with
    | true=>have:=Nat.eq_of_beq_eq_true hb;omega
    | false=>rfl
   simp only[q2];rw[ih]
   by_cases q:k=n
   ·subst q;rw[e];simp
   ·rw[decide_eq_decide.2 (show k<n+1↔k<n by omega)]
theorem QFq{l:List QB}{f:Nat→Int}(hf:∀ j,KY (f j)):∀ n j,KY (plL l f n j)
 | 0,j=>hf j
 | n+1,j=>by
  rw[plL,plS];split
  ·split
   ·exact Ym _
   ·exact QFq hf n j
  ·split
   ·exact Ym _
   ·exact QFq hf n j
def plF(s:PlS)(l:List QB):PlS:=(plY s l).1
theorem QOd{N:Nat}(h12:N≤12):∀(L:List (List QB)) (s:PlS),(∀ l∈L,WO l∧l.length=N)→(∀ j,KY (s.2 j)) →
  (∀ j,KY ((L.foldl plF s).2 j))∧(∀ j,j<N→∀ k,Ql ((L.foldl plF s).2 j) k=(Ql (s.2 j) k||L.any fun l=>(l.getD j ⟨0,0⟩).cell==(k:Int)))∧∀ k,Ql ((L.foldl plF s).2 12) k=(Ql (s.2 12) k||(decide (k<N)&&L.any fun l=>(l.getD k ⟨0,0⟩).cell == -2))
 | [],s,_,h=>⟨h,fun j _ k=>by simp,fun k=>by simp⟩
 | l::L,s,h,hs=>by
  obtain⟨h1,h2⟩:=h l List.mem_cons_self;obtain⟨a1,a2,a3⟩:=QOd h12 L (plF s l) (fun y hy=>h y (List.mem_cons_of_mem _ hy)) (QFq hs _);refine⟨a1,fun j hj k => ?_,fun k => ?_⟩
  ·rw[List.foldl_cons,a2 j hj k,List.any_cons,←Bool.or_assoc];congr 1;show Ql (plL l s.2 l.length j) k=_;rw[QJP h1 _ (by omega) _ _ (qlr _) (by omega),decide_eq_true (show j<l.length by omega),Bool.true_and]
  ·rw[List.foldl_cons,a3 k,List.any_cons]
   have e:Ql ((plF s l).2 12) k=(Ql (s.2 12) k||(decide (k<N)&&((l.getD k ⟨0,0⟩).cell == -2))):=by
    show Ql (plL l s.2 l.length 12) k=_;rw[QIe _ _ _ (qlr _) (by omega),h2]
   rw[e,Bool.or_assoc,Bool.and_or_distrib_left]
theorem QQo:∀(L:List (List QB)) (n:Nat) (f g:List QB),2≤n→n<100→(VA trY L ((n:Int),f,g)).1=(((min (n+L.length) 100:Nat):Int),f,g)
 | [],n,f,g,h1,h2=>by
  simp only[VA,List.length_nil];rw[Nat.min_eq_left (by omega)];rfl
 | l::L,n,f,g,h1,h2=>by
  have w:i64.wrap ((n:Int)+1)=((n+1:Nat):Int):=(Y3 ⟨by omega,by omega⟩).trans (by omega)
  have e1:((n+1:Nat):Int)≠1:=by omega
  have e2:((n+1:Nat):Int)≠2:=by omega
  have e:trY ((n:Int),f,g) l=((((n+1:Nat):Int),f,g),!(((n+1:Nat):Int)==100)):=by
   simp only[trY,w,Wo,Wa,beq_eq_false_iff_ne.2 e1,beq_eq_false_iff_ne.2 e2]
  simp only[VA,e]
  by_cases h:n+1=100
  ·have q:(((n+1:Nat):Int)==100)=true:=by simp;omega
   rw[q];simp only[Bool.not_true,List.length_cons];rw[Nat.min_eq_right (by omega),h]
  ·have q:(((n+1:Nat):Int)==100)=false:=by simp;omega
   rw[q];simp only[Bool.not_false];rw[QQo L (n+1) f g (by omega) (by omega),List.length_cons]
   congr 3;omega
theorem Qco(L:List (List QB)):(VA trY L (0,[],[])).1=(((min L.length 100:Nat):Int),L.headD [],L.getD 1 []):=by
 match L with
 | []=>rfl
 | [l]=>rfl
 | l::l2::L=>
  have e1:trY (0,[],[]) l=((1,l,[]),true):=rfl;have e2:trY (1,l,[]) l2=((2,l,l2),true):=rfl;simp only[VA,e1,e2];have:=QQo L 2 l l2 (by omega) (by omega)
  rw[show((2:Nat):Int)=2 from rfl]at this;rw[this];simp only[List.length_cons,List.headD_cons];congr 3;omega
def Zb(l:List QB)(k:Nat):Bool:=l.any fun s=>s.cell==(k:Int)
structure Qde (l:List QB) (n:Nat):Prop where
 s:∀ c∈l,c.cell = -2∨0≤c.cell∧c.cell<n
 one:l.Pairwise fun a b=>b.cell ≠ -2→a.cell≠b.cell
def KP(x:QE):List (List QB):=ZY x (Qo x x.scans.n) x.scans.n []
theorem QYG(hx:x.ok=true):QJp x:=by
 have hg:=Vn hx;refine⟨?_,fun k hk=>(hg.j k hk).2.1,fun k hk=>(hg.j k hk).2.2⟩;simp only[QE.ok,QE.sz,Qg,qbA,qdE]at hx;omega
theorem QEa(hx:x.ok=true):(KP x).length<2^63:=by
 have hg:=Vn hx;have hs:=hg.s
 have h:=QMO (fun l=>QJ (Qo x x.scans.n) l.length) (okC x) (HR x) (B:=37) (fun l=>by
  show(QJ (Qo x x.scans.n) l.length).length≤37
  by_cases h:l.length<x.scans.n
  ·rw[vd h];have:=Gt x.d (x.scans.get l.length) x.d.ps.n;have:=hg.d.n9;simp only[ZV,List.length_cons];omega
  ·rw[QEC (by rw[Zh];omega)];exact Nat.zero_le _) x.scans.n []
 have h2:37^x.scans.n≤37^12:=Nat.pow_le_pow_right (by omega) hs
 have h3:37^12<2^63:=by decide
 show(X9 _ _ _ _ _).length<_;omega
theorem j6(hx:x.ok=true):l∈KP x↔Tru x (Qo x x.scans.n) l:=QTQ (QYG hx)
theorem QSe(h:Tru x (Qo x x.scans.n) l)(hi:i<l.length):l[i]∈ZV x i:=by
 have:=h.can i hi
 rwa [vd (by rw[←h.len];exact hi)]at this
theorem QOi{l:List QB}(h:Tru x (Qo x x.scans.n) l):∀ c∈l,(c.cell = -2∧c.turn=0)∨(0≤c.cell∧c.cell<x.d.ps.n∧0≤c.turn∧c.turn<4):=by
 intro c hc;obtain⟨i,hi,rfl⟩:=List.mem_iff_getElem.1 hc;have:=QSe h hi;simp only[ZV,List.mem_cons]at this;rcases this with e|e
 ·rw[e];exact .inl ⟨rfl,rfl⟩
 ·obtain⟨k,u,h1,h2,e⟩:=QFn e;rw[e];exact .inr ⟨by simp only;omega,by simp only;omega,by simp only;omega,by simp only;omega⟩
theorem QJ6(hx:x.ok=true)(h:Tru x (Qo x x.scans.n) l):WO l:=⟨fun c hc=>by
 have:=(Vn hx).d.n9;rcases QOi h c hc with ⟨e,_⟩|⟨h1,h2,_⟩<;>omega⟩
def VU(x:QE):Int:=cond x.ok (cond (K5 x) 11 (cond (KP x).isEmpty 6 0)) 1
theorem QFO(hn:x.d.ps.n≤9):JW x=((2^x.d.ps.n-1:Nat):Int):=by
 unfold JW;rw[Nat.min_eq_left (by omega),Int.one_mul]
 have e:((2:Int)^x.d.ps.n)=((2^x.d.ps.n:Nat):Int):=by simp
 have h1:2^x.d.ps.n≤2^9:=Nat.pow_le_pow_right (by omega) hn
 have h2:1≤2^x.d.ps.n:=Nat.one_le_two_pow;rw[e,Y3 (n:=((2^x.d.ps.n:Nat):Int)) ⟨by omega,by omega⟩,Y3 ⟨by omega,by omega⟩]
 omega
theorem QKH(hn:x.d.ps.n≤9):KY (JW x):=by
 rw[QFO hn];have h1:2^x.d.ps.n≤2^9:=Nat.pow_le_pow_right (by omega) hn
 exact⟨by omega,by omega⟩
theorem QK1(hn:x.d.ps.n≤9)(k:Nat):Ql (JW x) k=decide (k<x.d.ps.n):=by
 rw[QSD (by rw[QFO hn];omega) (QKH hn),QFO hn,Int.toNat_natCast,Nat.testBit_two_pow_sub_one]
structure Qa1 (x:QE) (sure may:Int):Prop where
 si:KY sure
 mi:KY may
 sb:∀ k,Ql sure k=(decide (k<x.d.ps.n)&&(KP x).all fun l => !Zb l k)
 mb:∀ k,Ql may k=(decide (k<x.d.ps.n)&&(KP x).any fun l => !Zb l k)
theorem QK0(x:QE):(miV x).2.2=VU x∧(VU x≠0→(miV x).1=0∧(miV x).2.1=0)∧(VU x=0→x.ok=true∧K5 x=false∧KP x≠[]∧Qa1 x (miV x).1 (miV x).2.1):=by
 unfold miV VU;cases ho:x.ok with
 | false=>exact⟨by trivial,fun _=>⟨by trivial,by trivial⟩,fun h=>by simp at h⟩
 | true=>
  cases hr:K5 x with
  | true=>exact⟨by trivial,fun _=>⟨by trivial,by trivial⟩,fun h=>by simp at h⟩
  | false=>
   have hn:=(Vn ho).d.n9;obtain⟨h',e⟩:=GE x (Qo x x.scans.n) (msY (JW x)) x.scans.n [] (0,JW x,0) noH;rw[QBb (fun _ _=>rfl)]at e;obtain⟨s,e2,s1,s2,s3,s4,s5⟩:=QbY (L:=KP x) (fun l hl=>QJ6 ho ((j6 ho).1 hl)) (JW x) (QEa ho);have e:miS x = .go s h':=by rw[←e2];exact e
   simp only[e,cond_true,cond_false];cases hL:KP x with
   | nil=>
    have:decide (s.1>0)=false:=by rw[s1,hL];rfl
    simp only[this];exact⟨by trivial,fun _=>⟨by trivial,by trivial⟩,fun h=>by simp at h⟩
   | cons l L=>
    have:decide (s.1>0)=true:=by rw[s1,hL];simp
    simp only[this];refine⟨by trivial,fun h=>absurd (by trivial) h,fun _=>⟨by trivial,by trivial,by simp,⟨s3 (QKH hn),s2,fun k => ?_,fun k => ?_⟩⟩⟩
    ·rw[s4 k,QK1 hn];rfl
    ·rw[s5 k,QK1 hn];rfl
theorem QQQ(x:QE):Qu x=(cond (VU x==0) (Zs (KP x) x.scans.n) [],VU x):=by
 unfold Qu VU;cases ho:x.ok with
 | false=>rfl
 | true=>
  cases hr:K5 x with
  | true=>rfl
  | false=>
   obtain⟨h',e⟩:=GE x (Qo x x.scans.n) tdY x.scans.n [] (0,0,[],0,0) noH;rw[QBb (fun _ _=>rfl)]at e;have e:tdS x = .go ((KP x).foldl tdF (0,0,[],0,0)) h':=e;simp only[e,cond_true,cond_false];have hlen:=QEa ho;have hall:∀ l∈KP x,l.length=x.scans.n:=fun l hl=>((j6 ho).1 hl).len;have hs:=(Vn ho).s;cases hL:KP x with
   | nil=>rfl
   | cons l L=>
    rw[hL]at hlen hall;obtain⟨s,e2,s1,s2⟩:=QRa (by omega) hall hlen
    rw[e2];have:decide (s.1>0)=true:=by rw[s1];simp
    simp only[this,s2];rfl
structure QIL (x:QE) (cells:List Int) (al:Int):Prop where
 len:cells.length=x.scans.n
 ci:∀ j,KY (cells.getD j 0)
 ai:KY al
 cb:∀ j,j<x.scans.n→∀ k,Ql (cells.getD j 0) k=(KP x).any fun l=>(l.getD j ⟨0,0⟩).cell==(k:Int)
 ab:∀ k,Ql al k=(decide (k<x.scans.n)&&(KP x).any fun l=>(l.getD k ⟨0,0⟩).cell == -2)
theorem QJW(x:QE):(Qa x).2.2=VU x∧(VU x≠0→(Qa x).1=[]∧(Qa x).2.1=0)∧(VU x=0→QIL x (Qa x).1 (Qa x).2.1):=by
 unfold Qa VU;cases ho:x.ok with
 | false=>exact⟨by trivial,fun _=>⟨by trivial,by trivial⟩,fun h=>by simp at h⟩
 | true=>
  cases hr:K5 x with
  | true=>exact⟨by trivial,fun _=>⟨by trivial,by trivial⟩,fun h=>by simp at h⟩
  | false=>
   obtain⟨h',e⟩:=GE x (Qo x x.scans.n) plY x.scans.n [] (0,fun _=>0) noH;rw[QBb (fun _ _=>rfl)]at e;have e:QHf x = .go ((KP x).foldl plF (0,fun _=>0)) h':=e;simp only[e,cond_true,cond_false];have hlen:=QEa ho;have z:KY 0:=⟨by omega,by omega⟩
   have hs:=(Vn ho).s;obtain⟨p1,p2,p3⟩:=QOd hs (KP x) (0,fun _=>0) (fun l hl=>⟨QJ6 ho ((j6 ho).1 hl),((j6 ho).1 hl).len⟩) (fun _=>z)
   have hc:((KP x).foldl plF (0,fun _=>0)).1=(KP x).length:=by
    have:=QBZ (f:=plF) (p:=fun s=>s.1) (fun s l=>rfl) (KP x) (0,fun _=>0) 0 rfl (by omega)
    simpa using this
   generalize hS:(KP x).foldl plF (0,fun _=>0)=S at p1 p2 p3 hc;cases hL:KP x with
   | nil=>
    have:decide (S.1>0)=false:=by rw[hc,hL];rfl
    simp only[this];exact⟨by trivial,fun _=>⟨by trivial,by trivial⟩,fun h=>by simp at h⟩
   | cons l L=>
    have:decide (S.1>0)=true:=by rw[hc,hL];simp
    simp only[this]
    have get:∀ j,j<x.scans.n→((List.range x.scans.n).map S.2).getD j 0=S.2 j:=fun j hj=>by
     rw[List.getD_eq_getElem?_getD,List.getElem?_map,List.getElem?_range hj];rfl
    refine⟨by trivial,fun h=>absurd (by trivial) h,fun _=>⟨by simp,fun j => ?_,p1 12,fun j hj k => ?_,fun k => ?_⟩⟩
    ·by_cases hj:j<x.scans.n
     ·rw[get j hj];exact p1 j
     ·rw[List.getD_eq_getElem?_getD,List.getElem?_eq_none (by simp;omega)];exact z
    ·rw[get j hj,p2 j hj k,ZW,Bool.false_or]
    ·rw[p3 k,ZW,Bool.false_or]
theorem QRP(x:QE):JJ x=cond (VU x==0) ((KP x).headD [],(KP x).getD 1 [],((min (KP x).length 100:Nat):Int),0) ([],[],0,VU x):=by
 unfold JJ VU;cases ho:x.ok with
 | false=>rfl
 | true=>
  cases hr:K5 x with
  | true=>rfl
  | false=>
   obtain⟨h',e⟩:=GE x (Qo x x.scans.n) trY x.scans.n [] (0,[],[]) noH;change GN x=_ at e;have ha:=Qco (ZY x (Qo x x.scans.n) x.scans.n []);simp only[e,cond_true,cond_false];generalize VA trY (ZY x (Qo x x.scans.n) x.scans.n []) (0,[],[])=S at ha;change S.1=(((min (KP x).length 100:Nat):Int),(KP x).headD [],(KP x).getD 1 [])at ha;obtain⟨⟨m,f,g⟩,q⟩:=S;simp only[qpI]at ha;obtain⟨rfl,rfl,rfl⟩:=ha;cases hL:KP x with
   | nil=>cases q<;>rfl
   | cons l L=>
    have:(((min (l::L).length 100:Nat):Int)==0)=false:=by
     rw[beq_eq_false_iff_ne,List.length_cons];omega
    cases q<;>simp only[this]<;>rfl
theorem QMI{d:Puz}{s:QG}{l:List QB}{c:Nat}{y:QB}:∀{t:Nat},y∈KX d s l c t↔y∈l∨∃ u,u<t∧VG d s c u=true∧y=⟨c,(u:Nat)⟩
 | 0=>by simp[KX]
 | t+1=>by
  have ih:=QMI (d:=d) (s:=s) (l:=l) (c:=c) (y:=y) (t:=t);simp only[KX];cases hq:VG d s c t with
  | false=>
   show y∈KX d s l c t↔_;rw[ih];constructor
   ·rintro(h|⟨u,h1,h2⟩)
    ·exact .inl h
    ·exact .inr ⟨u,by omega,h2⟩
   ·rintro(h|⟨u,h1,h2,h3⟩)
    ·exact .inl h
    ·have:u≠t:=fun e=>by rw[e,hq]at h2;cases h2
     exact .inr ⟨u,by omega,h2,h3⟩
  | true=>
   show y∈KX d s l c t++[(⟨c,t⟩:QB)]↔_;rw[List.mem_append,ih,List.mem_singleton];constructor
   ·rintro((h|⟨u,h1,h2⟩)|h)
    ·exact .inl h
    ·exact .inr ⟨u,by omega,h2⟩
    ·exact .inr ⟨t,by omega,hq,h⟩
   ·rintro(h|⟨u,h1,h2,h3⟩)
    ·exact .inl (.inl h)
    ·by_cases e:u=t
     ·subst e;exact .inr h3
     ·exact .inl (.inr ⟨u,by omega,h2,h3⟩)
theorem QJX{d:Puz}{s:QG}{y:QB}:∀{c:Nat},y∈KR d s c↔∃ k u:Nat,k<c∧u<4∧VG d s k u=true∧y=⟨(k:Nat),(u:Nat)⟩
 | 0=>by simp[KR]
 | c+1=>by
  simp only[KR];rw[QMI,QJX (c:=c)];constructor
  ·rintro(⟨k,u,h1,h2⟩|⟨u,h1,h2,h3⟩)
   ·exact⟨k,u,by omega,h2⟩
   ·exact⟨c,u,by omega,h1,h2,h3⟩
  ·rintro⟨k,u,h1,h2,h3,h4⟩
   by_cases e:k=c
   ·subst e;exact .inr ⟨u,h2,h3,h4⟩
   ·exact .inl ⟨k,u,by omega,h2,h3,h4⟩
theorem QVY{L:List (List QB)}{k:Nat}(h:(YC L k).cell ≠ -1):∀ l∈L,(l.getD k ⟨0,0⟩).cell=(YC L k).cell:=by
 intro l hl;unfold YC at h ⊢;cases e:L.any fun l=>(l.getD k ⟨0,0⟩).cell != ((L.headD []).getD k ⟨0,0⟩).cell with
 | true=>rw[e]at h;exact absurd rfl h
 | false=>
  rw[List.any_eq_false]at e;have:=e l hl;have q:(l.getD k ⟨0,0⟩).cell=((L.headD []).getD k ⟨0,0⟩).cell:=by simpa using this
  rw[cond_false,q];cases L.any fun l=>Xv l (L.headD []) k<;>rfl
theorem QYI{k:Nat}(h:k<N):(Zs L N).getD k ⟨0,0⟩=YC L k:=by
 rw[QBP (by rw[QFA];exact h),QP4]
structure QO where
 n:Int
instance : QA QO where
  ks := [.int .u16]
  enc p _ := p.n
  dec f := ⟨f 0⟩
  ok _ := rfl
def dv(w:Rw QO)(k m:Int):Int:=(i64.wrap (IntKind.u16.wrap ((w.get ((k+1).tmod (w.n:Int)).toNat).n+IntKind.u16.wrap (3*(k+1))))).tmod m
theorem ZT(w:Rw QO)(k:Int){m:Int}(hm:0<m):0≤dv w k m∧dv w k m<m:=by
 unfold dv
 have h:0≤IntKind.u16.wrap ((w.get ((k+1).tmod (w.n:Int)).toNat).n+IntKind.u16.wrap (3*(k+1)))∧IntKind.u16.wrap ((w.get ((k+1).tmod (w.n:Int)).toNat).n+IntKind.u16.wrap (3*(k+1)))<65536:=by
  generalize (w.get ((k+1).tmod (w.n:Int)).toNat).n+IntKind.u16.wrap (3*(k+1))=z;show 0≤z % 65536∧z % 65536<65536;omega
 rw[w64 (by omega) (by omega)]
 exact⟨Int.tmod_nonneg _ h.1,Int.tmod_lt_of_pos _ hm⟩
def atW(w:Rw QO)(k:Int):List (Nat×Blk):=[(272,.cells 0 3 [.int false .i64 k]),(273,.cells 0 58 [.slz 2 0 w.n (.of 0)])]
def atB(w:Rw QO)(k:Int):List (Nat×Blk):=atW w k++Q3.blk 2 w
def dwF:AV := .fn (.func 58) [.ptr 272 0 0,.ptr 273 0 0]
def dwU(w:Rw QO)(k m:Int):UC:=⟨280,⟨3,[(0,.int false .i64 m),(1,.ptr 272 0 0),(2,.ptr 273 0 0)],atB w k,400⟩,fun _ => .int false .i64 (dv w k m),fun _=>[(272,.cells 0 3 [.int false .i64 (k+1)]),(273,.cells 0 58 [.slz 2 0 w.n (.of 0)])]⟩
theorem QcV(w:Rw QO)(k m:Int):Jw (mkE Try.prog ZI) (hnd (mkE Try.prog ZI) 1) Try.f58 (dwU w k m) =
  QD.need (!decide ((↑w.n:Int)=(0:Int))) (QD.need (decide ((0:Int)≤(i64.wrap (k+(1:Int))).tmod (↑w.n:Int)∧(i64.wrap (k+(1:Int))).tmod (↑w.n :
  Int)<(↑w.n:Int))&&decide (w.n≤w.n)) (QD.need (decide (((i64.wrap (k+(1:Int))).tmod (↑w.n:Int)).toNat<w.n)) (QD.need (!decide (m=(0:Int))) (QD.leaf
  (AV.int false i64 ((i64.wrap (IntKind.u16.wrap ((w.get ((i64.wrap (k+(1:Int))).tmod (↑w.n:Int)).toNat).n+IntKind.u16.wrap (i64.wrap ((3 :
  Int)*i64.wrap (k+(1:Int))))))).tmod m)) ([((272:Nat),Blk.cells (0:Nat) (3:Nat) [AV.int false i64 (i64.wrap (k+(1:Int)))]),((273:Nat),
  Blk.cells (0:Nat) (58:Nat) [AV.slz (2:Nat) (0:Nat) w.n (Cap.of (0:Nat))]),((2:Nat),Blk.frz [CK.int IntKind.u16] w.n fun i=>QA.enc (w.get i))]))))):=by kernel_rfl
theorem QWJ(w:Rw QO)(k m:Int):QK 400 [(AV.int false i64 ((i64.wrap (IntKind.u16.wrap ((w.get ((i64.wrap (k+(1:Int))).tmod (↑w.n:Int)).toNat).n+IntKind.u16.wrap (i64.wrap ((3:Int)*i64.wrap (k+(1:Int))))))).tmod m))] ([((272:Nat),Blk.cells (0:Nat) (3:Nat) [AV.int false i64 (i64.wrap (k+(1:Int)))]),((273:Nat),Blk.cells (0:Nat) (58:Nat) [AV.slz (2:Nat) (0:Nat) w.n (Cap.of (0:Nat))]),((2:Nat),Blk.frz [CK.int IntKind.u16] w.n fun i=>QA.enc (w.get i))]) (Kk (dwU w k m))=(
  some [(i64.wrap (IntKind.u16.wrap ((w.get ((i64.wrap (k+(1:Int))).tmod (↑w.n:Int)).toNat).n+IntKind.u16.wrap (i64.wrap ((3:Int)*i64.wrap
  (k+(1:Int))))))).tmod m=dv w k m,i64.wrap (k+(1:Int))=k+(1:Int),(0:Nat)=(0:Nat),w.n=w.n,Cap.of (0:Nat)=Cap.of (0:Nat)]):=by kernel_rfl
theorem QUz(w:Rw QO)(k m:Int)(hw:1≤w.n)(hk:0≤k∧k≤100000)(hm:0<m):QQ Try.prog 58 (uFC (dwU w k m)):=by
 refine JZ (E:=mkE Try.prog ZI) (QT jq) Try.func58 (c:=Qr Try.f58) (by kernel_rfl) (by kernel_rfl) ?_ (fun G hG _=>Qz (QT jq) 1 G _ hG) ⟨?_⟩
 ·refine⟨(by decide:280≤400),rfl,rfl,?_,rfl,fun _ _=>rfl,fun _ _=>rfl⟩
  intro q hq;simp only[UC.po,dwU,List.mem_cons,List.not_mem_nil,or_false]at hq;rcases hq with rfl|rfl<;>exact⟨rfl,rfl,rfl,fun _=>rfl⟩
 refine Q0 (QcV w k m) ?_;have e1:i64.wrap (k+1)=k+1:=w64 (by omega) (by omega)
 have e2:i64.wrap (3*(k+1))=3*(k+1):=w64 (by omega) (by omega)
 have h0:0≤(k+1).tmod (w.n:Int):=Int.tmod_nonneg _ (by omega)
 have h1:(k+1).tmod (w.n:Int)<(w.n:Int):=Int.tmod_lt_of_pos _ (by omega)
 refine QF (by rw[Bool.not_eq_true',decide_eq_false_iff_not];omega) (QF (by rw[e1,qbA,qdE,qdE];omega) (QF (by rw[e1,qdE];omega) (QF (by rw[Bool.not_eq_true',decide_eq_false_iff_not];omega) ?_)))
 refine⟨rfl,rfl,_,QWJ w k m,?_⟩
 repeat' first|with_reducible refine QN ?_ ?_|exact trivial|with_reducible rfl|exact qlr _|exact qRr|refine And.intro ?_ ?_
 ·rw[e1,e2];rfl
 ·exact e1
def dwC(pb:List Prop→Bool)(w:Rw QO):FC:=fun args nid _=>([272,273,2],fun blks=>match args,blks with
 | [.int _ .i64 m,.ptr 272 0 0,.ptr 273 0 0],[.cells 0 3 [.int _ .i64 k],.cells 0 58 [.slz 2 0 n (.of 0)],.frz [.int .u16] n' g]=>match Nat.ble 280 nid with
  | true=>some ⟨false,decide (1≤w.n∧0≤k∧k≤100000∧0<m)&&pb [n=w.n,n'=w.n,QC 1 w.n g fun i=>QA.enc (w.get i)],.int false .i64 (dv w k m),[(272,.cells 0 3 [.int false .i64 (k+1)]),(273,.cells 0 58 [.slz 2 0 n (.of 0)])]⟩
  | false=>none
 | _,_=>none)
theorem QaH(w:Rw QO)(k m:Int)(c c':Bool)(g:Nat→Nat→Int):QK 280 [.int c .i64 m,.ptr 272 0 0,.ptr 273 0 0] [(272,.cells 0 3 [.int c' .i64 k]),(273,.cells 0 58 [.slz 2 0 w.n cO]),(2,.frz [.int .u16] w.n g)] (dwU w k m).pre=(
  some [m=m,(0:Nat)=(0:Nat),(0:Nat)=(0:Nat),(0:Nat)=(0:Nat),(0:Nat)=(0:Nat),k=k,(0:Nat)=(0:Nat),w.n=w.n,Cap.of (0:Nat)=Cap.of (0 :
  Nat),w.n≤w.n,QC (1:Nat) w.n g fun i=>QA.enc (w.get i)]):=by kernel_rfl
theorem Qbi{pb:List Prop→Bool}{U:UC}{args:List AV}{nid:Nat}{h gn:List (Nat×Blk)}{ps:List Prop}(hs:QK U.N args h U.pre=some ps)(h1:Nat.beq args.length U.pre.len=true)(h2:Nat.ble U.N nid=true)(h3:QRJ U.N U.po h=true):js pb U args nid h gn=some ⟨false,pb ps,U.val nid,gn++U.post nid⟩:=by
 unfold js;rw[hs,h1,h2,h3];rfl
theorem Qa8(w:Rw QO)(k m:Int)(c c':Bool)(g:Nat→Nat→Int)(nid:Nat)(hb:Nat.ble 280 nid=true)(hg:QC 1 w.n g fun i=>QA.enc (w.get i)):∃ ps,KJ ps∧(uFC (dwU w k m) [.int c .i64 m,.ptr 272 0 0,.ptr 273 0 0] nid [272,273,2]).2 [.cells 0 3 [.int c' .i64 k],.cells 0 58 [.slz 2 0 w.n (.of 0)],.frz [.int .u16] w.n g]=some ⟨false,QS ps,.int false .i64 (dv w k m),[(272,.cells 0 3 [.int false .i64 (k+1)]),(273,.cells 0 58 [.slz 2 0 w.n (.of 0)])]⟩:=by
 obtain⟨ps,hs,hps⟩:∃ ps,QK 280 [.int c .i64 m,.ptr 272 0 0,.ptr 273 0 0] [(272,.cells 0 3 [.int c' .i64 k]),(273,.cells 0 58 [.slz 2 0 w.n (.of 0)]),(2,.frz [.int .u16] w.n g)] (dwU w k m).pre=some ps∧KJ ps:=by
  refine⟨_,QaH w k m c c' g,?_⟩
  repeat' first|with_reducible refine QN ?_ ?_|exact trivial|with_reducible rfl|exact qlr _|exact hg|refine And.intro ?_ ?_
 have:=Qbi (pb:=QS) (U:=dwU w k m) (nid:=nid) (gn:=[]) hs rfl hb (by kernel_rfl)
 refine⟨ps,hps,?_⟩;simp only[uFC,Jj,QCt,QCw,Z6 (WS 6)];exact(Eq.trans (b:=js QS (dwU w k m) [.int c .i64 m,.ptr 272 0 0,.ptr 273 0 0] nid [(272,.cells 0 3 [.int c' .i64 k]),(273,.cells 0 58 [.slz 2 0 w.n (.of 0)]),(2,.frz [.int .u16] w.n g)] []) (by kernel_rfl) (this.trans (by kernel_rfl)))
theorem QIW(w:Rw QO):QQ Try.prog 58 (dwC QS w):=by
 refine⟨by kernel_rfl,fun args nid all r w' lk blks eff hH ha hv he hp => ?_⟩
 simp only[dwC]at he;split at he<;>(try (cases he;done))
 split at he<;>(try (cases he;done))
 rename_i hb;simp only[qsI]at he;subst he;simp only[qbA,qdE]at hp;obtain⟨⟨h1,h2,h3,h4⟩,hp⟩:=hp;obtain⟨rfl,rfl,hr,_⟩:=Q4.1 hp;obtain⟨ps,hps,he⟩:=Qa8 w _ _ _ _ _ nid hb hr;have:=(QUz w _ _ h1 ⟨h2,h3⟩ h4).2 _ nid [272,273,2] r w' lk _ ⟨false,QS ps,_,_⟩ hH ha hv he (Q4.2 hps);exact this
def QF0(P:Program)(C:Tab):FC:=match P.funcs[29]? with
 | some fn=>fun args nid _=>vU false (mkE P C) (hnd (mkE P C) 2) fn args nid []
 | none=>fun _ _ _=>noV
theorem QUa:QQ Try.prog 29 (QF0 Try.prog ZI):=by
 have h:=QDN (rw_:=false) (E:=mkE Try.prog ZI) (QT jq) (H:=hnd (mkE Try.prog ZI) 2) Try.func29 (c:=Qr Try.f29) (by kernel_rfl) (by kernel_rfl) fun G hG=>Qz (QT jq) 2 G _ hG
 unfold QF0;rw[Try.func29];exact⟨h.1,fun args nid _=>h.2 args nid []⟩
def VR(pb:List Prop→Bool)(w:Rw QO):Tab:=Qe ZI 58 (dwC pb w)
theorem QCn(w:Rw QO):Qc (VR QS w):=jq.add (QIW w)
structure QYK where
 n:Int
instance : Enc QYK where
  enc x := .int false .u32 x.n
  dec v := match v with
    | .int _ .u32 n => some ⟨n⟩
    | _ => none
  ok v x h := by
    split at h <;> (try (cases h; done))
    simp only[qsI]at h; subst h; exact⟨fun _ => rfl,rfl⟩
end Go.Proofs.Ytbpffdkemeoajaa
namespace Go.SX
open Go Go.RowKit Go.Proofs.Ytbpffdkemeoajaa
end Go.SX
namespace Go.Proofs.Ytbpffdkemeoajaa
open Go Go.SX
abbrev mkX(P:Program)(C:Tab):Env:=⟨P,C,qE P,true,fun _=>false,false,false,true⟩
theorem QDj{C:Tab}(hC:Qc C):(mkX Try.prog C).Sound:={ c:=hC,m:=vu Try.prog,mixed:=ju }
def zeP:QG:=⟨⟨0,⟨0,0⟩,⟨0,0⟩,⟨0,0⟩⟩,⟨0,⟨0,0⟩,⟨0,0⟩,⟨0,0⟩⟩,⟨0,⟨0,0⟩,⟨0,0⟩,⟨0,0⟩⟩,⟨0,⟨0,0⟩,⟨0,0⟩,⟨0,0⟩⟩⟩
abbrev QJb(q:QG):Nat→Edge→QG
 | 0,e=>⟨e,q.right,q.down,q.left⟩
 | 1,e=>⟨q.up,e,q.down,q.left⟩
 | 2,e=>⟨q.up,q.right,e,q.left⟩
 | _,e=>⟨q.up,q.right,q.down,e⟩
def toS(t:Int)(s:Nat):Int:=(i64.wrap (((s+4:Nat):Int)-t)).tmod 4
theorem QJJ{d:Puz}(h:d.ok=true){c:Nat}(hc:c<d.ps.n):(d.ps.get c).ok=true:=by
 have h':=h;simp only[Puz.ok,qbA]at h;have hs:=h.2;unfold Ve at hs;have:=HG (Option.isNone_iff_eq_none.1 hs) c (Nat.zero_le _) (by omega)
 unfold JI at this;rw[QK5 h']at this;simpa using this
theorem QdQ{e:Edge}(h:e.ok=true):isS e e=true:=by
 unfold isS;cases hk:e.kind==0 with
 | true=>rfl
 | false=>
  have hk:e.kind≠0:=by simpa using hk
  rw[Edge.ok_iff]at h;have h:=h.resolve_left hk;simp only[cond_false,isF,com,qbA,qdE,beq_self_eq_true,true_and];omega
end Go.Proofs.Ytbpffdkemeoajaa
