/- The truths of a pile, in plain words; what is folded of them (layer 7). -/
import Derived.Test.YtbpffdkemeoajaaMmze
import Derived.Test.YtbpffdkemeoajaaMmzb
import Derived.Test.YtbpffdkemeoajaaMmzd
import Derived.Test.YtbpffdkemeoajaaMmzg
import Derived.Test.YtbpffdkemeoajaaMmr
import Derived.Test.YtbpffdkemeoajaaMmp
import Derived.Test.YtbpffdkemeoajaaMmu
import Derived.Test.YtbpffdkemeoajaaMmzf
set_option maxRecDepth 100000
namespace Go.Proofs.Ytbpffdkemeoajaa
open Go Go.SX
def okC (x:QE) (l:List QA) (c:QA):Bool := !KN x l c&&Kk x (l++[c])
def jH (x:QE) (l:List QA):Bool := !X4 x l
def Z5 (x:QE) (C:List (List QA)):Nat→List QA→List (List QA):=Vu (fun l=>QJ C l.length) (okC x) (jH x)
theorem QJp {σ:Type} {Y:σ→List QA→σ×Bool} {f:σ→(Int→Bool)→QA→Res σ} {g:QA→List (List QA)} (hf:∀ c s h,∃ h',f s h c=match VS Y (g c) s with
  | (s',true) => .go s' h'
  | (s',false) => .stop s' h'):∀ (cs:List QA) (s:σ) (h:Int→Bool),∃ h',Jd f cs s h=match VS Y (cs.flatMap g) s with
  | (s',true) => .go s' h'
  | (s',false) => .stop s' h'
 | [],s,h=>⟨h,rfl⟩
 | c::cs,s,h=>by
  obtain ⟨h1,e⟩:=hf c s h
  rw [List.flatMap_cons,QF1,Jd,e]
  cases e2:VS Y (g c) s with
  | mk s' q=>
   cases q with
   | true=>exact QJp hf cs s' h1
   | false=>exact ⟨h1,rfl⟩
theorem QB9 {σ:Type} (x:QE) (C:List (List QA)) (Y:σ→List QA→σ×Bool):∀ (d:Nat) (l:List QA) (s:σ) (h:Int→Bool),∃ h',onT x C Y d l s h=match VS Y (Z5 x C d l) s with
  | (s',true) => .go s' h'
  | (s',false) => .stop s' h'
 | 0,l,s,h=>by
  refine ⟨h,?_⟩
  simp only [onT,V9,Z5,Vu,jH]
  cases X4 x l with
  | true=>rfl
  | false=>
   simp only [Bool.not_false,cond_true,VS]
   cases Y s l with
   | mk s' q=>cases q<;>rfl
 | d + 1,l,s,h=>by
  rw [onT]
  refine QJp (g:=fun c=>cond (okC x l c) (Z5 x C d (l++[c])) []) (fun c s h => ?_) _ s h
  unfold JN okC
  cases KN x l c with
  | true=>exact ⟨h,rfl⟩
  | false=>
   cases Kk x (l++[c]) with
   | false=>exact ⟨_,rfl⟩
   | true=>
    obtain ⟨h1,e⟩:=QB9 x C Y d (l++[c]) s (Qh c.cell true h)
    simp only [e,Bool.not_false,Bool.and_self,cond_true]
    cases VS Y (Z5 x C d (l++[c])) s with
    | mk s' q=>
     cases q with
     | true=>exact ⟨_,rfl⟩
     | false=>exact ⟨_,rfl⟩
structure Tru (x:QE) (C:List (List QA)) (l:List QA):Prop where
 len:l.length=x.scans.n
 can:∀ i (h:i < l.length),l[i]∈QJ C i
 one:∀ i j (hi:i < j) (hj:j < l.length),l[j].cell ≠ -2→l[i].cell≠l[j].cell
 al:QI l (-2)≤x.foreign
 hang:∀ k,k < x.hang.n→XG x (x.hang.get k) (l.getD (x.hang.get k).a.toNat ⟨0,0⟩) (l.getD (x.hang.get k).b.toNat ⟨0,0⟩)=true
 lost:X4 x l=false
theorem QDR {l:List QA} {n:Int}:QI l n < 1↔∀ s∈l,s.cell≠n:=by
 unfold QI
 constructor
 ·intro h s hs e
  have:0 < l.countP fun s=>s.cell == n:=List.countP_pos_iff.2 ⟨s,hs,by simp [e]⟩
  omega
 ·intro h
  have:(l.countP fun s=>s.cell == n)=0:=List.countP_eq_zero.2 fun s hs=>by simpa using h s hs
  omega
theorem QPw {l:List QA} {n:Int} (i:Nat):QI (l.take i) n≤QI l n:=by
 unfold QI
 have:=List.Sublist.countP_le (p:=fun s:QA=>s.cell == n) (List.take_sublist i l)
 omega
theorem vZ {α:Type} {l:List α} {i:Nat} (h:i < l.length):l.take (i + 1)=l.take i++[l[i]]:=by
 rw [List.take_add_one,List.getElem?_eq_getElem h];rfl
theorem QDT {x:QE} {l:List QA}:Kk x l=true↔∀ k,k < x.hang.n→XL x l k=true→XG x (x.hang.get k) (l.getD (x.hang.get k).a.toNat ⟨0,0⟩) (l.getD (x.hang.get k).b.toNat ⟨0,0⟩)=true:=by
 unfold Kk
 rw [Option.isNone_iff_eq_none]
 constructor
 ·intro h k hk hm
  have:=GI h k (Nat.zero_le _) (by omega)
  simpa only [Jk,hm,Bool.true_and,Bool.not_eq_false'] using this
 ·intro h
  refine QFr fun k _ hk => ?_
  unfold Jk
  cases hm:XL x l k with
  | false=>rfl
  | true=>rw [h k (by omega) hm];rfl
theorem HM {α:Type} {l:List α} {i k:Nat} {z:α} (h:k < i):(l.take i).getD k z=l.getD k z:=by
 rw [List.getD_eq_getElem?_getD,List.getD_eq_getElem?_getD,List.getElem?_take_of_lt h]
structure QKk (x:QE):Prop where
 f:0≤x.foreign
 a:∀ k,k < x.hang.n→0≤(x.hang.get k).a∧(x.hang.get k).a < x.scans.n
 b:∀ k,k < x.hang.n→0≤(x.hang.get k).b∧(x.hang.get k).b < x.scans.n
theorem QNk {x:QE} {C:List (List QA)} (hx:QKk x) {l:List QA}:l∈Z5 x C x.scans.n []↔Tru x C l:=by
 unfold Z5
 rw [QT4]
 simp only [List.nil_append]
 constructor
 ·rintro ⟨t,h1,rfl,h2,h3⟩
  rw [QHI] at h2
  simp only [List.nil_append,okC,Bool.and_eq_true,Bool.not_eq_true'] at h2
  refine ⟨h1,fun i h => ?_,fun i j hi hj hc he => ?_,?_,fun k hk => ?_,by simpa [jH] using h3⟩
  ·have:=(h2 i h).1
   rwa [List.length_take,Nat.min_eq_left (by omega)] at this
  ·have hf:=(h2 j hj).2.1
   unfold KN at hf
   rw [show (l[j].cell == -2)=false by simpa using hc] at hf
   have hf:QI (l.take j) l[j].cell < 1:=by simpa using hf
   refine QDR.1 hf l[i] ?_ he
   rw [List.mem_take_iff_getElem]
   exact ⟨i,by omega,rfl⟩
  ·have key:∀ i,i≤l.length→QI (l.take i) (-2)≤x.foreign:=by
    intro i
    induction i with
    | zero=>intro _;simpa [QI] using hx.f
    | succ i ih=>
     intro hi
     have hi:i < l.length:=hi
     rw [vZ hi,qB]
     have hf:=(h2 i hi).2.1
     unfold KN at hf
     split
     ·rename_i e
      rw [e] at hf
      simp at hf;omega
     ·exact ih (by omega)
   have:=key l.length (Nat.le_refl _)
   rwa [List.take_length] at this
  ·have ha:=hx.a k hk
   have hb:=hx.b k hk
   have hm:(max (x.hang.get k).a (x.hang.get k).b).toNat < l.length:=by omega
   have hf:=(h2 _ hm).2.2
   rw [←vZ hm,QDT] at hf
   have:=hf k hk (by
    unfold XL
    rw [List.length_take,Nat.min_eq_left (by omega)]
    simp;omega)
   rwa [HM (by omega),HM (by omega)] at this
 ·intro h
  refine ⟨l,h.len,rfl,?_,by simp [jH,h.lost]⟩
  rw [QHI]
  intro i hi
  simp only [List.nil_append,okC,Bool.and_eq_true,Bool.not_eq_true']
  refine ⟨?_,?_,?_⟩
  ·rw [List.length_take,Nat.min_eq_left (by omega)];exact h.can i hi
  ·unfold KN
   cases hc:l[i].cell == -2 with
   | true=>
    have hc:l[i].cell = -2:=by simpa using hc
    have h1:=QPw (l:=l) (n := -2) (i + 1)
    rw [vZ hi,qB,if_pos hc] at h1
    have h2:=h.al
    rw [hc]
    simp;omega
   | false=>
    have hc:l[i].cell ≠ -2:=by simpa using hc
    have:QI (l.take i) l[i].cell < 1:=QDR.2 fun s hs=>by
     obtain ⟨k,hk,rfl⟩:=List.mem_take_iff_getElem.1 hs
     exact h.one k i (by omega) hi hc
    simpa using this
  ·rw [←vZ hi,QDT]
   intro k hk hm
   have ha:=hx.a k hk
   have hb:=hx.b k hk
   unfold XL at hm
   rw [List.length_take,Nat.min_eq_left (by omega)] at hm
   have hm:max (x.hang.get k).a (x.hang.get k).b=i:=by simpa using hm
   rw [HM (by omega),HM (by omega)]
   exact h.hang k hk
theorem QBX {σ:Type} {f:σ→List QA→σ} {p:σ→Int} (hp:∀ s l,p (f s l)=IntKind.i64.wrap (p s + 1)):∀ (ls:List (List QA)) (s:σ) (n:Nat),p s=n→n + ls.length < 2 ^ 63→p (ls.foldl f s)=((n + ls.length:Nat):Int)
 | [],s,n,h,_=>by simpa using h
 | l::ls,s,n,h,hn=>by
  simp only [List.length_cons] at hn ⊢
  rw [List.foldl_cons,QBX hp ls (f s l) (n + 1) (by rw [hp,h];exact (Vs ⟨by omega,by omega⟩).trans (by omega)) (by omega)]
  omega
structure qC (l:List QA):Prop where
 s:∀ c∈l,c.cell = -2∨0≤c.cell∧c.cell < 63
theorem QKR {α:Type} {l:List α} {i:Nat} {z:α} (h:i < l.length):l.getD i z∈l:=by
 rw [List.getD_eq_getElem?_getD,List.getElem?_eq_getElem h];exact List.getElem_mem h
theorem QBw {α:Type} {l:List α} {i:Nat} {z:α} (h:i < l.length):l.getD i z=l[i]:=by
 rw [List.getD_eq_getElem?_getD,List.getElem?_eq_getElem h];rfl
theorem QEt {l:List QA} (hl:qC l) (k:Nat):∀ n,n≤l.length→Ql (KJ l n) k=(l.take n).any fun s=>s.cell == (k:Int)
 | 0,_=>by rw [KJ,qN];rfl
 | n + 1,h=>by
  rw [vZ (by omega),List.any_append,←QEt hl k n (by omega),KJ,QBw (by omega),zo]
  have hc:=hl.s l[n] (List.getElem_mem _)
  cases e:l[n].cell != -2 with
  | true=>
   have e:l[n].cell ≠ -2:=by simpa using e
   have h0:0≤l[n].cell∧l[n].cell < 63:=by omega
   simp only [Vc]
   rw [jr h0.1]
   simp only [List.any_cons,List.any_nil,Bool.or_false]
   congr 1
   by_cases hk:l[n].cell=(k:Int)
   ·have:k < 64:=by omega
    simp [hk,this]
   ·simp [hk]
  | false=>
   have e:l[n].cell = -2:=by simpa using e
   simp [e]
theorem QEc {l:List QA} (hl:qC l) (k:Nat):Ql (KJ l l.length) k=l.any fun s=>s.cell == (k:Int):=by
 rw [QEt hl k _ (Nat.le_refl _),List.take_length]
theorem QSz {L:List (List QA)} (hL:∀ l∈L,qC l) (all:Int) (hn:L.length < 2 ^ 63):∃ s:MsS,L.foldl (fun s l=>(msY all s l).1) (0,all,0)=s∧s.1=L.length∧KR s.2.2∧(KR all→KR s.2.1)∧(∀ k,Ql s.2.1 k=(Ql all k&&L.all fun l => !l.any fun s=>s.cell == (k:Int)))∧∀ k,Ql s.2.2 k=(Ql all k&&L.any fun l => !l.any fun s=>s.cell == (k:Int)):=by
 refine ⟨_,rfl,?_,?_,?_,fun k => ?_,fun k => ?_⟩
 ·have:=QBX (f:=fun (s:MsS) l=>(msY all s l).1) (p:=fun s=>s.1) (fun s l=>rfl) L (0,all,0) 0 rfl (by omega)
  simpa using this
 ·have key:∀ (ls:List (List QA)) (s:MsS),KR s.2.2→KR (ls.foldl (fun s l=>(msY all s l).1) s).2.2:=by
   intro ls
   induction ls with
   | nil=>exact fun s h=>h
   | cons l ls ih=>exact fun s _=>ih _ (jN _)
  exact key L _ ⟨by simp,by simp⟩
 ·have key:∀ (ls:List (List QA)) (s:MsS),KR s.2.1→KR (ls.foldl (fun s l=>(msY all s l).1) s).2.1:=by
   intro ls
   induction ls with
   | nil=>exact fun s h=>h
   | cons l ls ih=>exact fun s _=>ih _ (jN _)
  exact fun h=>key L (0,all,0) h
 ·have key:∀ (ls:List (List QA)) (s:MsS),(∀ l∈ls,qC l)→Ql (ls.foldl (fun s l=>(msY all s l).1) s).2.1 k=(Ql s.2.1 k&&ls.all fun l => !l.any fun s=>s.cell == (k:Int)):=by
   intro ls
   induction ls with
   | nil=>intro s _;simp
   | cons l ls ih=>
    intro s h
    rw [List.foldl_cons,ih _ (fun l hl=>h l (List.mem_cons_of_mem _ hl)),List.all_cons,←Bool.and_assoc]
    congr 1
    show Ql (K0 s.2.1 (KJ l l.length)) k=_
    unfold K0
    rw [QBB,QEc (h l List.mem_cons_self)]
  exact key L _ hL
 ·have key:∀ (ls:List (List QA)) (s:MsS),(∀ l∈ls,qC l)→Ql (ls.foldl (fun s l=>(msY all s l).1) s).2.2 k=(Ql s.2.2 k||(Ql all k&&ls.any fun l => !l.any fun s=>s.cell == (k:Int))):=by
   intro ls
   induction ls with
   | nil=>intro s _;simp
   | cons l ls ih=>
    intro s h
    rw [List.foldl_cons,ih _ (fun l hl=>h l (List.mem_cons_of_mem _ hl)),List.any_cons,Bool.and_or_distrib_left,←Bool.or_assoc]
    congr 1
    show Ql (orN s.2.2 (K0 all (KJ l l.length))) k=_
    unfold orN K0
    rw [QJQ,QBB,QEc (h l List.mem_cons_self)]
  have:=key L (0,all,0) hL
  simpa [qN] using this
theorem QCZ (l f:List QA) (m:Int) {k:Nat} (hk:k < 64):∀ n,Ql (mvL l f m n) k=(Ql m k||(decide (k < n)&&((l.getD k ⟨0,0⟩).cell != (f.getD k ⟨0,0⟩).cell)))
 | 0=>by simp [mvL]
 | n + 1=>by
  have ih:=QCZ l f m hk n
  rw [mvL]
  by_cases e:k=n
  ·subst e
   rw [decide_eq_false (Nat.lt_irrefl _),Bool.false_and,Bool.or_false] at ih
   cases h:(l.getD k ⟨0,0⟩).cell != (f.getD k ⟨0,0⟩).cell with
   | true=>simp only [Vc];rw [jr (Int.natCast_nonneg _)];simp [hk]
   | false=>simp only [ih,Bool.and_false,Bool.or_false]
  ·have e1:decide (k < n + 1)=decide (k < n):=decide_eq_decide.2 (by omega)
   rw [e1,←ih]
   split
   ·simp only [Vc];rw [jr (Int.natCast_nonneg _)]
    have:decide ((n:Int)=(k:Int))=false:=by simp;omega
    rw [this];simp
   ·rfl
theorem QCV (l f:List QA) (m:Int) {k:Nat} (hk:k < 64):∀ n,Ql (tuL l f m n) k=(Ql m k||(decide (k < n)&&Vz l f k))
 | 0=>by simp [tuL]
 | n + 1=>by
  have ih:=QCV l f m hk n
  rw [tuL]
  by_cases e:k=n
  ·subst e
   rw [decide_eq_false (Nat.lt_irrefl _),Bool.false_and,Bool.or_false] at ih
   cases h:Vz l f k with
   | true=>simp only [Vc];rw [jr (Int.natCast_nonneg _)];simp [hk]
   | false=>simp only [ih,Bool.and_false,Bool.or_false]
  ·have e1:decide (k < n + 1)=decide (k < n):=decide_eq_decide.2 (by omega)
   rw [e1,←ih]
   split
   ·simp only [Vc];rw [jr (Int.natCast_nonneg _)]
    have:decide ((n:Int)=(k:Int))=false:=by simp;omega
    rw [this];simp
   ·rfl
theorem QDE (l f:List QA) {m:Int} (hm:KR m):∀ n,KR (mvL l f m n)
 | 0=>hm
 | n + 1=>by
  rw [mvL];split
  ·exact jN _
  ·exact QDE l f hm n
theorem QAK (l f:List QA) {m:Int} (hm:KR m):∀ n,KR (tuL l f m n)
 | 0=>hm
 | n + 1=>by
  rw [tuL];split
  ·exact jN _
  ·exact QAK l f hm n
def tdF (s:TdS) (l:List QA):TdS:=(tdY s l).1
theorem QHg {f:List QA} {N:Nat}:∀ (L:List (List QA)) (s:TdS) (n:Nat),(∀ l∈L,l.length=N)→s.2.1=n→0 < n→n + L.length < 2 ^ 63→s.2.2.1=f→KR s.2.2.2.1→KR s.2.2.2.2 →
  (L.foldl tdF s).2.2.1=f∧KR (L.foldl tdF s).2.2.2.1∧KR (L.foldl tdF s).2.2.2.2∧∀ k,k < 64→k < N→Ql (L.foldl tdF s).2.2.2.1 k=(Ql s.2.2.2.1 k||L.any fun l=>(l.getD k ⟨0,0⟩).cell != (f.getD k ⟨0,0⟩).cell)∧Ql (L.foldl tdF s).2.2.2.2 k=(Ql s.2.2.2.2 k||L.any fun l=>Vz l f k)
 | [],s,n,_,_,_,_,hf,h1,h2=>⟨hf,h1,h2,fun k _ _=>by simp⟩
 | l::L,s,n,hN,hn,hp,hL,hf,h1,h2=>by
  simp only [List.length_cons] at hL
  have q:(s.2.1 == 0)=false:=by rw [hn];simp;omega
  have e:Qz s.2.1 l s.2.2.1=f:=by rw [Qz,q,hf]
  have hl:=hN l List.mem_cons_self
  obtain ⟨a1,a2,a3,a4⟩:=QHg (f:=f) (N:=N) L (tdF s l) (n + 1) (fun y hy=>hN y (List.mem_cons_of_mem _ hy)) (by
   show IntKind.i64.wrap (s.2.1 + 1)=_
   rw [hn];exact (Vs ⟨by omega,by omega⟩).trans (by omega)) (by omega) (by omega) e (QDE _ _ h1 _) (QAK _ _ h2 _)
  refine ⟨a1,a2,a3,fun k hk hkN => ?_⟩
  obtain ⟨b1,b2⟩:=a4 k hk hkN
  rw [List.foldl_cons,b1,b2,List.any_cons,List.any_cons,←Bool.or_assoc,←Bool.or_assoc]
  have d1:decide (k < l.length)=true:=decide_eq_true (by omega)
  constructor
  ·congr 1
   show Ql (mvL l (Qz s.2.1 l s.2.2.1) s.2.2.2.1 l.length) k=_
   rw [e,QCZ _ _ _ hk,d1,Bool.true_and]
  ·congr 1
   show Ql (tuL l (Qz s.2.1 l s.2.2.1) s.2.2.2.2 l.length) k=_
   rw [e,QCV _ _ _ hk,d1,Bool.true_and]
theorem QTH {f:List QA} {L:List (List QA)} {N:Nat} (hN:∀ l∈f::L,l.length=N) (hL:(f::L).length < 2 ^ 63):∃ s:TdS,(f::L).foldl tdF (0,0,[],0,0)=s∧s.1=(f::L).length∧s.2.2.1=f∧KR s.2.2.2.1∧KR s.2.2.2.2∧∀ k,k < 64→k < N→Ql s.2.2.2.1 k=((f::L).any fun l=>(l.getD k ⟨0,0⟩).cell != (f.getD k ⟨0,0⟩).cell)∧Ql s.2.2.2.2 k=((f::L).any fun l=>Vz l f k):=by
 refine ⟨_,rfl,?_,?_⟩
 ·have:=QBX (f:=tdF) (p:=fun s=>s.1) (fun s l=>rfl) (f::L) (0,0,[],0,0) 0 rfl (by omega)
  simpa using this
 ·have z:KR 0:=⟨by omega,by omega⟩
  have e:Qz 0 f []=f:=rfl
  have hf:=hN f List.mem_cons_self
  simp only [List.length_cons] at hL
  obtain ⟨a1,a2,a3,a4⟩:=QHg (f:=f) (N:=N) L (tdF (0,0,[],0,0) f) 1 (fun y hy=>hN y (List.mem_cons_of_mem _ hy)) rfl (by omega) (by omega) e (QDE _ _ z _) (QAK _ _ z _)
  refine ⟨a1,a2,a3,fun k hk hkN => ?_⟩
  obtain ⟨b1,b2⟩:=a4 k hk hkN
  rw [List.foldl_cons,b1,b2,List.any_cons,List.any_cons]
  have d1:decide (k < f.length)=true:=decide_eq_true (by omega)
  constructor
  ·congr 1
   show Ql (mvL f (Qz 0 f []) 0 f.length) k=_
   rw [e,QCZ _ _ _ hk,d1,Bool.true_and,qN,Bool.false_or]
  ·congr 1
   show Ql (tuL f (Qz 0 f []) 0 f.length) k=_
   rw [e,QCV _ _ _ hk,d1,Bool.true_and,qN,Bool.false_or]
theorem QI1 (f:List QA) (m t:Int) (k:Nat):∀ n,n≤f.length→(KP f m t n).getD k ⟨0,0⟩=if k < n then Vx m t k (f.getD k ⟨0,0⟩) else f.getD k ⟨0,0⟩
 | 0,_=>by simp [KP]
 | n + 1,h=>by
  have ih:=QI1 f m t k n (by omega)
  rw [KP]
  by_cases e:k=n
  ·subst e
   rw [if_neg (Nat.lt_irrefl _)] at ih
   rw [if_pos (Nat.lt_succ_self _),List.getD_eq_getElem?_getD,List.getElem?_set_self (by rw [ZM];omega),Option.getD_some,ih]
  ·rw [List.getD_eq_getElem?_getD,List.getElem?_set_ne (fun h=>e h.symm),←List.getD_eq_getElem?_getD,ih]
   by_cases h2:k < n
   ·rw [if_pos h2,if_pos (by omega)]
   ·rw [if_neg h2,if_neg (by omega)]
def Xj (L:List (List QA)) (k:Nat):QA:=
 cond (L.any fun l=>(l.getD k ⟨0,0⟩).cell != ((L.headD []).getD k ⟨0,0⟩).cell) ⟨-1,0⟩
  (cond (L.any fun l=>Vz l (L.headD []) k) ⟨((L.headD []).getD k ⟨0,0⟩).cell,0⟩ ((L.headD []).getD k ⟨0,0⟩))
def Vn (L:List (List QA)) (N:Nat):List QA:=(List.range N).map (Xj L)
theorem HX (L:List (List QA)) (N:Nat):(Vn L N).length=N:=by simp [Vn]
theorem QDq (L:List (List QA)) (N:Nat) {k:Nat} (h:k < (Vn L N).length):(Vn L N)[k]=Xj L k:=by simp [Vn]
theorem QR3 {f:List QA} {L:List (List QA)} {N:Nat} (h64:N≤64) (hN:∀ l∈f::L,l.length=N) (hL:(f::L).length < 2 ^ 63):∃ s:TdS,(f::L).foldl tdF (0,0,[],0,0)=s∧s.1=(f::L).length∧KP s.2.2.1 s.2.2.2.1 s.2.2.2.2 s.2.2.1.length=Vn (f::L) N:=by
 obtain ⟨s,e,h1,h2,h3,h4,h5⟩:=QTH hN hL
 refine ⟨s,e,h1,?_⟩
 have hf:=hN f List.mem_cons_self
 rw [h2]
 apply List.ext_getElem
 ·rw [ZM,HX,hf]
 ·intro k hk hk2
  rw [ZM] at hk
  have:=QI1 f s.2.2.2.1 s.2.2.2.2 k f.length (Nat.le_refl _)
  rw [if_pos hk,QBw (by rw [ZM];exact hk)] at this
  rw [this,QDq]
  obtain ⟨b1,b2⟩:=h5 k (by omega) (by omega)
  show Vx _ _ _ _=_
  unfold Vx Xj
  have v1:bitV s.2.2.2.1 k=Ql s.2.2.2.1 k:=Go.SX.bitV_bit h3 (by omega)
  have v2:bitV s.2.2.2.2 k=Ql s.2.2.2.2 k:=Go.SX.bitV_bit h4 (by omega)
  rw [v1,v2,b1,b2]
  simp only [List.headD_cons]
  split
  ·rename_i q;rw [q];rfl
  ·rename_i q;rw [q]
   split
   ·rename_i q;rw [q];rfl
   ·rename_i q;rw [q];rfl
def KS (p:Nat→Bool):Nat→Nat
 | 0=>0
 | n + 1=>KS p n + (p n).toNat
theorem jY (p:Nat→Bool):∀ n,KS p n≤n
 | 0=>Nat.le_refl _
 | n + 1=>by have:=jY p n;have:=Bool.toNat_le (p n);simp only [KS];omega
theorem HD {p q:Nat→Bool}:∀ {n},(∀ k,k < n→p k=true→q k=true)→KS p n≤KS q n
 | 0,_=>Nat.le_refl _
 | n + 1,h=>by
  have ih:=HD (n:=n) (fun k hk=>h k (by omega))
  have:=h n (by omega)
  simp only [KS]
  cases hp:p n with
  | false=>simp;omega
  | true=>rw [this hp];omega
theorem QCl {p q:Nat→Bool} {n:Nat} (h:∀ k,k < n→p k=q k):KS p n=KS q n:=
 Nat.le_antisymm (HD fun k hk e=>by rw [←h k hk];exact e) (HD fun k hk e=>by rw [h k hk];exact e)
theorem QHO (p:Nat→Bool):∀ n,KS p n + KS (fun k => !p k) n=n
 | 0=>rfl
 | n + 1=>by have:=QHO p n;simp only [KS];cases p n<;>simp<;>omega
theorem QNr {p:Nat→Bool} {n:Nat} (h:KS p n=n):∀ k,k < n→p k=true:=by
 induction n with
 | zero=>intro k hk;omega
 | succ n ih=>
  simp only [KS] at h
  have h1:=jY p n
  have h2:=Bool.toNat_le (p n)
  intro k hk
  by_cases e:k=n
  ·subst e
   cases hp:p k with
   | true=>rfl
   | false=>rw [hp] at h;simp at h;omega
  ·exact ih (by omega) k (by omega)
theorem QSd {p:Nat→Bool} {n:Nat} (h:∀ k,k < n→p k=false):KS p n=0:=by
 induction n with
 | zero=>rfl
 | succ n ih=>simp only [KS,h n (by omega),ih fun k hk=>h k (by omega)];rfl
theorem QJL {p:Nat→Bool} {c:Nat} (hp:p c=false):∀ {n},c < n→KS (fun k=>decide (k=c)||p k) n=KS p n + 1
 | n + 1,h=>by
  simp only [KS]
  by_cases e:c=n
  ·subst e
   rw [hp]
   have:KS (fun k=>decide (k=c)||p k) c=KS p c:=QCl fun k hk=>by
    rw [decide_eq_false (by omega),Bool.false_or]
   rw [this];simp
  ·rw [QJL hp (n:=n) (by omega),decide_eq_false (by omega),Bool.false_or];omega
def Kx (l:List QA) (k:Nat):Bool:=l.any fun s=>s.cell == (k:Int)
structure QHT (l:List QA) (n:Nat):Prop where
 s:∀ c∈l,c.cell = -2∨0≤c.cell∧c.cell < n
 one:l.Pairwise fun a b=>b.cell ≠ -2→a.cell≠b.cell
theorem QHP {n:Nat}:∀ {l:List QA},QHT l n→(KS (Kx l) n:Int)=l.length - QI l (-2)
 | [],_=>by
  have:KS (Kx []) n=0:=QSd fun k _=>rfl
  rw [this];simp [QI]
 | s::l,h=>by
  have ho:=h.one
  rw [List.pairwise_cons] at ho
  have ih:=QHP (l:=l) ⟨fun c hc=>h.s c (List.mem_cons_of_mem _ hc),ho.2⟩
  have hs:=h.s s List.mem_cons_self
  have hcnt:QI (s::l) (-2)=QI l (-2) + if s.cell = -2 then 1 else 0:=by
   unfold QI
   rw [List.countP_cons]
   by_cases e:s.cell = -2<;>simp [e]
  rw [hcnt,List.length_cons]
  by_cases e:s.cell = -2
  ·have:KS (Kx (s::l)) n=KS (Kx l) n:=QCl fun k _=>by
    have:(s.cell == (k:Int))=false:=by rw [beq_eq_false_iff_ne];omega
    simp only [Kx,List.any_cons,this,Bool.false_or]
   rw [this,ih,if_pos e];omega
  ·obtain ⟨h0,h1⟩:0≤s.cell∧s.cell < n:=by omega
   obtain ⟨c,hc⟩:=Int.eq_ofNat_of_zero_le h0
   have hp:Kx l c=false:=by
    unfold Kx
    rw [List.any_eq_false]
    intro b hb q
    have q:b.cell=c:=by simpa using q
    exact ho.1 b hb (by omega) (by omega)
   have:KS (Kx (s::l)) n=KS (Kx l) n + 1:=by
    rw [←QJL hp (n:=n) (by omega)]
    refine QCl fun k _ => ?_
    simp only [Kx,List.any_cons,hc]
    congr 1
    by_cases q:k=c
    ·subst q;simp
    ·have:¬ ((c:Int)=(k:Int)):=by omega
     rw [decide_eq_false q];simpa using this
   rw [this,if_neg e];omega
end Go.Proofs.Ytbpffdkemeoajaa
namespace Go.Proofs.Ytbpffdkemeoajaa
open Go Go.SX
def Ku (x:QE):List (List QA):=Z5 x (Qr x x.scans.n) x.scans.n []
theorem QMB {x:QE} (hx:x.ok=true):QKk x:=by
 have hg:=VX hx
 refine ⟨?_,fun k hk=>(hg.j k hk).2.1,fun k hk=>(hg.j k hk).2.2⟩
 simp only [QE.ok,QE.sz,QW,Bool.and_eq_true,decide_eq_true_eq] at hx
 omega
theorem QIB {x:QE} (hx:x.ok=true):(Ku x).length < 2 ^ 63:=by
 have hg:=VX hx
 have hs:=hg.s
 have h:=QDc (fun l=>QJ (Qr x x.scans.n) l.length) (okC x) (jH x) (B:=37) (fun l=>by
  show (QJ (Qr x x.scans.n) l.length).length≤37
  by_cases h:l.length < x.scans.n
  ·rw [jf h]
   have:=vY x.d (x.scans.get l.length) x.d.ps.n
   have:=hg.d.n9
   simp only [Yu,List.length_cons];omega
  ·rw [QCh (by rw [Xx];omega)];exact Nat.zero_le _) x.scans.n []
 have h2:37 ^ x.scans.n≤37 ^ 12:=Nat.pow_le_pow_right (by omega) hs
 have h3:37 ^ 12 < 2 ^ 63:=by decide
 show (Vu _ _ _ _ _).length < _
 omega
theorem jw {x:QE} (hx:x.ok=true) {l:List QA}:l∈Ku x↔Tru x (Qr x x.scans.n) l:=QNk (QMB hx)
theorem QNE {x:QE} {l:List QA} (h:Tru x (Qr x x.scans.n) l) {i:Nat} (hi:i < l.length):l[i]∈Yu x i:=by
 have:=h.can i hi
 rwa [jf (by rw [←h.len];exact hi)] at this
theorem QBt {x:QE} {l:List QA} (h:Tru x (Qr x x.scans.n) l):∀ c∈l,(c.cell = -2∧c.turn=0)∨(0≤c.cell∧c.cell < x.d.ps.n∧0≤c.turn∧c.turn < 4):=by
 intro c hc
 obtain ⟨i,hi,rfl⟩:=List.mem_iff_getElem.1 hc
 have:=QNE h hi
 simp only [Yu,List.mem_cons] at this
 rcases this with e|e
 ·rw [e];exact .inl ⟨rfl,rfl⟩
 ·obtain ⟨k,u,h1,h2,e⟩:=QB5 e
  rw [e]
  exact .inr ⟨by simp only;omega,by simp only;omega,by simp only;omega,by simp only;omega⟩
theorem QMk {x:QE} (hx:x.ok=true) {l:List QA} (h:Tru x (Qr x x.scans.n) l):qC l:=⟨fun c hc=>by
 have:=(VX hx).d.n9
 rcases QBt h c hc with ⟨e,_⟩|⟨h1,h2,_⟩<;>omega⟩
theorem QMD {x:QE} {l:List QA} (h:Tru x (Qr x x.scans.n) l):QHT l x.d.ps.n:=⟨fun c hc=>by
 rcases QBt h c hc with ⟨e,_⟩|⟨h1,h2,_⟩<;>omega,by
 rw [List.pairwise_iff_getElem]
 intro i j hi hj hij hc
 exact h.one i j hij hj hc⟩
def VI (x:QE):Int:=cond x.ok (cond (JZ x) 11 (cond (Ku x).isEmpty 6 0)) 1
theorem QAO {x:QE} (hn:x.d.ps.n≤9):Kq x=((2 ^ x.d.ps.n - 1:Nat):Int):=by
 unfold Kq
 rw [Nat.min_eq_left (by omega),Int.one_mul]
 have e:((2:Int) ^ x.d.ps.n)=((2 ^ x.d.ps.n:Nat):Int):=by simp
 have h1:2 ^ x.d.ps.n≤2 ^ 9:=Nat.pow_le_pow_right (by omega) hn
 have h2:1≤2 ^ x.d.ps.n:=Nat.one_le_two_pow
 rw [e,Vs (n:=((2 ^ x.d.ps.n:Nat):Int)) ⟨by omega,by omega⟩,Vs ⟨by omega,by omega⟩]
 omega
theorem QHu {x:QE} (hn:x.d.ps.n≤9):KR (Kq x):=by
 rw [QAO hn]
 have h1:2 ^ x.d.ps.n≤2 ^ 9:=Nat.pow_le_pow_right (by omega) hn
 exact ⟨by omega,by omega⟩
theorem QFP {x:QE} (hn:x.d.ps.n≤9) (k:Nat):Ql (Kq x) k=decide (k < x.d.ps.n):=by
 rw [QPc (by rw [QAO hn];omega) (QHu hn),QAO hn,Int.toNat_natCast,Nat.testBit_two_pow_sub_one]
structure QMJ (x:QE) (sure may:Int):Prop where
 si:KR sure
 mi:KR may
 sb:∀ k,Ql sure k=(decide (k < x.d.ps.n)&&(Ku x).all fun l => !Kx l k)
 mb:∀ k,Ql may k=(decide (k < x.d.ps.n)&&(Ku x).any fun l => !Kx l k)
theorem qa (x:QE):(miV x).2.2=VI x∧(VI x≠0→(miV x).1=0∧(miV x).2.1=0)∧(VI x=0→x.ok=true∧JZ x=false∧Ku x≠[]∧QMJ x (miV x).1 (miV x).2.1):=by
 unfold miV VI
 cases ho:x.ok with
 | false=>exact ⟨by trivial,fun _=>⟨by trivial,by trivial⟩,fun h=>by simp at h⟩
 | true=>
  cases hr:JZ x with
  | true=>exact ⟨by trivial,fun _=>⟨by trivial,by trivial⟩,fun h=>by simp at h⟩
  | false=>
   have hn:=(VX ho).d.n9
   obtain ⟨h',e⟩:=QB9 x (Qr x x.scans.n) (msY (Kq x)) x.scans.n [] (0,Kq x,0) noH
   rw [QCe (fun _ _=>rfl)] at e
   obtain ⟨s,e2,s1,s2,s3,s4,s5⟩:=QSz (L:=Ku x) (fun l hl=>QMk ho ((jw ho).1 hl)) (Kq x) (QIB ho)
   have e:miS x = .go s h':=by rw [←e2];exact e
   simp only [e,cond_true,cond_false]
   cases hL:Ku x with
   | nil=>
    have:decide (s.1 > 0)=false:=by rw [s1,hL];rfl
    simp only [this]
    exact ⟨by trivial,fun _=>⟨by trivial,by trivial⟩,fun h=>by simp at h⟩
   | cons l L=>
    have:decide (s.1 > 0)=true:=by rw [s1,hL];simp
    simp only [this]
    refine ⟨by trivial,fun h=>absurd (by trivial) h,fun _=>⟨by trivial,by trivial,by simp,⟨s3 (QHu hn),s2,fun k => ?_,fun k => ?_⟩⟩⟩
    ·rw [s4 k,QFP hn];rfl
    ·rw [s5 k,QFP hn];rfl
theorem QBA (x:QE):Q7 x=(cond (VI x == 0) (Vn (Ku x) x.scans.n) [],VI x):=by
 unfold Q7 VI
 cases ho:x.ok with
 | false=>rfl
 | true=>
  cases hr:JZ x with
  | true=>rfl
  | false=>
   obtain ⟨h',e⟩:=QB9 x (Qr x x.scans.n) tdY x.scans.n [] (0,0,[],0,0) noH
   rw [QCe (fun _ _=>rfl)] at e
   have e:tdS x = .go ((Ku x).foldl tdF (0,0,[],0,0)) h':=e
   simp only [e,cond_true,cond_false]
   have hlen:=QIB ho
   have hall:∀ l∈Ku x,l.length=x.scans.n:=fun l hl=>((jw ho).1 hl).len
   have hs:=(VX ho).s
   cases hL:Ku x with
   | nil=>rfl
   | cons l L=>
    rw [hL] at hlen hall
    obtain ⟨s,e2,s1,s2⟩:=QR3 (by omega) hall hlen
    rw [e2]
    have:decide (s.1 > 0)=true:=by rw [s1];simp
    simp only [this,s2]
    rfl
structure QT9 (x:QE) (cells:List Int) (al:Int):Prop where
 len:cells.length=x.scans.n
 ci:∀ j,KR (cells.getD j 0)
 ai:KR al
 cb:∀ j,j < x.scans.n→∀ k,Ql (cells.getD j 0) k=(Ku x).any fun l=>(l.getD j ⟨0,0⟩).cell == (k:Int)
 ab:∀ k,Ql al k=(decide (k < x.scans.n)&&(Ku x).any fun l=>(l.getD k ⟨0,0⟩).cell == -2)
end Go.Proofs.Ytbpffdkemeoajaa
namespace Go.SX
open Go Go.RowKit Go.Proofs.Ytbpffdkemeoajaa
def QFW (rw_:Bool) (E:Env) (H:Hnd) (fn:Func):FC:=fun args nid _=>q9 rw_ E H fn args nid (Vb (AV.idsFromL 0 args) [])
theorem QLS {E:Env} (hE:E.Sound) {H:Hnd} {rw_:Bool} {f:FuncId} {fn:Func} {c:Code} (hf:E.P.funcs[f]? = some fn) (hb:fn.body=some c) (hgo:K8 E.P f=true) (hl:∀ G,G.rd=none→Q4 E G H c):QM E.P f (QFW rw_ E H fn):=by
 have h:=QA8 (rw_:=rw_) hE hf hb hgo hl
 exact ⟨h.1,fun args nid all r w lk blks eff hH ha hv he hp=>h.2 args nid (Vb (AV.idsFromL 0 args) []) r w lk blks eff hH ha hv he hp⟩
def QCC (fc:FC):FC:=fun args nid _=>((fc args nid (Vb (AV.idsFromL 0 args) [])).1,fun blks=>match (fc args nid (Vb (AV.idsFromL 0 args) [])).2 blks with
 | some e=>some ⟨true,e.pre,e.val.setK true,e.upd⟩
 | none=>none)
theorem QSv {P:Program} {f:FuncId} {fc:FC} (h:QM P f fc):QM P f (QCC fc):=by
 refine ⟨h.1,fun args nid all r w lk blks eff hH ha hv he hp => ?_⟩
 simp only [QCC] at hv he
 split at he<;>(try (cases he;done))
 rename_i e h0
 simp only [Option.some.injEq] at he;subst he
 refine (h.2 args nid (Vb (AV.idsFromL 0 args) []) r w lk blks e hH ha hv h0 hp).mono ?_
 rintro e' w' ⟨r',rfl,hpost⟩
 exact ⟨r',by simp only;rw [Zd],hpost⟩
end Go.SX
namespace Go.Proofs.Ytbpffdkemeoajaa
open Go.SX
abbrev mkG (P:Program) (C:Tab):Env:=⟨P,C,Wz P,false,fun _=>false,false,true,false⟩
theorem QBT {C:Tab} (hC:QU C):(mkG Try.prog C).Sound:={ c:=hC,m:=vm Try.prog,mixed:=Gl }
def QIM:List (Nat×Nat)→Nat→Nat
 | [],_=>0
 | (g,k)::l,f=>match Nat.beq g f with
  | true=>k
  | false=>QIM l f
def XZ (P:Program) (B:Tab) (l:List (Nat×Nat)):Nat→Tab
 | 0=>fun _=>none
 | d + 1=>fun f=>match B f with
  | some fc=>some (QCC fc)
  | none=>match QIM l f with
   | 0=>none
   | k=>match P.funcs[f]? with
    | none=>none
    | some fn=>match fn.body.isSome&&K8 P f with
     | false=>none
     | true=>match k with
      | 1=>some (QFW false (mkG P (XZ P B l d)) (hnd (mkG P (XZ P B l d)) 60) fn)
      | 2=>some (q9 false (mkG P (XZ P B l d)) (hnd (mkG P (XZ P B l d)) 60) fn)
      | _=>some (q9 true (mkG P (XZ P B l d)) (hnd (mkG P (XZ P B l d)) 60) fn)
theorem QHY {B:Tab} (hB:QU B) (l:List (Nat×Nat)):∀ d,QU (XZ Try.prog B l d)
 | 0=>fun f fc h=>by cases h
 | d + 1=>fun f fc h=>by
  have ih:=QBT (QHY hB l d)
  simp only [XZ] at h
  split at h
  ·rename_i fc0 h0
   simp only [Option.some.injEq] at h;subst h
   exact QSv (hB _ _ h0)
  split at h
  ·cases h
  ·split at h
   ·cases h
   ·rename_i fn hf
    split at h
    ·cases h
    ·rename_i hb
     simp only [Bool.and_eq_true,Option.isSome_iff_exists] at hb
     obtain ⟨⟨c,hc⟩,hgo⟩:=hb
     split at h<;>simp only [Option.some.injEq] at h<;>subst h
     ·exact QLS ih hf hc hgo fun G hG=>Qt ih 60 G _ hG
     ·exact QA8 ih hf hc hgo fun G hG=>Qt ih 60 G _ hG
     ·exact QA8 ih hf hc hgo fun G hG=>Qt ih 60 G _ hG
def QM5:Unit→Bool×AV:=fun _=>(true,.bool false true)
def QBi:FC:=Qw (Qx QM5)
theorem QM8 {C:Tab} (hC:QU C) (d:Nat) {f:FuncId} {fn:Func} (hf:Try.prog.funcs[f]? = some fn) (hb:fn.body=some (Qm fn)) (hgo:K8 Try.prog f=true) (h:Qs (mkG Try.prog C) (hnd (mkG Try.prog C) d) false fn [] [] 0 = .leaf (.bool true true) []):QM Try.prog f QBi:=by
 refine QCY (QBT hC) hf hb hgo (fun G _ hG=>Qt (QBT hC) d G _ hG) ?_
 rintro ⟨⟩ _
 rw [show (Qi.enc ((()):Unit):List AV)=[] from rfl,h]
 rfl
end Go.Proofs.Ytbpffdkemeoajaa
namespace Go.Proofs.Ytbpffdkemeoajaa
open Go.SX
def QA4:List (Nat×Nat):=[(95,1)]
theorem QRn:Qs (mkG Try.prog (XZ Try.prog VO QA4 12)) (hnd (mkG Try.prog (XZ Try.prog VO QA4 12)) 100) false Try.f12 [] [] 0 = .leaf (.bool true true) []:=by kernel_rfl
theorem QK9:QM Try.prog 12 QBi:=QM8 (QHY Y0 QA4 12) 100 Try.func12 (by kernel_rfl) (by kernel_rfl) QRn
end Go.Proofs.Ytbpffdkemeoajaa
namespace Go.Proofs.Ytbpffdkemeoajaa
open Go.SX
def Jx:Tab:=QX (QX (QX QEh 12 QBi) 23 (Gx miC)) 33 (Gx QGC)
theorem Ww:QU Jx:=((QT6.add QK9).add (QAi QOF)).add (QAi QRC)
def laB (x:QE):List (Nat×Blk):=(8,.cells 0 50 (JG 0 x))::K9 0 x
def jJ (x:QE) (s m:Int) (L:List QA) (n:Int) (k:Nat):JSt:=⟨149,[(1,.ptr 8 0 0),(3,.int false .i64 s),(4,.int false .i64 m),(6,.slz 120 0 L.length (.of 0)),(8,.int false .i64 n),(65,.int false .i64 x.d.ps.n),(66,.int false .i64 k)],rwL 120 L::laB x,432⟩
def zL (x:QE) (m:Int) (L:List QA) (n:Int):JSt:=⟨149,[(1,.ptr 8 0 0),(4,.int false .i64 m),(6,.slz 120 0 L.length (.of 0)),(8,.int false .i64 n)],rwL 120 L::laB x,432⟩
def QDr:Ex→List Nat
 | .normal=>[1,3,4,6,8,65,66]
 | .exit _=>[1,4,6,8]
 | .ret=>[]
def WV (x:QE) (m:Int) (L:List QA) (n:Int) (k:Nat):JSt:=⟨149,[(1,.ptr 8 0 0),(4,.int false .i64 m),(8,.int false .i64 n),(76,.slz 120 0 L.length (.of 0)),(77,.int false .i64 L.length),(78,.int false .i64 k)],rwL 120 L::laB x,432⟩
def GX (x:QE) (m:Int) (n:Int):JSt:=⟨149,[(1,.ptr 8 0 0),(4,.int false .i64 m),(8,.int false .i64 n)],laB x,432⟩
def QH0:Ex→List Nat
 | .normal=>[1,4,8,76,77,78]
 | .exit _=>[1,4,8]
 | .ret=>[2]
noncomputable abbrev QDA (x:QE):Nat×Blk:=
  (8,.cells 0 50 [.int false .i64 x.d.play.length,.int false .i64 x.d.play.slack,.int false .i64 x.d.play.loose,.int false .i64 x.d.play.damp.lo,.int false .i64 x.d.play.damp.hi,
  .int false .i64 x.d.wide,.int false .i64 x.d.high,.bool false x.d.turn,.slz 0 0 x.d.ps.n (Cap.of 0),.slz 1 0 x.scans.n (Cap.of 0),.slz 2 0 x.hang.n (Cap.of 0),.int false .i64
  x.lost,.int false .i64 x.foreign])
noncomputable abbrev WG:List CK:=
  [.int .i64,.int .i64,.int .i64,.int .i64,.int .i64,.int .i64,.int .i64,.int .i64,.int .i64,.int .i64,.int .i64,.int .i64,.int .i64,.int .i64,.int .i64,.int .i64,.int
  .i64,.int .i64,.int .i64,.int .i64,.int .i64,.int .i64,.int .i64,.int .i64,.int .i64,.int .i64,.int .i64,.int .i64]
noncomputable abbrev QA5 (x:QE):Nat×Blk:=
  (2,.frz [.int .i64,.int .i64,.int .i64,.int .i64] x.hang.n fun i=>QB.enc (x.hang.get i))
noncomputable abbrev Ym (L:List QA) (x:QE):List (Nat×Blk):=
  [(QDA x),(120,.rowz true 56 [.int .i64,.int .i64] L.length fun i=>QB.enc (L.getD i (QA.mk (0:Int) (0:Int)))),(0,.frz WG x.d.ps.n fun i=>QB.enc (x.d.ps.get i)),
  (1,.frz WG x.scans.n fun i=>QB.enc (x.scans.get i)),(QA5 x)]
theorem QSA (x:QE) (s m:Int) (L:List QA) (n:Int) (k:Nat) (g:Nat→Value) :exec (mkE Try.prog Jx) (hnd (mkE Try.prog Jx) 3) (Qf Try.f7 0) (JSt.inst (jJ x s m L n k) g) (KT [] QDr) = .br (decide ((↑k:Int) < (↑x.d.ps.n:Int))) (.need
  (decide ((0:Int)≤(↑k:Int))) (.leaf (.tup [.nilp,.ptr 149 0 0,.ptr 8 0 0,.int false .i64 s,.int false .i64 m,.slz 120 0 L.length (Cap.of 0),.int false .i64
  (IntKind.i64.wrap (n + IntKind.i64.wrap (↑(BitVec.ofInt 64 (s.fdiv ((2:Int) ^ min k 64)) &&& BitVec.ofInt 64 (1:Int)).toNat:Int))),.int false .i64 (↑x.d.ps.n:Int),.int
  false .i64 (IntKind.i64.wrap ((↑k:Int) + (1:Int)))]) ((Ym L x)))) (.leaf (.tup [.ptr 0 0 0,.ptr 149 0 0,.ptr 8 0 0,.int false .i64 m,.slz 120 0 L.length (Cap.of 0),.int
  false .i64 n]) ((Ym L x))):=by kernel_rfl
noncomputable abbrev QJ4 (L:List QA) (k:Nat) (m:Int) (n:Int):List AV:=
  [.nilp,.ptr 149 0 0,.ptr 8 0 0,.int false .i64 m,.int false .i64 n,.slz 120 0 L.length (Cap.of 0),.int false .i64 (↑L.length:Int),.int false .i64 (IntKind.i64.wrap ((↑k :
  Int) + (1:Int)))]
theorem QRu (x:QE) (m:Int) (L:List QA) (n:Int) (k:Nat) (g:Nat→Value) :exec (mkE Try.prog Jx) (hnd (mkE Try.prog Jx) 3) (Qf Try.f7 1) (JSt.inst (WV x m L n k) g) (KT [] QH0) = .br (decide ((↑k:Int) < (↑L.length:Int))) (.need
  (decide ((0:Int)≤(↑k:Int)∧(↑k:Int) < (↑L.length:Int))&&decide (L.length≤L.length)) (.need (decide (k < L.length)) (.br (decide ((L.getD k (QA.mk (0:Int) (0 :
  Int))).cell≥(0:Int))) (.need (decide ((0:Int)≤(L.getD k (QA.mk (0:Int) (0:Int))).cell)) (.br (IntKind.i64.wrap (↑(BitVec.ofInt 64 (m.fdiv ((2:Int) ^ min (L.getD k
  (QA.mk (0:Int) (0:Int))).cell.toNat 64)) &&& BitVec.ofInt 64 (1:Int)).toNat:Int) == (1:Int)) (.leaf (.tup [.nili,.ptr 149 0 0,.bool true false]) ([])) (.leaf (.tup
  (QJ4 L k m n)) ((Ym L x))))) (.leaf (.tup (QJ4 L k m n)) ((Ym L x)))))) (.leaf (.tup [.ptr 2 0 0,.ptr 149 0 0,.ptr 8 0 0,.int false .i64 m,.int false .i64 n]) ([(QDA x),
  (0,.frz WG x.d.ps.n fun i=>QB.enc (x.d.ps.get i)),(1,.frz WG x.scans.n fun i=>QB.enc (x.scans.get i)),(QA5 x)])):=by kernel_rfl
theorem QLm (x:QE) (s m:Int) (L:List QA) (n n':Int) (k k':Nat) :QO 8 [.ptr 8 0 0,.int false .i64 s,.int false .i64 m,.slz 120 0 L.length (Cap.of 0),.int false .i64 (IntKind.i64.wrap (n + IntKind.i64.wrap (↑(BitVec.ofInt 64 (s.fdiv ((2 :
  Int) ^ min k 64)) &&& BitVec.ofInt 64 (1:Int)).toNat:Int))),.int false .i64 (↑x.d.ps.n:Int),.int false .i64 (IntKind.i64.wrap ((↑k:Int) + (1:Int)))] ((Ym L x)) (jJ x
  s m L n' k')=( some [0=0,0=0,s=s,m=m,0=0,L.length=L.length,Cap.of 0=Cap.of 0,IntKind.i64.wrap (n + IntKind.i64.wrap (↑(BitVec.ofInt 64 (s.fdiv ((2:Int) ^
  min k 64)) &&& BitVec.ofInt 64 (1:Int)).toNat:Int))=n',(↑x.d.ps.n:Int)=(↑x.d.ps.n:Int),IntKind.i64.wrap ((↑k:Int) + (1:Int))=(↑k':Int),L.length≤L.length,
  QD 2 L.length (fun i=>QB.enc (L.getD i (QA.mk (0:Int) (0:Int)))) fun i=>QB.enc (L.getD i (QA.mk (0:Int) (0:Int))),x.d.play.length=x.d.play.length,
  x.d.play.slack=x.d.play.slack,x.d.play.loose=x.d.play.loose,x.d.play.damp.lo=x.d.play.damp.lo,x.d.play.damp.hi=x.d.play.damp.hi,x.d.wide=x.d.wide,x.d.high=x.d.high,
  x.d.turn=x.d.turn,0=0,x.d.ps.n=x.d.ps.n,Cap.of 0=Cap.of 0,0=0,x.scans.n=x.scans.n,Cap.of 0=Cap.of 0,0=0,x.hang.n=x.hang.n,Cap.of 0=Cap.of 0,x.lost =
  x.lost,x.foreign=x.foreign,x.d.ps.n≤x.d.ps.n,QD 28 x.d.ps.n (fun i=>QB.enc (x.d.ps.get i)) fun i=>QB.enc (x.d.ps.get i),x.scans.n≤x.scans.n,QD 28
  x.scans.n (fun i=>QB.enc (x.scans.get i)) fun i=>QB.enc (x.scans.get i),x.hang.n≤x.hang.n,QD 4 x.hang.n (fun i=>QB.enc (x.hang.get i)) fun i=>QB.enc
  (x.hang.get i)]):=by kernel_rfl
theorem QLi (x:QE) (m:Int) (L:List QA) (n:Int) :QO 8 [.ptr 8 0 0,.int false .i64 m,.slz 120 0 L.length (Cap.of 0),.int false .i64 n] ((Ym L x)) (zL x m L n)=( some [0=0,0=0,m=m,0=0,L.length=L.length,
  Cap.of 0=Cap.of 0,n=n,L.length≤L.length,QD 2 L.length (fun i=>QB.enc (L.getD i (QA.mk (0:Int) (0:Int)))) fun i=>QB.enc (L.getD i (QA.mk (0:Int) (0 :
  Int))),x.d.play.length=x.d.play.length,x.d.play.slack=x.d.play.slack,x.d.play.loose=x.d.play.loose,x.d.play.damp.lo=x.d.play.damp.lo,x.d.play.damp.hi =
  x.d.play.damp.hi,x.d.wide=x.d.wide,x.d.high=x.d.high,x.d.turn=x.d.turn,0=0,x.d.ps.n=x.d.ps.n,Cap.of 0=Cap.of 0,0=0,x.scans.n=x.scans.n,Cap.of 0=Cap.of 0,
  0=0,x.hang.n=x.hang.n,Cap.of 0=Cap.of 0,x.lost=x.lost,x.foreign=x.foreign,x.d.ps.n≤x.d.ps.n,QD 28 x.d.ps.n (fun i=>QB.enc (x.d.ps.get i)) fun i=>QB.enc
  (x.d.ps.get i),x.scans.n≤x.scans.n,QD 28 x.scans.n (fun i=>QB.enc (x.scans.get i)) fun i=>QB.enc (x.scans.get i),x.hang.n≤x.hang.n,QD 4 x.hang.n (fun i=>
  QB.enc (x.hang.get i)) fun i=>QB.enc (x.hang.get i)]):=by kernel_rfl
noncomputable abbrev QDZ (L:List QA) (k:Nat) (m:Int) (n:Int):List AV:=
  [.ptr 8 0 0,.int false .i64 m,.int false .i64 n,.slz 120 0 L.length (Cap.of 0),.int false .i64 (↑L.length:Int),.int false .i64 (IntKind.i64.wrap ((↑k:Int) + (1:Int)))]
noncomputable abbrev QHy (L:List QA) (k:Nat) (k':Nat) (m:Int) (n:Int) (x:QE):List Prop:=
  [0=0,0=0,m=m,n=n,0=0,L.length=L.length,Cap.of 0=Cap.of 0,(↑L.length:Int)=(↑L.length:Int),IntKind.i64.wrap ((↑k:Int) + (1:Int))=(↑k':Int),
  L.length≤L.length,QD 2 L.length (fun i=>QB.enc (L.getD i (QA.mk (0:Int) (0:Int)))) fun i=>QB.enc (L.getD i (QA.mk (0:Int) (0:Int))),x.d.play.length =
  x.d.play.length,x.d.play.slack=x.d.play.slack,x.d.play.loose=x.d.play.loose,x.d.play.damp.lo=x.d.play.damp.lo,x.d.play.damp.hi=x.d.play.damp.hi,x.d.wide=x.d.wide,
  x.d.high=x.d.high,x.d.turn=x.d.turn,0=0,x.d.ps.n=x.d.ps.n,Cap.of 0=Cap.of 0,0=0,x.scans.n=x.scans.n,Cap.of 0=Cap.of 0,0=0,x.hang.n=x.hang.n,Cap.of 0 =
  Cap.of 0,x.lost=x.lost,x.foreign=x.foreign,x.d.ps.n≤x.d.ps.n,QD 28 x.d.ps.n (fun i=>QB.enc (x.d.ps.get i)) fun i=>QB.enc (x.d.ps.get i),x.scans.n≤x.scans.n,
  QD 28 x.scans.n (fun i=>QB.enc (x.scans.get i)) fun i=>QB.enc (x.scans.get i),x.hang.n≤x.hang.n,QD 4 x.hang.n (fun i=>QB.enc (x.hang.get i)) fun i=>
  QB.enc (x.hang.get i)]
theorem QQ7 (x:QE) (m:Int) (L:List QA) (n:Int) (k k':Nat) :QO 8 (QDZ L k m n) ((Ym L x)) (WV x m L n k')=( some (QHy L k k' m n x)):=by kernel_rfl
theorem QMc (x:QE) (m:Int) (L:List QA) (n:Int) (k k':Nat) :QO 8 (QDZ L k m n) ((Ym L x)) (WV x m L n k')=( some (QHy L k k' m n x)):=by kernel_rfl
theorem QTM (x:QE) (m:Int) (n:Int) :QO 8 [.ptr 8 0 0,.int false .i64 m,.int false .i64 n] ([(QDA x),(0,.frz WG x.d.ps.n fun i=>QB.enc (x.d.ps.get i)),(1,.frz WG x.scans.n fun i=>QB.enc
  (x.scans.get i)),(QA5 x)]) (GX x m n)=( some [0=0,0=0,m=m,n=n,x.d.play.length=x.d.play.length,x.d.play.slack=x.d.play.slack,x.d.play.loose=x.d.play.loose,
  x.d.play.damp.lo=x.d.play.damp.lo,x.d.play.damp.hi=x.d.play.damp.hi,x.d.wide=x.d.wide,x.d.high=x.d.high,x.d.turn=x.d.turn,0=0,x.d.ps.n=x.d.ps.n,Cap.of 0 =
  Cap.of 0,0=0,x.scans.n=x.scans.n,Cap.of 0=Cap.of 0,0=0,x.hang.n=x.hang.n,Cap.of 0=Cap.of 0,x.lost=x.lost,x.foreign=x.foreign,x.d.ps.n≤x.d.ps.n,QD 28
  x.d.ps.n (fun i=>QB.enc (x.d.ps.get i)) fun i=>QB.enc (x.d.ps.get i),x.scans.n≤x.scans.n,QD 28 x.scans.n (fun i=>QB.enc (x.scans.get i)) fun i=>QB.enc
  (x.scans.get i),x.hang.n≤x.hang.n,QD 4 x.hang.n (fun i=>QB.enc (x.hang.get i)) fun i=>QB.enc (x.hang.get i)]):=by kernel_rfl
def Q9 (s:Int):Nat→Int
 | 0=>0
 | k + 1=>IntKind.i64.wrap (Q9 s k + WX s k)
theorem QTP (x:QE) (s m:Int) (L:List QA) (hn:x.d.ps.n≤1000):JK (fun k=>jJ x s m L (Q9 s k) k) (fun k=>k≤x.d.ps.n) (fun k=>x.d.ps.n - k) (fun _ e J=>e = .exit 0∧J=zL x m L (Q9 s x.d.ps.n)) 8 QDr [] (mkE Try.prog Jx) (fun _=>hnd (mkE Try.prog Jx) 3) (Qf Try.f7 0):=by
 refine ⟨fun k g hk=>KF (QSA x s m L (Q9 s k) k g) ?_⟩
 refine QL (fun b0 => ?_) (fun b0 => ?_)
 ·refine QF (by first|rfl|(simp;done)|(simp;omega)|omega|grind) ?_
  have h:k < x.d.ps.n:=by have:=of_decide_eq_true b0;omega
  refine ⟨k + 1,h,by show x.d.ps.n - (k + 1) < x.d.ps.n - k;omega,fun _ _ r=>r,rfl,rfl,_,QLm ..,?_⟩
  repeat' first|exact trivial|with_reducible rfl|exact Nat.le_refl _|exact QD.refl _ _ _|exact Xo h hn|exact (show _=Q9 s (k + 1) from rfl)|refine And.intro ?_ ?_
 ·have h:k=x.d.ps.n:=by have:=of_decide_eq_false b0;omega
  subst h
  refine ⟨_,⟨rfl,rfl⟩,rfl,rfl,_,QLi ..,?_⟩
  repeat' first|exact trivial|with_reducible rfl|exact Nat.le_refl _|exact QD.refl _ _ _|refine And.intro ?_ ?_
theorem QSV (x:QE) (m n:Int) (L:List QA) (hn:L.length≤1000) (hL:∀ k,k < L.length→0≤(L.getD k ⟨0,0⟩).cell→WX m (L.getD k ⟨0,0⟩).cell.toNat≠1):JK (fun k=>WV x m L n k) (fun k=>k≤L.length) (fun k=>L.length - k) (fun _ e J=>e = .exit 2∧J=GX x m n) 8 QH0 [] (mkE Try.prog Jx) (fun _=>hnd (mkE Try.prog Jx) 3) (Qf Try.f7 1):=by
 refine ⟨fun k g hk=>KF (QRu x m L n k g) ?_⟩
 refine QL (fun b0 => ?_) (fun b0 => ?_)
 ·refine QF (by simp at b0 ⊢;omega) ?_
  refine QF (by simp at b0 ⊢;omega) ?_
  refine QL (fun b1 => ?_) (fun b1 => ?_)
  ·refine QF (by simpa using b1) ?_
   refine QL (fun b2 => ?_) (fun b2 => ?_)
   ·have h:k < L.length:=by have:=of_decide_eq_true b0;omega
    exact absurd (beq_iff_eq.1 b2) (hL k h (of_decide_eq_true b1))
   ·have h:k < L.length:=by have:=of_decide_eq_true b0;omega
    refine ⟨k + 1,h,by show L.length - (k + 1) < L.length - k;omega,fun _ _ r=>r,rfl,rfl,_,QQ7 ..,?_⟩
    repeat' first|exact trivial|with_reducible rfl|exact Nat.le_refl _|exact QD.refl _ _ _|exact Xo h hn|refine And.intro ?_ ?_
  ·have h:k < L.length:=by have:=of_decide_eq_true b0;omega
   refine ⟨k + 1,h,by show L.length - (k + 1) < L.length - k;omega,fun _ _ r=>r,rfl,rfl,_,QMc ..,?_⟩
   repeat' first|exact trivial|with_reducible rfl|exact Nat.le_refl _|exact QD.refl _ _ _|exact Xo h hn|refine And.intro ?_ ?_
 ·have h:k=L.length:=by have:=of_decide_eq_false b0;omega
  subst h
  refine ⟨_,⟨rfl,rfl⟩,rfl,rfl,_,QTM ..,?_⟩
  repeat' first|exact trivial|with_reducible rfl|exact Nat.le_refl _|exact QD.refl _ _ _|refine And.intro ?_ ?_
end Go.Proofs.Ytbpffdkemeoajaa
namespace Go.Proofs.Ytbpffdkemeoajaa
open Go.SX
theorem QFx {s:Int} (hs:KR s):∀ {n:Nat},n≤63→Q9 s n=(KS (Ql s) n:Nat)
 | 0,_=>rfl
 | n + 1,h=>by
  have h1:=jY (Ql s) n
  rw [Q9,QFx hs (by omega),QCF hs (by omega),KS]
  cases Ql s n with
  | true=>rw [if_pos rfl,Vs ⟨by omega,by omega⟩];rfl
  | false=>rw [if_neg (by decide),Vs ⟨by omega,by omega⟩];simp
theorem QGP {x:QE} {l:List QA} (h:Tru x (Qr x x.scans.n) l):(KS (Kx l) x.d.ps.n:Int)=x.scans.n - QI l (-2):=by
 rw [QHP (QMD h),h.len]
theorem QGX {x:QE} {l:List QA} (h:Tru x (Qr x x.scans.n) l):(x.d.ps.n:Int) - (x.scans.n - QI l (-2))≤x.lost:=by
 have:=h.lost
 unfold X4 at this
 rw [h.len] at this
 have:=of_decide_eq_false this
 omega
theorem QO4 {L:List (List QA)} {k:Nat} (h:(Xj L k).cell ≠ -1):∀ l∈L,(l.getD k ⟨0,0⟩).cell=(Xj L k).cell:=by
 intro l hl
 unfold Xj at h ⊢
 cases e:L.any fun l=>(l.getD k ⟨0,0⟩).cell != ((L.headD []).getD k ⟨0,0⟩).cell with
 | true=>rw [e] at h;exact absurd rfl h
 | false=>
  rw [List.any_eq_false] at e
  have:=e l hl
  have q:(l.getD k ⟨0,0⟩).cell=((L.headD []).getD k ⟨0,0⟩).cell:=by simpa using this
  rw [cond_false,q]
  cases L.any fun l=>Vz l (L.headD []) k<;>rfl
theorem QPK {L:List (List QA)} {N k:Nat} (h:k < N):(Vn L N).getD k ⟨0,0⟩=Xj L k:=by
 rw [QBw (by rw [HX];exact h),QDq]
structure QR2 (x:QE) (s m:Int) (L:List QA):Prop where
 sub:K0 s m=0
 pos:0≤m
 lt:m < IntKind.i64.wrap (1 * 2 ^ min x.d.ps.n 64)
 told:∀ k,k < L.length→0≤(L.getD k ⟨0,0⟩).cell→WX m (L.getD k ⟨0,0⟩).cell.toNat≠1
 n:Q9 s x.d.ps.n≤x.lost
 l:(x.d.ps.n:Int) - x.scans.n≤x.lost
 f:(x.scans.n:Int) - x.d.ps.n≤x.foreign
 z:x.lost≤0→x.foreign≤0→m=0∧x.scans.n=x.d.ps.n
theorem QFE {x:QE} (h:VI x=0):QR2 x (miV x).1 (miV x).2.1 (Q7 x).1:=by
 obtain ⟨hx,hr,hL,hm⟩:=(qa x).2.2 h
 rw [QBA,h]
 have hn:=(VX hx).d.n9
 have hs:=(VX hx).s
 obtain ⟨l,hl⟩:=List.exists_mem_of_ne_nil _ hL
 have ht:=(jw hx).1 hl
 have hcov:=QGP ht
 have hlost:=QGX ht
 have hal:=ht.al
 have hc0:=WL l (-2)
 have hle:=jY (Kx l) x.d.ps.n
 have hlow:=QLX hm.mi (n:=x.d.ps.n) (by omega) (fun k hk=>by rw [hm.mb,decide_eq_false (by omega)];rfl)
 refine ⟨?_,hlow.1,?_,?_,?_,by omega,by omega,?_⟩
 ·refine QET (jN _) ⟨by omega,by omega⟩ fun k => ?_
  unfold K0
  rw [QBB,hm.sb,hm.mb,qN]
  cases decide (k < x.d.ps.n) with
  | false=>rfl
  | true=>
   simp only [Bool.true_and]
   cases e:(Ku x).all fun l => !Kx l k with
   | false=>rfl
   | true=>
    rw [List.all_eq_true] at e
    have:((Ku x).any fun l => !Kx l k)=true:=List.any_eq_true.2 ⟨l,hl,e l hl⟩
    rw [this];rfl
 ·have e:((2:Int) ^ x.d.ps.n)=((2 ^ x.d.ps.n:Nat):Int):=by simp
  have h1:2 ^ x.d.ps.n≤2 ^ 9:=Nat.pow_le_pow_right (by omega) hn
  rw [Nat.min_eq_left (by omega),Int.one_mul,e,Vs ⟨by omega,by omega⟩,←e]
  exact hlow.2
 ·intro k hk hc
  have hk:k < x.scans.n:=by
   have:k < (Vn (Ku x) x.scans.n).length:=hk
   rwa [HX] at this
  have e1:(cond ((0:Int) == 0) (Vn (Ku x) x.scans.n) [],(0:Int)).1=Vn (Ku x) x.scans.n:=rfl
  rw [e1,QPK hk] at hc ⊢
  have hsame:=QO4 (L:=Ku x) (k:=k) (by omega)
  have hcl:=hsame l hl
  have hmem:l.getD k ⟨0,0⟩∈l:=QKR (by rw [ht.len];exact hk)
  have hin:=QBt ht _ hmem
  rw [hcl] at hin
  rw [QCF hm.mi (by omega),hm.mb]
  have:((Ku x).any fun l => !Kx l (Xj (Ku x) k).cell.toNat)=false:=by
   rw [List.any_eq_false]
   intro y hy
   have hty:=(jw hx).1 hy
   have:Kx y (Xj (Ku x) k).cell.toNat=true:=List.any_eq_true.2 ⟨y.getD k ⟨0,0⟩,QKR (by rw [hty.len];exact hk),by rw [hsame y hy];simp;omega⟩
   rw [this];decide
  rw [this,Bool.and_false];decide
 ·rw [QFx hm.si (by omega)]
  have h1:KS (Ql (miV x).1) x.d.ps.n≤KS (fun k => !Kx l k) x.d.ps.n:=HD fun k hk e=>by
   rw [hm.sb,Bool.and_eq_true,List.all_eq_true] at e
   exact e.2 l hl
  have h2:=QHO (Kx l) x.d.ps.n
  omega
 ·intro h1 h2
  refine ⟨?_,by omega⟩
  refine QET hm.mi ⟨by omega,by omega⟩ fun k => ?_
  rw [hm.mb,qN]
  by_cases hk:k < x.d.ps.n
  ·have:((Ku x).any fun l => !Kx l k)=false:=by
    rw [List.any_eq_false]
    intro y hy
    have hty:=(jw hx).1 hy
    have c1:=QGP hty
    have c2:=QGX hty
    have c3:=hty.al
    have c4:=WL y (-2)
    have c5:=jY (Kx y) x.d.ps.n
    rw [QNr (p:=Kx y) (n:=x.d.ps.n) (by omega) k hk];decide
   rw [this,Bool.and_false]
  ·rw [decide_eq_false hk];rfl
theorem QNs (x:QE) (h:x.scans.n≤1000):(Q7 x).1.length≤1000:=by
 rw [QBA]
 show (cond (VI x == 0) (Vn (Ku x) x.scans.n) []).length≤1000
 cases VI x == 0
 ·simp
 ·rw [cond_true,HX];exact h
abbrev laL (x:QE):Code→St→(Ex→St→QC)→QC:=QJT [
 (13,WE (x.d.ps.n≤1000) (KC 8 [] (jJ x (miV x).1 (miV x).2.1 (Q7 x).1 0 (0:Nat)) [(True,.exit 0,zL x (miV x).2.1 (Q7 x).1 (Q9 (miV x).1 x.d.ps.n))])),
 (18,WE (VI x=0∧x.scans.n≤1000) (KC 8 [] (WV x (miV x).2.1 (Q7 x).1 (Q9 (miV x).1 x.d.ps.n) (0:Nat)) [(True,.exit 2,GX x (miV x).2.1 (Q9 (miV x).1 x.d.ps.n))]))]
abbrev laH (P:Program) (x:QE):Hnd:={ hnd (mkS P Jx) 1 with loop:=laL x }
theorem QNX (x:QE) (G:Ctx) (hrd:G.rd=none) (hG:G.n=8):Q4 (mkS Try.prog Jx) G (laH Try.prog x) (Qm Try.f7):=by
 refine QH9 (YY Ww) hrd fun c hc => ?_
 have he:Ke (Qm Try.f7)=[.loop (Qf Try.f7 0),.loop (Qf Try.f7 1)]:=by kernel_rfl
 rw [he] at hc
 simp only [List.mem_cons,List.not_mem_nil,or_false] at hc
 rcases hc with rfl|rfl
 ·have e1:laL x (.loop (Qf Try.f7 0))=WE (x.d.ps.n≤1000) (KC 8 [] (jJ x (miV x).1 (miV x).2.1 (Q7 x).1 0 (0:Nat)) [(True,.exit 0,zL x (miV x).2.1 (Q7 x).1 (Q9 (miV x).1 x.d.ps.n))]):=by kernel_rfl
  rw [e1]
  refine QCp fun hp => ?_
  refine WC (E:=mkE Try.prog Jx) rfl (Je (n0:=8) (QN Ww) (by omega) (fun s hs=>Qt (QN Ww) 3 G _ hrd) (fun s hs=>(by decide:8≤432)) ?_ (QTP x (miV x).1 (miV x).2.1 (Q7 x).1 hp) (s0:=0) (Nat.zero_le _) ?_)
  ·rintro s e J ⟨_,rfl⟩;exact (by decide:8≤432)
  ·rintro e J ⟨rfl,rfl⟩
   exact ⟨_,List.mem_cons_self,trivial,rfl,rfl⟩
 ·have e1:laL x (.loop (Qf Try.f7 1))=WE (VI x=0∧x.scans.n≤1000) (KC 8 [] (WV x (miV x).2.1 (Q7 x).1 (Q9 (miV x).1 x.d.ps.n) (0:Nat)) [(True,.exit 2,GX x (miV x).2.1 (Q9 (miV x).1 x.d.ps.n))]):=by kernel_rfl
  rw [e1]
  refine QCp fun hp => ?_
  refine WC (E:=mkE Try.prog Jx) rfl (Je (n0:=8) (QN Ww) (by omega) (fun s hs=>Qt (QN Ww) 3 G _ hrd) (fun s hs=>(by decide:8≤432)) ?_ (QSV x (miV x).2.1 (Q9 (miV x).1 x.d.ps.n) (Q7 x).1 (QNs x hp.2) (QFE hp.1).told) (s0:=0) (Nat.zero_le _) ?_)
  ·rintro s e J ⟨_,rfl⟩;exact (by decide:8≤432)
  ·rintro e J ⟨rfl,rfl⟩
   exact ⟨_,List.mem_cons_self,trivial,rfl,rfl⟩
end Go.Proofs.Ytbpffdkemeoajaa
