/- - -/
import Derived.Test.YtbpffdkemeoajaaMxzc
import Derived.Test.YtbpffdkemeoajaaMxzb
import Derived.Test.YtbpffdkemeoajaaMxza
import Derived.Test.YtbpffdkemeoajaaMxzg
import Derived.Test.YtbpffdkemeoajaaMxzf
open Go.IntKind (i64)
set_option maxRecDepth 100000
namespace Go.Proofs.Ytbpffdkemeoajaa
open Go Go.SX
def okC(x:QD)(l:List QC)(c:QC):Bool := !Jy x l c&&JB x (l++[c])
def j9(x:QD)(l:List QC):Bool := !Yn x l
def WQ(x:QD)(C:List (List QC)):Nat→List QC→List (List QC):=V0 (fun l=>QN C l.length) (okC x) (j9 x)
theorem QEZ{σ:Type}{Y:σ→List QC→σ×Bool}{f:σ→(Int→Bool)→QC→Res σ}{g:QC→List (List QC)}(hf:∀ c s h,∃ h',f s h c=match Vg Y (g c) s with
  | (s',true) => .go s' h'
  | (s',false) => .stop s' h'):∀(cs:List QC) (s:σ) (h:Int→Bool),∃ h',Jp f cs s h=match Vg Y (cs.flatMap g) s with
  | (s',true) => .go s' h'
  | (s',false) => .stop s' h'
 | [],s,h=>⟨h,rfl⟩
 | c::cs,s,h=>by
  obtain⟨h1,e⟩:=hf c s h;rw[List.flatMap_cons,QJk,Jp,e];cases e2:Vg Y (g c) s with
  | mk s' q=>
   cases q with
   | true=>exact QEZ hf cs s' h1
   | false=>exact⟨h1,rfl⟩
theorem QDf{σ:Type}(x:QD)(C:List (List QC))(Y:σ→List QC→σ×Bool):∀(d:Nat) (l:List QC) (s:σ) (h:Int→Bool),∃ h',onT x C Y d l s h=match Vg Y (WQ x C d l) s with
  | (s',true) => .go s' h'
  | (s',false) => .stop s' h'
 | 0,l,s,h=>by
  refine⟨h,?_⟩;simp only[onT,X2,WQ,V0,j9];cases Yn x l with
  | true=>rfl
  | false=>
   simp only[Bool.not_false,cond_true,Vg];cases Y s l with
   | mk s' q=>cases q<;>rfl
 | d+1,l,s,h=>by
  rw[onT];refine QEZ (g:=fun c=>cond (okC x l c) (WQ x C d (l++[c])) []) (fun c s h => ?_) _ s h;unfold Jf okC;cases Jy x l c with
  | true=>exact⟨h,rfl⟩
  | false=>
   cases JB x (l++[c])with
   | false=>exact⟨_,rfl⟩
   | true=>
    obtain⟨h1,e⟩:=QDf x C Y d (l++[c]) s (Qp c.cell true h);simp only[e,Bool.not_false,Bool.and_self,cond_true];cases Vg Y (WQ x C d (l++[c])) s with
    | mk s' q=>
     cases q with
     | true=>exact⟨_,rfl⟩
     | false=>exact⟨_,rfl⟩
structure Tru (x:QD) (C:List (List QC)) (l:List QC):Prop where
 len:l.length=x.scans.n
 can:∀ i (h:i<l.length),l[i]∈QN C i
 one:∀ i j (hi:i<j) (hj:j<l.length),l[j].cell ≠ -2→l[i].cell≠l[j].cell
 al:QM l (-2)≤x.foreign
 hang:∀ k,k<x.hang.n→VR x (x.hang.get k) (l.getD (x.hang.get k).a.toNat ⟨0,0⟩) (l.getD (x.hang.get k).b.toNat ⟨0,0⟩)=true
 lost:Yn x l=false
theorem QIG{l:List QC}{n:Int}:QM l n<1↔∀ s∈l,s.cell≠n:=by
 unfold QM;constructor
 ·intro h s hs e;have:0<l.countP fun s=>s.cell==n:=List.countP_pos_iff.2 ⟨s,hs,by simp[e]⟩
  omega
 ·intro h;have:(l.countP fun s=>s.cell==n)=0:=List.countP_eq_zero.2 fun s hs=>by simpa using h s hs
  omega
variable {l:List QC}{α:Type}{i k n j:Nat}{x y:QD}{p u:Nat→Nat}{s:QI}(a b:Rw Int)
theorem QSa{n:Int}(i:Nat):QM (l.take i) n≤QM l n:=by
 unfold QM;have:=List.Sublist.countP_le (p:=fun s:QC=>s.cell==n) (List.take_sublist i l);omega
theorem vf{l:List α}(h:i<l.length):l.take (i+1)=l.take i++[l[i]]:=by
 rw[List.take_add_one,List.getElem?_eq_getElem h];rfl
theorem QGc:JB x l=true↔∀ k,k<x.hang.n→X4 x l k=true→VR x (x.hang.get k) (l.getD (x.hang.get k).a.toNat ⟨0,0⟩) (l.getD (x.hang.get k).b.toNat ⟨0,0⟩)=true:=by
 unfold JB;rw[Option.isNone_iff_eq_none];constructor
 ·intro h k hk hm;have:=Zp h k (Nat.zero_le _) (by omega)
  simpa only [Jz,hm,Bool.true_and,Bool.not_eq_false']using this
 ·intro h;refine jG fun k _ hk => ?_;unfold Jz;cases hm:X4 x l k with
  | false=>rfl
  | true=>rw[h k (by omega) hm];rfl
theorem Gx{l:List α}{z:α}(h:k<i):(l.take i).getD k z=l.getD k z:=by
 rw[List.getD_eq_getElem?_getD,List.getD_eq_getElem?_getD,List.getElem?_take_of_lt h]
structure QIK (x:QD):Prop where
 f:0≤x.foreign
 a:∀ k,k<x.hang.n→0≤(x.hang.get k).a∧(x.hang.get k).a<x.scans.n
 b:∀ k,k<x.hang.n→0≤(x.hang.get k).b∧(x.hang.get k).b<x.scans.n
theorem QOw{C:List (List QC)}(hx:QIK x):l∈WQ x C x.scans.n []↔Tru x C l:=by
 unfold WQ;rw[QPt];simp only[List.nil_append];constructor
 ·rintro⟨t,h1,rfl,h2,h3⟩;rw[QHF]at h2;simp only[List.nil_append,okC,qbA,Bool.not_eq_true']at h2;refine⟨h1,fun i h => ?_,fun i j hi hj hc he => ?_,?_,fun k hk => ?_,by simpa[j9]using h3⟩
  ·have:=(h2 i h).1
   rwa [List.length_take,Nat.min_eq_left (by omega)]at this
  ·have hf:=(h2 j hj).2.1;unfold Jy at hf;rw[show(l[j].cell == -2)=false by simpa using hc]at hf
   have hf:QM (l.take j) l[j].cell<1:=by simpa using hf
   refine QIG.1 hf l[i] ?_ he;rw[List.mem_take_iff_getElem];exact⟨i,by omega,rfl⟩
  ·have key:∀ i,i≤l.length→QM (l.take i) (-2)≤x.foreign:=by
    intro i
    induction i with
    | zero=>intro _;simpa[QM]using hx.f
    | succ i ih=>
     intro hi;have hi:i<l.length:=hi;rw[vf hi,Wq];have hf:=(h2 i hi).2.1;unfold Jy at hf;split
     ·rename_i e;rw[e]at hf;simp at hf;omega
     ·exact ih (by omega)
   have:=key l.length (qlr _)
   rwa [List.take_length]at this
  ·have ha:=hx.a k hk;have hb:=hx.b k hk;have hm:(max (x.hang.get k).a (x.hang.get k).b).toNat<l.length:=by omega
   have hf:=(h2 _ hm).2.2;rw[←vf hm,QGc]at hf
   have:=hf k hk (by
    unfold X4;rw[List.length_take,Nat.min_eq_left (by omega)]
    simp;omega)
   rwa [Gx (by omega),Gx (by omega)]at this
 ·intro h;refine⟨l,h.len,rfl,?_,by simp[j9,h.lost]⟩
  rw[QHF];intro i hi;simp only[List.nil_append,okC,qbA,Bool.not_eq_true'];refine⟨?_,?_,?_⟩
  ·rw[List.length_take,Nat.min_eq_left (by omega)];exact h.can i hi
  ·unfold Jy;cases hc:l[i].cell == -2 with
   | true=>
    have hc:l[i].cell = -2:=by simpa using hc
    have h1:=QSa (l:=l) (n := -2) (i+1);rw[vf hi,Wq,if_pos hc]at h1;have h2:=h.al;rw[hc];simp;omega
   | false=>
    have hc:l[i].cell ≠ -2:=by simpa using hc
    have:QM (l.take i) l[i].cell<1:=QIG.2 fun s hs=>by
     obtain⟨k,hk,rfl⟩:=List.mem_take_iff_getElem.1 hs;exact h.one k i (by omega) hi hc
    simpa using this
  ·rw[←vf hi,QGc];intro k hk hm;have ha:=hx.a k hk;have hb:=hx.b k hk;unfold X4 at hm;rw[List.length_take,Nat.min_eq_left (by omega)]at hm
   have hm:max (x.hang.get k).a (x.hang.get k).b=i:=by simpa using hm
   rw[Gx (by omega),Gx (by omega)]
   exact h.hang k hk
theorem QCt{σ:Type}{f:σ→List QC→σ}{p:σ→Int}(hp:∀ s l,p (f s l)=i64.wrap (p s+1)):∀(ls:List (List QC)) (s:σ) (n:Nat),p s=n→n+ls.length<2^63→p (ls.foldl f s)=((n+ls.length:Nat):Int)
 | [],s,n,h,_=>by simpa using h
 | l::ls,s,n,h,hn=>by
  simp only[List.length_cons]at hn ⊢;rw[List.foldl_cons,QCt hp ls (f s l) (n+1) (by rw[hp,h];exact(Zg ⟨by omega,by omega⟩).trans (by omega)) (by omega)]
  omega
structure ZL (l:List QC):Prop where
 s:∀ c∈l,c.cell = -2∨0≤c.cell∧c.cell<63
theorem QCM{l:List α}{z:α}(h:i<l.length):l.getD i z∈l:=by
 rw[List.getD_eq_getElem?_getD,List.getElem?_eq_getElem h];exact List.getElem_mem h
theorem X8{l:List α}{z:α}(h:i<l.length):l.getD i z=l[i]:=by
 rw[List.getD_eq_getElem?_getD,List.getElem?_eq_getElem h];rfl
theorem QEH{l:List QC}(hl:ZL l)(k:Nat):∀ n,n≤l.length→Qu (KL l n) k=(l.take n).any fun s=>s.cell==(k:Int)
 | 0,_=>by rw[KL,HL];rfl
 | n+1,h=>by
  rw[vf (by omega),List.any_append,←QEH hl k n (by omega),KL,X8 (by omega),GM]
  have hc:=hl.s l[n] (List.getElem_mem _);cases e:l[n].cell != -2 with
  | true=>
   have e:l[n].cell ≠ -2:=by simpa using e
   have h0:0≤l[n].cell∧l[n].cell<63:=by omega
   simp only[Zd];rw[QC3 h0.1];simp only[List.any_cons,List.any_nil,Bool.or_false];congr 1
   by_cases hk:l[n].cell=(k:Int)
   ·have:k<64:=by omega
    simp[hk,this]
   ·simp[hk]
  | false=>
   have e:l[n].cell = -2:=by simpa using e
   simp[e]
theorem QIc(hl:ZL l)(k:Nat):Qu (KL l l.length) k=l.any fun s=>s.cell==(k:Int):=by
 rw[QEH hl k _ (qlr _),List.take_length]
theorem QTj{L:List (List QC)}(hL:∀ l∈L,ZL l)(all:Int)(hn:L.length<2^63):∃ s:MsS,L.foldl (fun s l=>(msY all s l).1) (0,all,0)=s∧s.1=L.length∧K4 s.2.2∧(K4 all→K4 s.2.1)∧(∀ k,Qu s.2.1 k=(Qu all k&&L.all fun l => !l.any fun s=>s.cell==(k:Int)))∧∀ k,Qu s.2.2 k=(Qu all k&&L.any fun l => !l.any fun s=>s.cell==(k:Int)):=by
 refine⟨_,rfl,?_,?_,?_,fun k => ?_,fun k => ?_⟩
 ·have:=QCt (f:=fun(s:MsS) l=>(msY all s l).1) (p:=fun s=>s.1) (fun s l=>rfl) L (0,all,0) 0 rfl (by omega)
  simpa using this
 ·have key:∀(ls:List (List QC)) (s:MsS),K4 s.2.2→K4 (ls.foldl (fun s l=>(msY all s l).1) s).2.2:=by
   intro ls
   induction ls with
   | nil=>exact fun s h=>h
   | cons l ls ih=>exact fun s _=>ih _ (Hg _)
  exact key L _ ⟨by simp,by simp⟩
 ·have key:∀(ls:List (List QC)) (s:MsS),K4 s.2.1→K4 (ls.foldl (fun s l=>(msY all s l).1) s).2.1:=by
   intro ls
   induction ls with
   | nil=>exact fun s h=>h
   | cons l ls ih=>exact fun s _=>ih _ (Hg _)
  exact fun h=>key L (0,all,0) h
 ·have key:∀(ls:List (List QC)) (s:MsS),(∀ l∈ls,ZL l)→Qu (ls.foldl (fun s l=>(msY all s l).1) s).2.1 k=(Qu s.2.1 k&&ls.all fun l => !l.any fun s=>s.cell==(k:Int)):=by
   intro ls
   induction ls with
   | nil=>intro s _;simp
   | cons l ls ih=>
    intro s h;rw[List.foldl_cons,ih _ (fun l hl=>h l (List.mem_cons_of_mem _ hl)),List.all_cons,←Bool.and_assoc];congr 1;show Qu (Jg s.2.1 (KL l l.length)) k=_;unfold Jg;rw[QJr,QIc (h l List.mem_cons_self)]
  exact key L _ hL
 ·have key:∀(ls:List (List QC)) (s:MsS),(∀ l∈ls,ZL l)→Qu (ls.foldl (fun s l=>(msY all s l).1) s).2.2 k=(Qu s.2.2 k||(Qu all k&&ls.any fun l => !l.any fun s=>s.cell==(k:Int))):=by
   intro ls
   induction ls with
   | nil=>intro s _;simp
   | cons l ls ih=>
    intro s h;rw[List.foldl_cons,ih _ (fun l hl=>h l (List.mem_cons_of_mem _ hl)),List.any_cons,Bool.and_or_distrib_left,←Bool.or_assoc];congr 1;show Qu (orN s.2.2 (Jg all (KL l l.length))) k=_;unfold orN Jg;rw[QKW,QJr,QIc (h l List.mem_cons_self)]
  have:=key L (0,all,0) hL;simpa[HL]using this
theorem QEO{l:List QC}(hl:ZL l)(f:Nat→Int){j:Nat}(hj:j<12)(k:Nat):∀ n,n≤l.length→n≤12→Qu (plL l f n j) k=(Qu (f j) k||(decide (j<n)&&((l.getD j ⟨0,0⟩).cell==(k:Int))))
 | 0,_,_=>by simp[plL]
 | n+1,h,h12=>by
  have ih:=QEO hl f hj k n (by omega) (by omega)
  rw[plL,plS];have hc:=hl.s (l.getD n ⟨0,0⟩) (QCM (by omega))
  have q12:Nat.beq j 12=false:=by
   cases hb:Nat.beq j 12 with
   | true=>have:=Nat.eq_of_beq_eq_true hb;omega
   | false=>rfl
  cases e:(l.getD n ⟨0,0⟩).cell == -2 with
  | true=>
   simp only[q12];have e:(l.getD n ⟨0,0⟩).cell = -2:=by simpa using e
   rw[ih]
   by_cases q:j=n
   ·subst q;rw[e];have:((-2:Int)==(k:Int))=false:=by rw[beq_eq_false_iff_ne];omega
    rw[this];simp
   ·rw[decide_eq_decide.2 (show j<n+1↔j<n by omega)]
  | false=>
   have e:(l.getD n ⟨0,0⟩).cell ≠ -2:=by simpa using e
   have h0:0≤(l.getD n ⟨0,0⟩).cell∧(l.getD n ⟨0,0⟩).cell<63:=by omega
   by_cases q:j=n
   ·subst q;rw[Nat.beq_refl];simp only[Zd];rw[QC3 h0.1,ih];simp only[qli,decide_false,Bool.false_and,Bool.or_false,Nat.lt_succ_self,decide_true,Bool.true_and];congr 1
    by_cases hk:(l.getD j ⟨0,0⟩).cell=(k:Int)
    ·have:k<64:=by omega
     rw[hk];simp[this]
    ·have h2:((l.getD j ⟨0,0⟩).cell==(k:Int))=false:=by simpa using hk
     rw[h2,decide_eq_false hk,Bool.and_false]
   ·have q2:Nat.beq j n=false:=by
     cases hb:Nat.beq j n with
     | true=>exact absurd (Nat.eq_of_beq_eq_true hb) q
     | false=>rfl
    simp only[q2];rw[ih,decide_eq_decide.2 (show j<n+1↔j<n by omega)]
theorem QLI{l:List QC}(f:Nat→Int)(k:Nat):∀ n,n≤l.length→n≤12→Qu (plL l f n 12) k=(Qu (f 12) k||(decide (k<n)&&((l.getD k ⟨0,0⟩).cell == -2)))
 | 0,_,_=>by simp[plL]
 | n+1,h,h12=>by
  have ih:=QLI (l:=l) f k n (by omega) (by omega)
  rw[plL,plS];cases e:(l.getD n ⟨0,0⟩).cell == -2 with
  | true=>
   have e0:Nat.beq 12 12=true:=rfl;simp only[e0,Zd];rw[QC3 (Int.natCast_nonneg _),ih]
   by_cases q:k=n
   ·subst q;have:k<64:=by omega
    rw[e,decide_eq_true this,decide_eq_true (Nat.lt_succ_self k),decide_eq_true (rfl:(k:Int)=k)];simp
   ·have:decide ((n:Int)=(k:Int))=false:=by simp;omega
    rw[this,decide_eq_decide.2 (show k<n+1↔k<n by omega),Bool.and_false,Bool.or_false]
  | false=>
   have q2:Nat.beq 12 n=false:=by
    cases hb:Nat.beq 12 n with
    | true=>have:=Nat.eq_of_beq_eq_true hb;omega
    | false=>rfl
   simp only[q2];rw[ih]
   by_cases q:k=n
   ·subst q;rw[e];simp
   ·rw[decide_eq_decide.2 (show k<n+1↔k<n by omega)]
theorem QCO{l:List QC}{f:Nat→Int}(hf:∀ j,K4 (f j)):∀ n j,K4 (plL l f n j)
 | 0,j=>hf j
 | n+1,j=>by
  rw[plL,plS];split
  ·split
   ·exact Hg _
   ·exact QCO hf n j
  ·split
   ·exact Hg _
   ·exact QCO hf n j
def plF(s:PlS)(l:List QC):PlS:=(plY s l).1
theorem QHJ{N:Nat}(h12:N≤12):∀(L:List (List QC)) (s:PlS),(∀ l∈L,ZL l∧l.length=N)→(∀ j,K4 (s.2 j)) →
  (∀ j,K4 ((L.foldl plF s).2 j))∧(∀ j,j<N→∀ k,Qu ((L.foldl plF s).2 j) k=(Qu (s.2 j) k||L.any fun l=>(l.getD j ⟨0,0⟩).cell==(k:Int)))∧∀ k,Qu ((L.foldl plF s).2 12) k=(Qu (s.2 12) k||(decide (k<N)&&L.any fun l=>(l.getD k ⟨0,0⟩).cell == -2))
 | [],s,_,h=>⟨h,fun j _ k=>by simp,fun k=>by simp⟩
 | l::L,s,h,hs=>by
  obtain⟨h1,h2⟩:=h l List.mem_cons_self;obtain⟨a1,a2,a3⟩:=QHJ h12 L (plF s l) (fun y hy=>h y (List.mem_cons_of_mem _ hy)) (QCO hs _);refine⟨a1,fun j hj k => ?_,fun k => ?_⟩
  ·rw[List.foldl_cons,a2 j hj k,List.any_cons,←Bool.or_assoc];congr 1;show Qu (plL l s.2 l.length j) k=_;rw[QEO h1 _ (by omega) _ _ (qlr _) (by omega),decide_eq_true (show j<l.length by omega),Bool.true_and]
  ·rw[List.foldl_cons,a3 k,List.any_cons]
   have e:Qu ((plF s l).2 12) k=(Qu (s.2 12) k||(decide (k<N)&&((l.getD k ⟨0,0⟩).cell == -2))):=by
    show Qu (plL l s.2 l.length 12) k=_;rw[QLI _ _ _ (qlr _) (by omega),h2]
   rw[e,Bool.or_assoc,Bool.and_or_distrib_left]
def JE(p:Nat→Bool):Nat→Nat
 | 0=>0
 | n+1=>JE p n+(p n).toNat
theorem QA6{p q:Nat→Bool}:∀{n},(∀ k,k<n→p k=true→q k=true)→JE p n≤JE q n
 | 0,_=>qlr _
 | n+1,h=>by
  have ih:=QA6 (n:=n) (fun k hk=>h k (by omega))
  have:=h n (by omega)
  simp only[JE];cases hp:p n with
  | false=>simp;omega
  | true=>rw[this hp];omega
theorem QAf{p q:Nat→Bool}(h:∀ k,k<n→p k=q k):JE p n=JE q n:=
 Nat.le_antisymm (QA6 fun k hk e=>by rw[←h k hk];exact e) (QA6 fun k hk e=>by rw[h k hk];exact e)
theorem QQ1{p:Nat→Bool}(h:∀ k,k<n→p k=false):JE p n=0:=by
 induction n with
 | zero=>rfl
 | succ n ih=>simp only[JE,h n (by omega),ih fun k hk=>h k (by omega)];rfl
theorem QFD{p:Nat→Bool}{c:Nat}(hp:p c=false):∀{n},c<n→JE (fun k=>decide (k=c)||p k) n=JE p n+1
 | n+1,h=>by
  simp only[JE]
  by_cases e:c=n
  ·subst e;rw[hp]
   have:JE (fun k=>decide (k=c)||p k) c=JE p c:=QAf fun k hk=>by
    rw[decide_eq_false (by omega),Bool.false_or]
   rw[this];simp
  ·rw[QFD hp (n:=n) (by omega),decide_eq_false (by omega),Bool.false_or];omega
def Kp(l:List QC)(k:Nat):Bool:=l.any fun s=>s.cell==(k:Int)
structure QCW (l:List QC) (n:Nat):Prop where
 s:∀ c∈l,c.cell = -2∨0≤c.cell∧c.cell<n
 one:l.Pairwise fun a b=>b.cell ≠ -2→a.cell≠b.cell
theorem QBC{n:Nat}:∀{l:List QC},QCW l n→(JE (Kp l) n:Int)=l.length-QM l (-2)
 | [],_=>by
  have:JE (Kp []) n=0:=QQ1 fun k _=>rfl;rw[this];simp[QM]
 | s::l,h=>by
  have ho:=h.one;rw[List.pairwise_cons]at ho;have ih:=QBC (l:=l) ⟨fun c hc=>h.s c (List.mem_cons_of_mem _ hc),ho.2⟩;have hs:=h.s s List.mem_cons_self
  have hcnt:QM (s::l) (-2)=QM l (-2)+if s.cell = -2 then 1 else 0:=by
   unfold QM;rw[List.countP_cons]
   by_cases e:s.cell = -2<;>simp[e]
  rw[hcnt,List.length_cons]
  by_cases e:s.cell = -2
  ·have:JE (Kp (s::l)) n=JE (Kp l) n:=QAf fun k _=>by
    have:(s.cell==(k:Int))=false:=by rw[beq_eq_false_iff_ne];omega
    simp only[Kp,List.any_cons,this,Bool.false_or]
   rw[this,ih,if_pos e];omega
  ·obtain⟨h0,h1⟩:0≤s.cell∧s.cell<n:=by omega
   obtain⟨c,hc⟩:=Int.eq_ofNat_of_zero_le h0
   have hp:Kp l c=false:=by
    unfold Kp;rw[List.any_eq_false];intro b hb q;have q:b.cell=c:=by simpa using q
    exact ho.1 b hb (by omega) (by omega)
   have:JE (Kp (s::l)) n=JE (Kp l) n+1:=by
    rw[←QFD hp (n:=n) (by omega)]
    refine QAf fun k _ => ?_;simp only[Kp,List.any_cons,hc];congr 1
    by_cases q:k=c
    ·subst q;simp
    ·have:¬ ((c:Int)=(k:Int)):=by omega
     rw[decide_eq_false q];simpa using this
   rw[this,if_neg e];omega
def KS(x:QD):List (List QC):=WQ x (Qw x x.scans.n) x.scans.n []
theorem QVQ(hx:x.ok=true):QIK x:=by
 have hg:=JU hx;refine⟨?_,fun k hk=>(hg.j k hk).2.1,fun k hk=>(hg.j k hk).2.2⟩;simp only[QD.ok,QD.sz,QX,qbA,qdE]at hx;omega
theorem QJh(hx:x.ok=true):(KS x).length<2^63:=by
 have hg:=JU hx;have hs:=hg.s
 have h:=QIC (fun l=>QN (Qw x x.scans.n) l.length) (okC x) (j9 x) (B:=37) (fun l=>by
  show(QN (Qw x x.scans.n) l.length).length≤37
  by_cases h:l.length<x.scans.n
  ·rw[Wm h];have:=jv x.d (x.scans.get l.length) x.d.ps.n;have:=hg.d.n9;simp only[YM,List.length_cons];omega
  ·rw[QBT (by rw[Yd];omega)];exact Nat.zero_le _) x.scans.n []
 have h2:37^x.scans.n≤37^12:=Nat.pow_le_pow_right (by omega) hs
 have h3:37^12<2^63:=by decide
 show(V0 _ _ _ _ _).length<_;omega
theorem Ya(hx:x.ok=true):l∈KS x↔Tru x (Qw x x.scans.n) l:=QOw (QVQ hx)
theorem QHr(h:Tru x (Qw x x.scans.n) l)(hi:i<l.length):l[i]∈YM x i:=by
 have:=h.can i hi
 rwa [Wm (by rw[←h.len];exact hi)]at this
theorem QAt{l:List QC}(h:Tru x (Qw x x.scans.n) l):∀ c∈l,(c.cell = -2∧c.turn=0)∨(0≤c.cell∧c.cell<x.d.ps.n∧0≤c.turn∧c.turn<4):=by
 intro c hc;obtain⟨i,hi,rfl⟩:=List.mem_iff_getElem.1 hc;have:=QHr h hi;simp only[YM,List.mem_cons]at this;rcases this with e|e
 ·rw[e];exact .inl ⟨rfl,rfl⟩
 ·obtain⟨k,u,h1,h2,e⟩:=QBZ e;rw[e];exact .inr ⟨by simp only;omega,by simp only;omega,by simp only;omega,by simp only;omega⟩
theorem QL4(hx:x.ok=true)(h:Tru x (Qw x x.scans.n) l):ZL l:=⟨fun c hc=>by
 have:=(JU hx).d.n9;rcases QAt h c hc with ⟨e,_⟩|⟨h1,h2,_⟩<;>omega⟩
theorem QVw(h:Tru x (Qw x x.scans.n) l):QCW l x.d.ps.n:=⟨fun c hc=>by
 rcases QAt h c hc with ⟨e,_⟩|⟨h1,h2,_⟩<;>omega,by
 rw[List.pairwise_iff_getElem];intro i j hi hj hij hc;exact h.one i j hij hj hc⟩
def Je(x:QD):Int:=cond x.ok (cond (K7 x) 11 (cond (KS x).isEmpty 6 0)) 1
theorem QDa(hn:x.d.ps.n≤9):Kn x=((2^x.d.ps.n-1:Nat):Int):=by
 unfold Kn;rw[Nat.min_eq_left (by omega),Int.one_mul]
 have e:((2:Int)^x.d.ps.n)=((2^x.d.ps.n:Nat):Int):=by simp
 have h1:2^x.d.ps.n≤2^9:=Nat.pow_le_pow_right (by omega) hn
 have h2:1≤2^x.d.ps.n:=Nat.one_le_two_pow;rw[e,Zg (n:=((2^x.d.ps.n:Nat):Int)) ⟨by omega,by omega⟩,Zg ⟨by omega,by omega⟩]
 omega
theorem QLZ(hn:x.d.ps.n≤9):K4 (Kn x):=by
 rw[QDa hn];have h1:2^x.d.ps.n≤2^9:=Nat.pow_le_pow_right (by omega) hn
 exact⟨by omega,by omega⟩
theorem QJv(hn:x.d.ps.n≤9)(k:Nat):Qu (Kn x) k=decide (k<x.d.ps.n):=by
 rw[QOd (by rw[QDa hn];omega) (QLZ hn),QDa hn,Int.toNat_natCast,Nat.testBit_two_pow_sub_one]
structure QRA (x:QD) (sure may:Int):Prop where
 si:K4 sure
 mi:K4 may
 sb:∀ k,Qu sure k=(decide (k<x.d.ps.n)&&(KS x).all fun l => !Kp l k)
 mb:∀ k,Qu may k=(decide (k<x.d.ps.n)&&(KS x).any fun l => !Kp l k)
theorem vK(x:QD):(miV x).2.2=Je x∧(Je x≠0→(miV x).1=0∧(miV x).2.1=0)∧(Je x=0→x.ok=true∧K7 x=false∧KS x≠[]∧QRA x (miV x).1 (miV x).2.1):=by
 unfold miV Je;cases ho:x.ok with
 | false=>exact⟨by trivial,fun _=>⟨by trivial,by trivial⟩,fun h=>by simp at h⟩
 | true=>
  cases hr:K7 x with
  | true=>exact⟨by trivial,fun _=>⟨by trivial,by trivial⟩,fun h=>by simp at h⟩
  | false=>
   have hn:=(JU ho).d.n9;obtain⟨h',e⟩:=QDf x (Qw x x.scans.n) (msY (Kn x)) x.scans.n [] (0,Kn x,0) noH;rw[QBS (fun _ _=>rfl)]at e;obtain⟨s,e2,s1,s2,s3,s4,s5⟩:=QTj (L:=KS x) (fun l hl=>QL4 ho ((Ya ho).1 hl)) (Kn x) (QJh ho);have e:miS x = .go s h':=by rw[←e2];exact e
   simp only[e,cond_true,cond_false];cases hL:KS x with
   | nil=>
    have:decide (s.1>0)=false:=by rw[s1,hL];rfl
    simp only[this];exact⟨by trivial,fun _=>⟨by trivial,by trivial⟩,fun h=>by simp at h⟩
   | cons l L=>
    have:decide (s.1>0)=true:=by rw[s1,hL];simp
    simp only[this];refine⟨by trivial,fun h=>absurd (by trivial) h,fun _=>⟨by trivial,by trivial,by simp,⟨s3 (QLZ hn),s2,fun k => ?_,fun k => ?_⟩⟩⟩
    ·rw[s4 k,QJv hn];rfl
    ·rw[s5 k,QJv hn];rfl
structure QOj (x:QD) (cells:List Int) (al:Int):Prop where
 len:cells.length=x.scans.n
 ci:∀ j,K4 (cells.getD j 0)
 ai:K4 al
 cb:∀ j,j<x.scans.n→∀ k,Qu (cells.getD j 0) k=(KS x).any fun l=>(l.getD j ⟨0,0⟩).cell==(k:Int)
 ab:∀ k,Qu al k=(decide (k<x.scans.n)&&(KS x).any fun l=>(l.getD k ⟨0,0⟩).cell == -2)
theorem Xk(x:QD):(QY x).2.2=Je x∧(Je x≠0→(QY x).1=[]∧(QY x).2.1=0)∧(Je x=0→QOj x (QY x).1 (QY x).2.1):=by
 unfold QY Je;cases ho:x.ok with
 | false=>exact⟨by trivial,fun _=>⟨by trivial,by trivial⟩,fun h=>by simp at h⟩
 | true=>
  cases hr:K7 x with
  | true=>exact⟨by trivial,fun _=>⟨by trivial,by trivial⟩,fun h=>by simp at h⟩
  | false=>
   obtain⟨h',e⟩:=QDf x (Qw x x.scans.n) plY x.scans.n [] (0,fun _=>0) noH;rw[QBS (fun _ _=>rfl)]at e;have e:QCh x = .go ((KS x).foldl plF (0,fun _=>0)) h':=e;simp only[e,cond_true,cond_false];have hlen:=QJh ho;have z:K4 0:=⟨by omega,by omega⟩
   have hs:=(JU ho).s;obtain⟨p1,p2,p3⟩:=QHJ hs (KS x) (0,fun _=>0) (fun l hl=>⟨QL4 ho ((Ya ho).1 hl),((Ya ho).1 hl).len⟩) (fun _=>z)
   have hc:((KS x).foldl plF (0,fun _=>0)).1=(KS x).length:=by
    have:=QCt (f:=plF) (p:=fun s=>s.1) (fun s l=>rfl) (KS x) (0,fun _=>0) 0 rfl (by omega)
    simpa using this
   generalize hS:(KS x).foldl plF (0,fun _=>0)=S at p1 p2 p3 hc;cases hL:KS x with
   | nil=>
    have:decide (S.1>0)=false:=by rw[hc,hL];rfl
    simp only[this];exact⟨by trivial,fun _=>⟨by trivial,by trivial⟩,fun h=>by simp at h⟩
   | cons l L=>
    have:decide (S.1>0)=true:=by rw[hc,hL];simp
    simp only[this]
    have get:∀ j,j<x.scans.n→((List.range x.scans.n).map S.2).getD j 0=S.2 j:=fun j hj=>by
     rw[List.getD_eq_getElem?_getD,List.getElem?_map,List.getElem?_range hj];rfl
    refine⟨by trivial,fun h=>absurd (by trivial) h,fun _=>⟨by simp,fun j => ?_,p1 12,fun j hj k => ?_,fun k => ?_⟩⟩
    ·by_cases hj:j<x.scans.n
     ·rw[get j hj];exact p1 j
     ·rw[List.getD_eq_getElem?_getD,List.getElem?_eq_none (by simp;omega)];exact z
    ·rw[get j hj,p2 j hj k,HL,Bool.false_or]
    ·rw[p3 k,HL,Bool.false_or]
def laB(x:QD):List (Nat×Blk):=(8,.cells 0 50 (JR 0 x))::JP 0 x
theorem QKo{d:Puz}{s:QI}{l:List QC}{c:Nat}{y:QC}:∀{t:Nat},y∈KC d s l c t↔y∈l∨∃ u,u<t∧Kq d s c u=true∧y=⟨c,(u:Nat)⟩
 | 0=>by simp[KC]
 | t+1=>by
  have ih:=QKo (d:=d) (s:=s) (l:=l) (c:=c) (y:=y) (t:=t);simp only[KC];cases hq:Kq d s c t with
  | false=>
   show y∈KC d s l c t↔_;rw[ih];constructor
   ·rintro(h|⟨u,h1,h2⟩)
    ·exact .inl h
    ·exact .inr ⟨u,by omega,h2⟩
   ·rintro(h|⟨u,h1,h2,h3⟩)
    ·exact .inl h
    ·have:u≠t:=fun e=>by rw[e,hq]at h2;cases h2
     exact .inr ⟨u,by omega,h2,h3⟩
  | true=>
   show y∈KC d s l c t++[(⟨c,t⟩:QC)]↔_;rw[List.mem_append,ih,List.mem_singleton];constructor
   ·rintro((h|⟨u,h1,h2⟩)|h)
    ·exact .inl h
    ·exact .inr ⟨u,by omega,h2⟩
    ·exact .inr ⟨t,by omega,hq,h⟩
   ·rintro(h|⟨u,h1,h2,h3⟩)
    ·exact .inl (.inl h)
    ·by_cases e:u=t
     ·subst e;exact .inr h3
     ·exact .inl (.inr ⟨u,by omega,h2,h3⟩)
theorem QCd{d:Puz}{s:QI}{y:QC}:∀{c:Nat},y∈Q8 d s c↔∃ k u:Nat,k<c∧u<4∧Kq d s k u=true∧y=⟨(k:Nat),(u:Nat)⟩
 | 0=>by simp[Q8]
 | c+1=>by
  simp only[Q8];rw[QKo,QCd (c:=c)];constructor
  ·rintro(⟨k,u,h1,h2⟩|⟨u,h1,h2,h3⟩)
   ·exact⟨k,u,by omega,h2⟩
   ·exact⟨c,u,by omega,h1,h2,h3⟩
  ·rintro⟨k,u,h1,h2,h3,h4⟩
   by_cases e:k=c
   ·subst e;exact .inr ⟨u,h2,h3,h4⟩
   ·exact .inl ⟨k,u,by omega,h2,h3,h4⟩
def isQ(i:Nat):Bool:=a.get i != b.get i
def XR:Bool:=((a.n:Int)==b.n)&&(QL (isQ a b) a.n 0).isNone
def isJ(k:Nat):JSt:=⟨26,[(0,.slz 0 0 a.n (.of 0)),(1,.slz 1 0 b.n (.of 0)),(5,.int false .i64 k)],Qz.blk 0 a++Qz.blk 1 b,8⟩
def QJq:Ex→List Nat
 | .normal=>[0,1,5]
 | .exit _=>[]
 | .ret=>[4]
theorem QSw(k:Nat)(g:Nat→Value):exec (mkE Try.prog K5) (hnd (mkE Try.prog K5) 0) (QZ Try.f26 0) (JSt.inst (isJ a b k) g) (KW [] QJq) =
  QB.br (decide ((↑k:Int)<(↑a.n:Int))) (QB.need (decide ((0:Int)≤(↑k:Int)∧(↑k:Int)<(↑a.n:Int))&&decide (a.n≤a.n)) (QB.need (decide (k<a.n)) (QB.need
  (decide ((0:Int)≤(↑k:Int)∧(↑k:Int)<(↑b.n:Int))&&decide (b.n≤b.n)) (QB.need (decide (k<b.n)) (QB.br (a.get k != b.get k) (QB.leaf (AV.tup [AV.nili,AV.ptr
  (26:Nat) (0:Nat) (0:Nat),AV.bool true false]) ([])) (QB.leaf (AV.tup [AV.nilp,AV.ptr (26:Nat) (0:Nat) (0:Nat),AV.slz (0:Nat) (0:Nat) a.n (Cap.of (0:Nat)),
  AV.slz (1:Nat) (0:Nat) b.n (Cap.of (0:Nat)),AV.int false i64 (i64.wrap ((↑k:Int)+(1:Int)))]) ([((0:Nat),Blk.frz [CK.int i64] a.n fun i=>
  QA.enc (a.get i)),((1:Nat),Blk.frz [CK.int i64] b.n fun i=>QA.enc (b.get i))]))))))) (QB.leaf (AV.tup [AV.ptr (0:Nat) (0:Nat) (0:Nat),AV.ptr (26:Nat) (0
  : Nat) (0:Nat)]) ([])):=by kernel_rfl
def QBd:JSt:=⟨26,[(4,.bool false false)],[],8⟩
def QA7:JSt:=⟨26,[],[],8⟩
def twR(p:Nat→Bool)(n k:Nat)(e:Ex)(J:JSt):Prop:=(e = .ret∧(QL p (n-k) k).isNone=false∧J=QBd)∨(e = .exit 0∧(QL p (n-k) k).isNone=true∧J=QA7)
theorem QNS :QO 8 [AV.bool true false] ([]) QBd=(
  some [false=false]):=by kernel_rfl
theorem QMk :QO 8 [] ([]) QA7=(
  some []):=by kernel_rfl
theorem QTI(k k':Nat):QO 8 [AV.slz (0:Nat) (0:Nat) a.n (Cap.of (0:Nat)),AV.slz (1:Nat) (0:Nat) b.n (Cap.of (0:Nat)),AV.int false i64 (i64.wrap ((↑k:Int)+(1:Int)))] ([((0:Nat),Blk.frz [CK.int i64] a.n fun i=>QA.enc (a.get i)),((1:Nat),Blk.frz [CK.int i64] b.n fun i=>QA.enc (b.get i))]) (isJ a b k')=(
  some [(0:Nat)=(0:Nat),a.n=a.n,Cap.of (0:Nat)=Cap.of (0:Nat),(0:Nat)=(0:Nat),b.n=b.n,Cap.of (0:Nat)=Cap.of (0:Nat),i64.wrap ((↑k:Int)+(1
  : Int))=(↑k':Int),a.n≤a.n,QE (1:Nat) a.n (fun i=>QA.enc (a.get i)) fun i=>QA.enc (a.get i),b.n≤b.n,QE (1:Nat) b.n (fun i=>QA.enc (b.get i)) fun i
  => QA.enc (b.get i)]):=by kernel_rfl
theorem QPZ{p:Nat→Bool}(h:k<n):(p k=true→QL p (n-k) k=some k)∧(p k=false→QL p (n-k) k=QL p (n-(k+1)) (k+1)):=by
 obtain⟨m,hm⟩:∃ m,n-k=m+1:=⟨n-k-1,by omega⟩
 rw[hm,show n-(k+1)=m by omega,QL]
 exact⟨fun e=>by rw[e],fun e=>by rw[e]⟩
theorem QRF(hl:a.n=b.n∧a.n≤1000):JD (isJ a b) (fun k=>k≤a.n) (fun k=>a.n-k) (twR (isQ a b) a.n) 8 QJq [] (mkE Try.prog K5) (fun _=>hnd (mkE Try.prog K5) 0) (QZ Try.f26 0):=by
 obtain⟨hab,hl⟩:=hl;refine⟨fun k g hk=>KF (QSw a b k g) ?_⟩;refine QK (fun h => ?_) (fun h => ?_)
 ·have h:k<a.n:=by have:=qdt h;omega
  have hf:=QPZ (p:=isQ a b) h
  repeat' refine QF (by simp;omega) ?_
  refine QK (fun hb => ?_) (fun hb => ?_)
  ·exact⟨_,.inl ⟨rfl,by rw[hf.1 hb];rfl,rfl⟩,rfl,rfl,_,QNS,⟨rfl,trivial⟩⟩
  ·refine⟨k+1,by omega,by show a.n-(k+1)<a.n-k;omega,fun e J h=>by unfold twR at h ⊢;rw[hf.2 hb];exact h,rfl,rfl,_,QTI _ _ _ (k+1),?_⟩
   repeat' first|with_reducible refine Qc ?_ ?_|exact trivial|with_reducible rfl|exact qlr _|exact qRr|exact Kr h hl|refine And.intro ?_ ?_
 ·have h:a.n≤k:=by have:=of_decide_eq_false h;omega
  exact⟨_,.inr ⟨rfl,by rw[show a.n-k=0 by omega];rfl,rfl⟩,rfl,rfl,_,QMk,trivial⟩
def twX(p:Nat→Bool)(n:Nat):List (Prop×Ex×JSt):=[((QL p n 0).isNone=false,.ret,QBd),((QL p n 0).isNone=true,.exit 0,QA7)]
abbrev isH(P:Program)(a b:Rw Int):Hnd:={ hnd (mkE P K5) 1 with loop:=fun _=>YX (a.n=b.n∧a.n≤1000) (KE 8 [] (isJ a b 0) (twX (isQ a b) a.n)) }
theorem QTy(G:Ctx)(hrd:G.rd=none)(hG:G.n=8):Q5 (mkE Try.prog K5) G (isH Try.prog a b) (Qq Try.f26):=by
 refine JT (body:=QZ Try.f26 0) (QR V6) hrd (by kernel_rfl) ?_
 refine jb fun hl => ?_;refine JX (n0:=8) (QR V6) (by omega) (fun s hs=>Qv (QR V6) 0 G _ hrd) (fun s hs=>qlr _) ?_ (QRF a b hl) (s0:=0) (Nat.zero_le _) ?_
 ·rintro s e J (⟨_,_,rfl⟩|⟨_,_,rfl⟩)<;>exact qlr _
 ·rintro e J (⟨rfl,h,rfl⟩|⟨rfl,h,rfl⟩)
  ·exact⟨_,List.mem_cons_self,h,rfl,rfl⟩
  ·exact⟨_,List.mem_cons_of_mem _ List.mem_cons_self,h,rfl,rfl⟩
def jO:WF ((Rw Int)×(Rw Int)×Unit):=fun|(a,(b,_))=>(decide (a.n≤1000∧b.n≤1000),.bool false (XR a b),[])
def QHp:FC:=wFC jO
theorem QTz(a:(Rw Int))(b:(Rw Int)):KY (mkE Try.prog K5) (isH Try.prog a b) Try.f26 (QS.vals 0 ((a,b,()):(Rw Int)×(Rw Int)×Unit)) (QS.blks 0 ((a,b,()):(Rw Int)×(Rw Int)×Unit)) 8 =
  QB.br ((↑a.n:Int) != (↑b.n:Int)) (QB.leaf (AV.bool true false) ([])) (QB.ask (a.n=b.n∧a.n≤(1000:Nat)) (QB.ask ((0:Nat)=(0:Nat)) (QB.ask (a.n=a.n)
  (QB.ask (Cap.of (0:Nat)=Cap.of (0:Nat)) (QB.ask ((0:Nat)=(0:Nat)) (QB.ask (b.n=b.n) (QB.ask (Cap.of (0:Nat)=Cap.of (0:Nat)) (QB.ask ((0:Int)=(0 :
  Int)) (QB.ask (a.n≤a.n) (QB.ask (QE (1:Nat) a.n (fun i=>QA.enc (a.get i)) fun i=>QA.enc (a.get i)) (QB.ask (b.n≤b.n) (QB.ask (QE (1:Nat) b.n (fun i
  => QA.enc (b.get i)) fun i=>QA.enc (b.get i)) (QB.both (QB.asm ((QL (isQ a b) a.n (0:Nat)).isNone=false) (QB.all (fun(g0:Nat→Value)=>QB.leaf (AV.bool
  false false) ([])))) (QB.asm ((QL (isQ a b) a.n (0:Nat)).isNone=true) (QB.all (fun(g1:Nat→Value)=>QB.leaf (AV.bool true true) ([]))))))))))))))))):=by kernel_rfl
theorem QUW:Kx (mkE Try.prog K5) (Qq Try.f26) 8 jO (fun x_=>(isH Try.prog x_.1 x_.2.1)):=by
 refine⟨?_⟩;rintro⟨a,⟨b,⟨⟩⟩⟩ hp G h1 h2;exact QTy a b G h1 h2
theorem QMx:K3 (mkE Try.prog K5) Try.f26 8 jO (fun x_=>(isH Try.prog x_.1 x_.2.1)):=by
 refine⟨?_⟩;rintro⟨a,⟨b,⟨⟩⟩⟩ hp;refine⟨⟨rfl,by simp[jO],rfl⟩,⟨?_⟩⟩
 rw[QTz a b];simp only[jO]at hp;have hp:=qdt hp;refine QK (fun h=>Ke ?_ rfl) (fun h => ?_)
 ·have:((a.n:Int)==b.n)=false:=by simpa using h
  show false=XR a b;simp only[XR,this];rfl
 ·have hab:a.n=b.n:=by simp only[bne_eq_false_iff_eq]at h;omega
  have e:((a.n:Int)==b.n)=true:=by rw[hab];simp
  refine Qa ⟨hab,hp.1⟩ ?_
  repeat' first|refine Qa (show _=_ by with_reducible rfl) ?_|refine Qa (show _≤_ from qlr _) ?_|refine Qa (show QE _ _ _ _ from qRr) ?_
  refine XQ (KQ fun h=>KN fun g => ?_) (KQ fun h=>KN fun g => ?_)
  ·exact Ke (show _=XR a b by simp only[XR,e,h];rfl) rfl
  ·exact Ke (show _=XR a b by simp only[XR,e,h];rfl) rfl
theorem QVN:QQ Try.prog 26 QHp:=
 K9 (QR V6) Try.func26 (by kernel_rfl) (by kernel_rfl) (by decide) QUW QMx
theorem QPE:XR a a=true:=by
 unfold XR;rw[jG (fun i _ _=>by simp[isQ])];simp
structure Ren (x y:QD) (o p u:Nat→Nat):Prop where
 n:y.scans.n=x.scans.n
 d:y.d=x.d
 lo:y.lost=x.lost
 fo:y.foreign=x.foreign
 op:∀ j,j<x.scans.n→p j<x.scans.n∧o (p j)=j
 po:∀ i,i<x.scans.n→o i<x.scans.n∧p (o i)=i
 u4:∀ i,u i<4
 q:∀ i,i<x.scans.n→∀ c t:Nat,c<x.d.ps.n→t<4→Kq x.d (x.scans.get i) c t=true→Kq x.d (y.scans.get (o i)) c ((t+4-u i) % 4)=true
 h:∀ k,k<y.hang.n→∃ m,m<x.hang.n∧y.hang.get k=⟨(o (x.hang.get m).a.toNat:Nat),((x.hang.get m).i+(u (x.hang.get m).a.toNat:Nat)) % 4,(o (x.hang.get m).b.toNat:Nat),((x.hang.get m).j+(u (x.hang.get m).b.toNat:Nat)) % 4⟩
def Vo(u:Nat)(s:QC):QC:=if s.cell = -2 then s else ⟨s.cell,(s.turn+4-(u:Int)) % 4⟩
theorem Xr(u:Nat)(s:QC):(Vo u s).cell=s.cell:=by unfold Vo;split<;>rfl
def JH(n:Nat)(p u:Nat→Nat)(l:List QC):List QC:=(List.range n).map fun(j:Nat)=>Vo (u (p j)) (l.getD (p j) ⟨0,0⟩)
theorem YV(n:Nat)(p u:Nat→Nat)(l:List QC):(JH n p u l).length=n:=by simp[JH]
theorem ZA(h:j<(JH n p u l).length):(JH n p u l)[j]=Vo (u (p j)) (l.getD (p j) ⟨0,0⟩):=by simp[JH]
theorem QAR(h:j<n):(JH n p u l).getD j ⟨0,0⟩=Vo (u (p j)) (l.getD (p j) ⟨0,0⟩):=by
 rw[X8 (by rw[YV];exact h),ZA]
theorem QRn(hd:y.d=x.d){i j a b a' b':Int}{s t:QC}{u v:Nat}(hu:u<4)(hv:v<4)(hi:0≤i∧i<4)(hj:0≤j∧j<4)(hs:s.cell = -2∧s.turn=0∨0≤s.cell∧0≤s.turn∧s.turn<4)(ht:t.cell = -2∧t.turn=0∨0≤t.cell∧0≤t.turn∧t.turn<4)(h:VR x ⟨a,i,b,j⟩ s t=true):VR y ⟨a',(i+(u:Nat)) % 4,b',(j+(v:Nat)) % 4⟩ (Vo u s) (Vo v t)=true:=by
 unfold VR at h ⊢;rw[hd,Xr,Xr];cases hc:(s.cell == -2)||(t.cell == -2)with
 | true=>
  rw[hc]at h;simp only[cond_true,qbA,beq_iff_eq,Bool.and_true]at h ⊢;obtain⟨h1,h2⟩:=h
  have e1:s.cell = -2:=by
   rw[qbO,beq_iff_eq,beq_iff_eq]at hc;omega
  have e2:t.cell = -2:=by omega
  refine⟨h1,?_⟩;unfold Vo;rw[if_pos e1,if_pos e2];exact h2
 | false=>
  rw[hc]at h;rw[Bool.or_eq_false_iff,beq_eq_false_iff_ne,beq_eq_false_iff_ne]at hc;obtain⟨hs0,hs1,hs2⟩:=hs.resolve_left (fun q=>hc.1 q.1);obtain⟨ht0,ht1,ht2⟩:=ht.resolve_left (fun q=>hc.2 q.1);simp only[cond_false,qbA]at h ⊢
  have es:We ⟨a',(i+(u:Nat)) % 4,b',(j+(v:Nat)) % 4⟩ (Vo u s)=We ⟨a,i,b,j⟩ s:=by
   unfold We Vo;rw[if_neg hc.1];show((i+(u:Nat)) % 4+(s.turn+4-(u:Int)) % 4).tmod 4=(i+s.turn).tmod 4;rw[Int.tmod_eq_emod_of_nonneg (by omega),Int.tmod_eq_emod_of_nonneg (by omega)]
   omega
  have et:((j+(v:Nat)) % 4+(Vo v t).turn).tmod 4=(j+t.turn).tmod 4:=by
   unfold Vo;rw[if_neg hc.2];show((j+(v:Nat)) % 4+(t.turn+4-(v:Int)) % 4).tmod 4=(j+t.turn).tmod 4;rw[Int.tmod_eq_emod_of_nonneg (by omega),Int.tmod_eq_emod_of_nonneg (by omega)]
   omega
  rw[es];exact⟨h.1,by rw[et];exact h.2⟩
theorem QBH{o:Nat→Nat}(R:Ren x y o p u)(hl:l.length=x.scans.n)(c:Nat):Kp (JH x.scans.n p u l) c=Kp l c:=by
 rw[Bool.eq_iff_iff];unfold Kp;rw[List.any_eq_true,List.any_eq_true];constructor
 ·rintro⟨s,hs,e⟩;obtain⟨j,hj,rfl⟩:=List.mem_iff_getElem.1 hs;rw[ZA,Xr]at e;rw[YV]at hj;exact⟨_,QCM (by rw[hl];exact(R.op j hj).1),e⟩
 ·rintro⟨s,hs,e⟩;obtain⟨i,hi,rfl⟩:=List.mem_iff_getElem.1 hs;obtain⟨h1,h2⟩:=R.po i (by omega)
  have hj:o i<(JH x.scans.n p u l).length:=by rw[YV];exact h1
  refine⟨_,List.getElem_mem hj,?_⟩;rw[ZA,Xr,h2,X8 hi];exact e
theorem QKE{o:Nat→Nat}(hx:x.ok=true)(R:Ren x y o p u)(ht:Tru x (Qw x x.scans.n) l):Tru y (Qw y y.scans.n) (JH x.scans.n p u l):=by
 have hl:=ht.len;have hg:=JU hx
 have hcell:∀ i,i<x.scans.n→((l.getD i ⟨0,0⟩).cell = -2∧(l.getD i ⟨0,0⟩).turn=0∨0≤(l.getD i ⟨0,0⟩).cell∧(l.getD i ⟨0,0⟩).cell<x.d.ps.n∧0≤(l.getD i ⟨0,0⟩).turn∧(l.getD i ⟨0,0⟩).turn<4):=fun i hi=>by
  rcases QAt ht _ (QCM (by omega):l.getD i ⟨0,0⟩∈l)with h|h
  ·exact .inl h
  ·exact .inr h
 have hne:∀ i j,i<x.scans.n→j<x.scans.n→i≠j→(l.getD j ⟨0,0⟩).cell ≠ -2→(l.getD i ⟨0,0⟩).cell≠(l.getD j ⟨0,0⟩).cell:=by
  intro i j hi hj hij hc;rcases Nat.lt_or_gt_of_ne hij with h|h
  ·have:=ht.one i j h (by omega)
   rw[X8 (by omega),X8 (by omega)]at *
   exact this hc
  ·have:=ht.one j i h (by omega)
   rw[X8 (by omega),X8 (by omega)]at *
   intro e;exact this (by rw[e];exact hc) e.symm
 have hone:∀ i j (hi:i<j) (hj:j<(JH x.scans.n p u l).length),(JH x.scans.n p u l)[j].cell ≠ -2→(JH x.scans.n p u l)[i].cell≠(JH x.scans.n p u l)[j].cell:=by
  intro i j hi hj hc;rw[YV]at hj;rw[ZA,ZA,Xr,Xr];rw[ZA,Xr]at hc;have h1:=R.op i (by omega)
  have h2:=R.op j hj;refine hne _ _ h1.1 h2.1 (fun e => ?_) hc;rw[e,h2.2]at h1;omega
 have hin:QCW (JH x.scans.n p u l) x.d.ps.n:=⟨fun s hs=>by
  obtain⟨j,hj,rfl⟩:=List.mem_iff_getElem.1 hs;rw[ZA,Xr];rw[YV]at hj;rcases hcell (p j) (R.op j hj).1 with h|h<;>omega,by
  rw[List.pairwise_iff_getElem];intro i j hi hj hij hc;exact hone i j hij hj hc⟩
 have hcnt:QM (JH x.scans.n p u l) (-2)=QM l (-2):=by
  have e1:=QBC hin;have e2:=QBC (QVw ht);rw[YV]at e1;rw[hl]at e2;have e3:JE (Kp (JH x.scans.n p u l)) x.d.ps.n=JE (Kp l) x.d.ps.n:=QAf fun k _=>QBH R hl k;rw[e3]at e1;omega
 refine⟨by rw[YV,R.n],fun j hj => ?_,hone,by rw[hcnt,R.fo];exact ht.al,fun k hk => ?_,?_⟩
 ·have hj':=hj;rw[YV]at hj';obtain⟨h1,h2⟩:=R.op j hj';rw[Wm (by rw[R.n];exact hj'),ZA]
  have hm:=QHr ht (i:=p j) (by omega)
  rw[←X8 (z:=⟨0,0⟩)]at hm;simp only[YM,List.mem_cons]at hm ⊢;rcases hm with e|e
  ·left;rw[e];rfl
  ·right;obtain⟨c,t,c1,c2,c3,c4⟩:=QCd.1 e;rw[R.d];refine QCd.2 ⟨c,(t+4-u (p j)) % 4,c1,Nat.mod_lt _ (by omega),?_,?_⟩
   ·have:=R.q (p j) h1 c t c1 c2 c3
    rwa [h2]at this
   ·rw[c4];unfold Vo;rw[if_neg (show ¬ ((c:Nat):Int) = -2 by omega)]
    have:=R.u4 (p j);simp only[QC.mk.injEq,true_and];omega
 ·obtain⟨m,hm,e⟩:=R.h k hk;obtain⟨hj,ha,hb⟩:=hg.j m hm;rw[e];simp only[Int.toNat_natCast];have a1:(x.hang.get m).a.toNat<x.scans.n:=by omega
  have b1:(x.hang.get m).b.toNat<x.scans.n:=by omega
  obtain⟨a2,a3⟩:=R.po _ a1;obtain⟨b2,b3⟩:=R.po _ b1;rw[QAR a2,QAR b2,a3,b3];have hv:=ht.hang m hm;have sa:=hcell _ a1;have sb:=hcell _ b1;refine QRn (a:=(x.hang.get m).a) (b:=(x.hang.get m).b) R.d (R.u4 _) (R.u4 _) ?_ ?_ (by omega) (by omega) hv
  ·have:=hj.i;omega
  ·have:=hj.j;omega
 ·have:=ht.lost;unfold Yn at this ⊢;rw[YV,hcnt,R.d,R.lo]
  rwa [hl]at this
structure YY (x y:QD) (o p u v:Nat→Nat):Prop where
 a:Ren x y o p u
 b:Ren y x p o v
 kx:x.ok=true
 ky:y.ok=true
 r:K7 y=K7 x
section
variable {x y:QD} {o p u v:Nat→Nat}
theorem Hx(E:YY x y o p u v){l:List QC}(h:l∈KS x):JH x.scans.n p u l∈KS y:=(Ya E.ky).2 (QKE E.kx E.a ((Ya E.kx).1 h))
theorem QAd(E:YY x y o p u v){l:List QC}(h:l∈KS y):JH x.scans.n o v l∈KS x:=by
 have:=(Ya E.kx).2 (QKE E.ky E.b ((Ya E.ky).1 h))
 rwa [E.a.n]at this
theorem zd(E:YY x y o p u v):Je y=Je x:=by
 unfold Je;rw[E.kx,E.ky,E.r]
 have e:(KS y).isEmpty=(KS x).isEmpty:=by
  rw[Bool.eq_iff_iff,List.isEmpty_iff,List.isEmpty_iff];constructor
  ·intro h;cases q:KS x with
   | nil=>rfl
   | cons a L=>have:=Hx E (l:=a) (by rw[q];simp);rw[h]at this;cases this
  ·intro h;cases q:KS y with
   | nil=>rfl
   | cons a L=>have:=QAd E (l:=a) (by rw[q];simp);rw[h]at this;cases this
 rw[e]
theorem QKY(E:YY x y o p u v){i:Nat}(hi:i<x.scans.n)(c:Int):((KS y).any fun l=>(l.getD (o i) ⟨0,0⟩).cell==c)=(KS x).any fun l=>(l.getD i ⟨0,0⟩).cell==c:=by
 obtain⟨h1,h2⟩:=E.a.po i hi;rw[Bool.eq_iff_iff,List.any_eq_true,List.any_eq_true];constructor
 ·rintro⟨l,hl,e⟩;exact⟨_,QAd E hl,by rw[QAR hi,Xr];exact e⟩
 ·rintro⟨l,hl,e⟩;exact⟨_,Hx E hl,by rw[QAR h1,Xr,h2];exact e⟩
theorem QF7(E:YY x y o p u v)(c:Nat):((KS y).any fun l => !Kp l c)=((KS x).any fun l => !Kp l c)∧((KS y).all fun l => !Kp l c)=((KS x).all fun l => !Kp l c):=by
 have f:∀ l∈KS x,Kp (JH x.scans.n p u l) c=Kp l c:=fun l hl=>QBH E.a ((Ya E.kx).1 hl).len c
 have g:∀ l∈KS y,Kp (JH x.scans.n o v l) c=Kp l c:=fun l hl=>by
  have:=QBH E.b ((Ya E.ky).1 hl).len c
  rwa [E.a.n]at this
 constructor
 ·rw[Bool.eq_iff_iff,List.any_eq_true,List.any_eq_true];constructor
  ·rintro⟨l,hl,e⟩;exact⟨_,QAd E hl,by rw[g l hl];exact e⟩
  ·rintro⟨l,hl,e⟩;exact⟨_,Hx E hl,by rw[f l hl];exact e⟩
 ·rw[Bool.eq_iff_iff,List.all_eq_true,List.all_eq_true];constructor
  ·intro h l hl;have:=h _ (Hx E hl)
   rwa [f l hl]at this
  ·intro h l hl;have:=h _ (QAd E hl)
   rwa [g l hl]at this
theorem QEz(E:YY x y o p u v)(he:Je x=0){i:Nat}(hi:i<x.scans.n):(QY y).1.getD (o i) 0=(QY x).1.getD i 0∧Qu (QY y).2.1 (o i)=Qu (QY x).2.1 i:=by
 have px:=(Xk x).2.2 he;have py:=(Xk y).2.2 (by rw[zd E];exact he)
 have ho:=(E.a.po i hi).1;refine⟨zn (py.ci _) (px.ci _) fun k => ?_,?_⟩
 ·rw[py.cb _ (by rw[E.a.n];exact ho),px.cb _ hi];exact QKY E hi _
 ·rw[py.ab,px.ab,decide_eq_true hi,decide_eq_true (show o i<y.scans.n by rw[E.a.n];exact ho),Bool.true_and,Bool.true_and];exact QKY E hi _
theorem QNE(E:YY x y o p u v)(he:Je x=0):(miV y).1=(miV x).1∧(miV y).2.1=(miV x).2.1:=by
 have mx:=((vK x).2.2 he).2.2.2;have my:=((vK y).2.2 (by rw[zd E];exact he)).2.2.2
 refine⟨zn my.si mx.si fun k => ?_,zn my.mi mx.mi fun k => ?_⟩
 ·rw[my.sb,mx.sb,E.a.d,(QF7 E k).2]
 ·rw[my.mb,mx.mb,E.a.d,(QF7 E k).1]
end
theorem QJg(hx:x.ok=true):x.d.play.ok=true∧∀ k,k<x.scans.n→(x.scans.get k).ok=true:=by
 simp only[QD.ok,qbA]at hx;obtain⟨_,hd,hs,_⟩:=hx;refine⟨QJP hd,fun k hk => ?_⟩;rw[QDK hd]at hs;have:=Zp (Option.isNone_iff_eq_none.1 hs) k (Nat.zero_le _) (by omega)
 simpa[XO]using this
def XY(s:QI):QI:=⟨s.left,s.up,s.right,s.down⟩
theorem QPT(h:s.ok=true):(XY s).ok=true:=by
 simp only[QI.ok,XY,qbA]at h ⊢;exact⟨h.2.2.2,h.1,h.2.1,h.2.2.1⟩
theorem QVK{d:Puz}{c t:Nat}(ht:t<4):Kq d (XY s) c ((t+4-1) % 4)=Kq d s c t:=by
 rcases(by omega:t=0∨t=1∨t=2∨t=3)with rfl|rfl|rfl|rfl<;>rfl
theorem QMq{d:Puz}{c t:Nat}(ht:t<4):Kq d s c ((t+4-3) % 4)=Kq d (XY s) c t:=by
 rcases(by omega:t=0∨t=1∨t=2∨t=3)with rfl|rfl|rfl|rfl<;>rfl
theorem QRh{i:Int}(h:0≤i∧i≤3):Ju (XY s) ((i+1) % 4)=Ju s i:=by
 rcases(by omega:i=0∨i=1∨i=2∨i=3)with rfl|rfl|rfl|rfl<;>rfl
def J4(k a i:Int):Int:=if a=k then (i+1) % 4 else i
def XS(k:Int)(j:Jn):Jn:=⟨j.a,J4 k j.a j.i,j.b,J4 k j.b j.j⟩
def Qk(x:QD)(k:Nat):QD:=QD.mk x.d (Rw.mk x.scans.n fun i=>if i=k then XY (x.scans.get i)else x.scans.get i) (Rw.mk x.hang.n fun m=>XS k (x.hang.get m)) x.lost x.foreign
theorem QHR(hx:x.ok=true)(hn:y.scans.n=x.scans.n)(hh:y.hang.n=x.hang.n)(hd:y.d=x.d)(hl:y.lost=x.lost)(hf:y.foreign=x.foreign)(hs:∀ k,k<x.scans.n→(y.scans.get k).ok=true)(hj:∀ k,k<x.hang.n→Ki y k=false):y.ok=true:=by
 simp only[QD.ok,QD.sz,qbA]at hx ⊢;obtain⟨hz,h2,_,_⟩:=hx;rw[hn,hh,hd,hl,hf];refine⟨hz,h2,?_,?_⟩
 ·have h2':y.d.ok=true:=by rw[hd];exact h2
  rw[←hd,QDK h2',jG]
  ·rfl
  ·intro k _ hk;unfold XO;rw[hs k (by omega)];rfl
 ·have e:jxO y=none:=by
   unfold jxO;exact jG fun k _ hk=>hj k (by omega)
  rw[e];rfl
theorem QJw{k a i:Int}(h:0≤i∧i≤3):0≤J4 k a i∧J4 k a i≤3:=by unfold J4;split<;>omega
theorem QBW{m:Nat}(hd:y.d=x.d)(ha:Ju (y.scans.get (y.hang.get k).a.toNat) (y.hang.get k).i=Ju (x.scans.get (x.hang.get m).a.toNat) (x.hang.get m).i)(hb:Ju (y.scans.get (y.hang.get k).b.toNat) (y.hang.get k).j=Ju (x.scans.get (x.hang.get m).b.toNat) (x.hang.get m).j):K1 y k=K1 x m:=by
 unfold K1;rw[hd,ha,hb]
theorem QGC:K7 x=true↔∃ k,k<x.hang.n∧K1 x k=true:=by
 unfold K7;constructor
 ·intro h;cases e:QL (K1 x) x.hang.n 0 with
  | none=>rw[e]at h;cases h
  | some i=>
   have:¬ ∀ k,k<x.hang.n→K1 x k=false:=fun hn=>by
    rw[jG fun k _ hk=>hn k (by omega)]at e;cases e
   rw[Classical.not_forall]at this;obtain⟨k,hk⟩:=this;rw[Classical.not_imp]at hk;exact⟨k,hk.1,by simpa using hk.2⟩
 ·rintro⟨k,hk,h⟩;cases e:QL (K1 x) x.hang.n 0 with
  | some i=>rfl
  | none=>
   have:=Zp e k (Nat.zero_le _) (by omega)
   rw[h]at this;cases this
theorem QGX(h1:∀ k,k<y.hang.n→∃ m,m<x.hang.n∧K1 y k=K1 x m)(h2:∀ m,m<x.hang.n→∃ k,k<y.hang.n∧K1 x m=K1 y k):K7 y=K7 x:=by
 rw[Bool.eq_iff_iff,QGC,QGC];constructor
 ·rintro⟨k,hk,e⟩;obtain⟨m,hm,q⟩:=h1 k hk;exact⟨m,hm,by rw[←q];exact e⟩
 ·rintro⟨m,hm,e⟩;obtain⟨k,hk,q⟩:=h2 m hm;exact⟨k,hk,by rw[←q];exact e⟩
theorem QGG{a i:Int}(ha:0≤a)(hi:0≤i∧i≤3):Ju ((Qk x k).scans.get a.toNat) (J4 k a i)=Ju (x.scans.get a.toNat) i:=by
 show Ju (if a.toNat=k then XY (x.scans.get a.toNat)else x.scans.get a.toNat) (J4 k a i)=_
 unfold J4
 by_cases h:a.toNat=k
 ·rw[if_pos h,if_pos (by omega),QRh hi]
 ·rw[if_neg h,if_neg (by omega)]
theorem QIN{N:Int}{y:Jn}:Vk N y=false↔(0≤y.a∧y.a≤N)∧(0≤y.b∧y.b≤N)∧y.a≠y.b∧(0≤y.i∧y.i≤3)∧0≤y.j∧y.j≤3:=by
 simp only[Vk,QX,Bool.or_eq_false_iff,Bool.not_eq_false',qbA,qdE,beq_eq_false_iff_ne]
theorem QME(hx:x.ok=true){m:Nat}(hm:m<x.hang.n):Vk (i64.wrap ((x.scans.n:Int)-1)) (x.hang.get m)=false:=by
 simp only[QD.ok,qbA,Bool.not_eq_true',decide_eq_false_iff_not]at hx;have h4:=hx.2.2.2
 have e:jxO x=none:=by
  cases q:jxO x with
  | none=>rfl
  | some i=>rw[q]at h4;exact absurd (Int.natCast_nonneg i) h4
 exact Zp e m (Nat.zero_le _) (by omega)
theorem QRy(hx:x.ok=true)(k:Nat):(Qk x k).ok=true:=by
 have hg:=JU hx;refine QHR hx rfl rfl rfl rfl rfl (fun i hi => ?_) fun m hm => ?_
 ·show(if i=k then XY (x.scans.get i)else x.scans.get i).ok=true
  have:=(QJg hx).2 i hi;split
  ·exact QPT this
  ·exact this
 ·have hb:=QME hx hm;have hj:=(hg.j m hm).1;show Vk (i64.wrap ((x.scans.n:Int)-1)) (XS k (x.hang.get m))=false;rw[QIN]at hb ⊢;exact⟨hb.1,hb.2.1,hb.2.2.1,QJw hj.i,QJw hj.j⟩
def one(k v:Nat)(i:Nat):Nat:=if i=k then v else 0
theorem QSh(hx:x.ok=true)(k:Nat):YY x (Qk x k) id id (one k 1) (one k 3):=by
 have hg:=JU hx;have side:=fun m (hm:m<x.hang.n)=>(⟨QGG (x:=x) (k:=k) (hg.j m hm).2.1.1 (hg.j m hm).1.i,QGG (x:=x) (k:=k) (hg.j m hm).2.2.1 (hg.j m hm).1.j⟩:_∧_)
 refine⟨⟨rfl,rfl,rfl,rfl,fun j hj=>⟨hj,rfl⟩,fun i hi=>⟨hi,rfl⟩,fun i=>by unfold one;split<;>omega,fun i hi c t hc ht hq => ?_,fun m hm=>⟨m,hm,?_⟩⟩,⟨rfl,rfl,rfl,rfl,fun j hj=>⟨hj,rfl⟩,fun i hi=>⟨hi,rfl⟩,fun i=>by unfold one;split<;>omega,fun i hi c t hc ht hq => ?_,fun m hm=>⟨m,hm,?_⟩⟩,hx,QRy hx k,QGX (fun m hm=>⟨m,hm,QBW rfl (side m hm).1 (side m hm).2⟩) fun m hm=>⟨m,hm,(QBW (x:=x) (y:=Qk x k) (k:=m) (m:=m) rfl (side m hm).1 (side m hm).2).symm⟩⟩
 ·show Kq x.d (if i=k then XY (x.scans.get i)else x.scans.get i) c ((t+4-one k 1 i) % 4)=true
  unfold one
  by_cases h:i=k
  ·rw[if_pos h,if_pos h,QVK ht];exact hq
  ·rw[if_neg h,if_neg h,show(t+4-0) % 4=t by omega];exact hq
 ·have hm:m<x.hang.n:=hm;obtain⟨hj,ha,hb⟩:=hg.j m hm;have i1:=hj.i;have j1:=hj.j;show XS k (x.hang.get m)=_;unfold XS J4 one;simp only[id,Jn.mk.injEq];refine⟨by omega,?_,by omega,?_⟩
  ·by_cases h:(x.hang.get m).a=k
   ·rw[if_pos h,if_pos (by omega)];rfl
   ·rw[if_neg h,if_neg (by omega)];omega
  ·by_cases h:(x.hang.get m).b=k
   ·rw[if_pos h,if_pos (by omega)];rfl
   ·rw[if_neg h,if_neg (by omega)];omega
 ·have hq:Kq x.d (if i=k then XY (x.scans.get i)else x.scans.get i) c t=true:=hq
  show Kq x.d (x.scans.get i) c ((t+4-one k 3 i) % 4)=true;unfold one
  by_cases h:i=k
  ·rw[if_pos h]at hq;rw[if_pos h,QMq ht];exact hq
  ·rw[if_neg h]at hq;rw[if_neg h,show(t+4-0) % 4=t by omega];exact hq
 ·obtain⟨hj,ha,hb⟩:=hg.j m hm;have i1:=hj.i;have j1:=hj.j;show x.hang.get m=⟨(((XS k (x.hang.get m)).a.toNat:Nat):Int),((XS k (x.hang.get m)).i+(one k 3 (XS k (x.hang.get m)).a.toNat:Nat)) % 4,(((XS k (x.hang.get m)).b.toNat:Nat):Int),((XS k (x.hang.get m)).j+(one k 3 (XS k (x.hang.get m)).b.toNat:Nat)) % 4⟩;generalize x.hang.get m=w at *;obtain⟨wa,wi,wb,wj⟩:=w;simp only at ha hb i1 j1;unfold XS J4 one;simp only[Jn.mk.injEq];refine⟨by omega,?_,by omega,?_⟩
  ·by_cases h:wa=k
   ·rw[if_pos h,if_pos (by omega)];omega
   ·rw[if_neg h,if_neg (by omega)];omega
  ·by_cases h:wb=k
   ·rw[if_pos h,if_pos (by omega)];omega
   ·rw[if_neg h,if_neg (by omega)];omega
def oF(n k i:Nat):Nat:=(i+k) % n
def pF(n k j:Nat):Nat:=(j+n-k) % n
theorem QJx(hi:i<n)(hk:k<n):oF n k i=if i+k<n then i+k else i+k-n:=by
 unfold oF;split
 ·rename_i h;exact Nat.mod_eq_of_lt h
 ·rename_i h;rw[Nat.mod_eq_sub_mod (by omega),Nat.mod_eq_of_lt (by omega)]
theorem QHQ(hj:j<n)(hk:k<n):pF n k j=if k≤j then j-k else j+n-k:=by
 unfold pF;split
 ·rename_i h;rw[Nat.mod_eq_sub_mod (by omega),Nat.mod_eq_of_lt (by omega)];omega
 ·rename_i h;exact Nat.mod_eq_of_lt (by omega)
theorem QAU(hj:j<n)(hk:k<n):pF n k j<n∧oF n k (pF n k j)=j:=by
 have h1:pF n k j<n:=Nat.mod_lt _ (by omega)
 refine⟨h1,?_⟩;rw[QJx h1 hk,QHQ hj hk];split<;>split<;>omega
theorem YB(hi:i<n)(hk:k<n):oF n k i<n∧pF n k (oF n k i)=i:=by
 have h1:oF n k i<n:=Nat.mod_lt _ (by omega)
 refine⟨h1,?_⟩;rw[QHQ h1 hk,QJx hi hk];split<;>split<;>omega
def X1(n k:Nat)(j:Jn):Jn:=⟨(j.a+(k:Int)) % (n:Int),j.i,(j.b+(k:Int)) % (n:Int),j.j⟩
def Qg(x:QD)(k:Nat):QD:=QD.mk x.d (Rw.mk x.scans.n fun i=>x.scans.get (pF x.scans.n k i)) (Rw.mk x.hang.n fun m=>X1 x.scans.n k (x.hang.get (x.hang.n-1-m))) x.lost x.foreign
theorem Zm{a:Int}(ha:0≤a):(a+(k:Int)) % (n:Int)=((oF n k a.toNat:Nat):Int):=by
 obtain⟨m,rfl⟩:=Int.eq_ofNat_of_zero_le ha;rw[Int.toNat_natCast];unfold oF;simp
theorem QJA(hk:k<x.scans.n){a i:Int}(ha:0≤a∧a<x.scans.n):Ju ((Qg x k).scans.get ((a+(k:Int)) % (x.scans.n:Int)).toNat) i=Ju (x.scans.get a.toNat) i:=by
 rw[Zm ha.1,Int.toNat_natCast];show Ju (x.scans.get (pF x.scans.n k (oF x.scans.n k a.toNat))) i=_;rw[(YB (by omega) hk).2]
theorem QPA(hx:x.ok=true)(hk:k<x.scans.n):(Qg x k).ok=true:=by
 have hg:=JU hx;refine QHR hx rfl rfl rfl rfl rfl (fun i hi=>(QJg hx).2 _ (QAU hi hk).1) fun m hm => ?_;have hm':x.hang.n-1-m<x.hang.n:=by omega
 have hb:=QME hx hm';obtain⟨_,ha,hb'⟩:=hg.j _ hm';have hn:x.scans.n≤12:=hg.s;show Vk (i64.wrap ((x.scans.n:Int)-1)) (X1 x.scans.n k (x.hang.get (x.hang.n-1-m)))=false;have w:i64.wrap ((x.scans.n:Int)-1)=(x.scans.n:Int)-1:=w64 (by omega) (by omega)
 rw[QIN,w]at hb ⊢;have p1:=YB (n:=x.scans.n) (k:=k) (i:=(x.hang.get (x.hang.n-1-m)).a.toNat) (by omega) hk
 have p2:=YB (n:=x.scans.n) (k:=k) (i:=(x.hang.get (x.hang.n-1-m)).b.toNat) (by omega) hk
 unfold X1;simp only;rw[Zm ha.1,Zm hb'.1];refine⟨by omega,by omega,fun e=>hb.2.2.1 ?_,hb.2.2.2⟩
 have e:oF x.scans.n k (x.hang.get (x.hang.n-1-m)).a.toNat=oF x.scans.n k (x.hang.get (x.hang.n-1-m)).b.toNat:=by omega
 rw[e,p2.2]at p1;omega
theorem QVm(hx:x.ok=true)(hk:k<x.scans.n):YY x (Qg x k) (oF x.scans.n k) (pF x.scans.n k) (fun _=>0) (fun _=>0):=by
 have hg:=JU hx;have side:=fun m (hm:m<x.hang.n)=>(⟨QJA hk (i:=(x.hang.get m).i) (hg.j m hm).2.1,QJA hk (i:=(x.hang.get m).j) (hg.j m hm).2.2⟩:_∧_);have flip:∀ m,m<x.hang.n→x.hang.n-1-m<x.hang.n∧x.hang.n-1-(x.hang.n-1-m)=m:=fun m hm=>⟨by omega,by omega⟩
 have nev:∀ m,m<x.hang.n→K1 (Qg x k) m=K1 x (x.hang.n-1-m):=fun m hm=>QBW (x:=x) (y:=Qg x k) (k:=m) (m:=x.hang.n-1-m) rfl (side _ (flip m hm).1).1 (side _ (flip m hm).1).2;refine⟨⟨rfl,rfl,rfl,rfl,fun j hj=>QAU hj hk,fun i hi=>YB hi hk,fun _=>by omega,fun i hi c t hc ht hq => ?_,fun m hm=>⟨x.hang.n-1-m,(flip m hm).1,?_⟩⟩,⟨rfl,rfl,rfl,rfl,fun j hj=>YB hj hk,fun i hi=>QAU hi hk,fun _=>by omega,fun i hi c t hc ht hq => ?_,fun m hm=>⟨x.hang.n-1-m,(flip m hm).1,?_⟩⟩,hx,QPA hx hk,QGX (fun m hm=>⟨_,(flip m hm).1,nev m hm⟩) fun m hm=>⟨_,(flip m hm).1,?_⟩⟩
 ·show Kq x.d (x.scans.get (pF x.scans.n k (oF x.scans.n k i))) c ((t+4-0) % 4)=true;rw[(YB hi hk).2,show(t+4-0) % 4=t by omega];exact hq
 ·have hm:m<x.hang.n:=hm;obtain⟨hj,ha,hb⟩:=hg.j _ (flip m hm).1;have i1:=hj.i;have j1:=hj.j;show X1 x.scans.n k (x.hang.get (x.hang.n-1-m))=_;unfold X1;rw[Zm ha.1,Zm hb.1];simp only[Jn.mk.injEq,true_and];omega
 ·have hq:Kq x.d (x.scans.get (pF x.scans.n k i)) c t=true:=hq;show Kq x.d (x.scans.get (pF x.scans.n k i)) c ((t+4-0) % 4)=true;rw[show(t+4-0) % 4=t by omega];exact hq
 ·obtain⟨hj,ha,hb⟩:=hg.j m hm;have i1:=hj.i;have j1:=hj.j;show x.hang.get m=⟨((pF x.scans.n k (X1 x.scans.n k (x.hang.get (x.hang.n-1-(x.hang.n-1-m)))).a.toNat:Nat):Int),((X1 x.scans.n k (x.hang.get (x.hang.n-1-(x.hang.n-1-m)))).i+((0:Nat):Int)) % 4,((pF x.scans.n k (X1 x.scans.n k (x.hang.get (x.hang.n-1-(x.hang.n-1-m)))).b.toNat:Nat):Int),((X1 x.scans.n k (x.hang.get (x.hang.n-1-(x.hang.n-1-m)))).j+((0:Nat):Int)) % 4⟩;rw[(flip m hm).2];unfold X1;rw[Zm ha.1,Zm hb.1,Int.toNat_natCast,Int.toNat_natCast,(YB (by omega) hk).2,(YB (by omega) hk).2]
  generalize x.hang.get m=w at *;obtain⟨wa,wi,wb,wj⟩:=w;simp only at ha hb i1 j1;simp only[Jn.mk.injEq];omega
 ·have:=nev (x.hang.n-1-m) (flip m hm).1;rw[(flip m hm).2]at this;exact this.symm
structure U8n where
 n:Int
instance : Enc U8n where
  enc x := .int false .u8 x.n
  dec v := match v with
    | .int _ .u8 n => some ⟨n⟩
    | _ => none
  ok v x h := by
    split at h <;> (try (cases h; done))
    simp only[qsI]at h; subst h; exact⟨fun _ => rfl,rfl⟩
def Ks:Tab:=Qb (Qb (Qb (Qb QIp 12 QBR) 20 (zZ QGY)) 23 (zZ miC)) 26 (zZ QHp)
theorem Xz:QV Ks:=(((QSC.add QNr).add (HH QRH)).add (HH QR0)).add (HH QVN)
end Go.Proofs.Ytbpffdkemeoajaa
