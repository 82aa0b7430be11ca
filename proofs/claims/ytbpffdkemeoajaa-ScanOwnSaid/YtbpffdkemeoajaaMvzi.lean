/- - -/
import Derived.Test.YtbpffdkemeoajaaMvzd
import Derived.Test.YtbpffdkemeoajaaMvy
import Derived.Test.YtbpffdkemeoajaaMvzh
import Derived.Test.YtbpffdkemeoajaaMvzg
import Derived.Test.YtbpffdkemeoajaaMvs
import Derived.Test.YtbpffdkemeoajaaMvp
namespace Go.Proofs.Ytbpffdkemeoajaa
open Go Go.SX
def okC(x:QE)(l:List QB)(c:QB):Bool := !JX x l c&&Ku x (l++[c])
def vW(x:QE)(l:List QB):Bool := !Yl x l
def Yq(x:QE)(C:List (List QB)):Nat→List QB→List (List QB):=Xn (fun l=>QM C l.length) (okC x) (vW x)
theorem QHo{σ:Type}{Y:σ→List QB→σ×Bool}{f:σ→(Int→Bool)→QB→Res σ}{g:QB→List (List QB)}(hf:∀ c s h,∃ h',f s h c=match Jg Y (g c) s with
  | (s',true) => .go s' h'
  | (s',false) => .stop s' h'):∀(cs:List QB) (s:σ) (h:Int→Bool),∃ h',Jt f cs s h=match Jg Y (cs.flatMap g) s with
  | (s',true) => .go s' h'
  | (s',false) => .stop s' h'
 | [],s,h=>⟨h,rfl⟩
 | c::cs,s,h=>by
  obtain⟨h1,e⟩:=hf c s h;rw[List.flatMap_cons,QMY,Jt,e];cases e2:Jg Y (g c) s with
  | mk s' q=>
   cases q with
   | true=>exact QHo hf cs s' h1
   | false=>exact⟨h1,rfl⟩
theorem QCc{σ:Type}(x:QE)(C:List (List QB))(Y:σ→List QB→σ×Bool):∀(d:Nat) (l:List QB) (s:σ) (h:Int→Bool),∃ h',onT x C Y d l s h=match Jg Y (Yq x C d l) s with
  | (s',true) => .go s' h'
  | (s',false) => .stop s' h'
 | 0,l,s,h=>by
  refine⟨h,?_⟩;simp only[onT,Vv,Yq,Xn,vW];cases Yl x l with
  | true=>rfl
  | false=>
   simp only[Bool.not_false,cond_true,Jg];cases Y s l with
   | mk s' q=>cases q<;>rfl
 | d+1,l,s,h=>by
  rw[onT];refine QHo (g:=fun c=>cond (okC x l c) (Yq x C d (l++[c])) []) (fun c s h => ?_) _ s h;unfold JG okC;cases JX x l c with
  | true=>exact⟨h,rfl⟩
  | false=>
   cases Ku x (l++[c])with
   | false=>exact⟨_,rfl⟩
   | true=>
    obtain⟨h1,e⟩:=QCc x C Y d (l++[c]) s (Ql c.cell true h);simp only[e,Bool.not_false,Bool.and_self,cond_true];cases Jg Y (Yq x C d (l++[c])) s with
    | mk s' q=>
     cases q with
     | true=>exact⟨_,rfl⟩
     | false=>exact⟨_,rfl⟩
structure Tru (x:QE) (C:List (List QB)) (l:List QB):Prop where
 len:l.length=x.scans.n
 can:∀ i (h:i<l.length),l[i]∈QM C i
 one:∀ i j (hi:i<j) (hj:j<l.length),l[j].cell ≠ -2→l[i].cell≠l[j].cell
 al:QL l (-2)≤x.foreign
 hang:∀ k,k<x.hang.n→Xz x (x.hang.get k) (l.getD (x.hang.get k).a.toNat ⟨0,0⟩) (l.getD (x.hang.get k).b.toNat ⟨0,0⟩)=true
 lost:Yl x l=false
theorem QBr{l:List QB}{n:Int}:QL l n<1↔∀ s∈l,s.cell≠n:=by
 unfold QL;constructor
 ·intro h s hs e;have:0<l.countP fun s=>s.cell==n:=List.countP_pos_iff.2 ⟨s,hs,by simp[e]⟩
  omega
 ·intro h;have:(l.countP fun s=>s.cell==n)=0:=List.countP_eq_zero.2 fun s hs=>by simpa using h s hs
  omega
variable {l:List QB}{α:Type}{i:Nat}{x:QE}
theorem QOb{n:Int}(i:Nat):QL (l.take i) n≤QL l n:=by
 unfold QL;have:=List.Sublist.countP_le (p:=fun s:QB=>s.cell==n) (List.take_sublist i l);omega
theorem Gw{l:List α}(h:i<l.length):l.take (i+1)=l.take i++[l[i]]:=by
 rw[List.take_add_one,List.getElem?_eq_getElem h];rfl
theorem QL9:Ku x l=true↔∀ k,k<x.hang.n→YY x l k=true→Xz x (x.hang.get k) (l.getD (x.hang.get k).a.toNat ⟨0,0⟩) (l.getD (x.hang.get k).b.toNat ⟨0,0⟩)=true:=by
 unfold Ku;rw[Option.isNone_iff_eq_none];constructor
 ·intro h k hk hm;have:=jb h k (Nat.zero_le _) (by omega)
  simpa only [VQ,hm,Bool.true_and,Bool.not_eq_false']using this
 ·intro h;refine Ht fun k _ hk => ?_;unfold VQ;cases hm:YY x l k with
  | false=>rfl
  | true=>rw[h k (by omega) hm];rfl
theorem Gh{l:List α}{k:Nat}{z:α}(h:k<i):(l.take i).getD k z=l.getD k z:=by
 rw[List.getD_eq_getElem?_getD,List.getD_eq_getElem?_getD,List.getElem?_take_of_lt h]
structure QK9 (x:QE):Prop where
 f:0≤x.foreign
 a:∀ k,k<x.hang.n→0≤(x.hang.get k).a∧(x.hang.get k).a<x.scans.n
 b:∀ k,k<x.hang.n→0≤(x.hang.get k).b∧(x.hang.get k).b<x.scans.n
theorem QVf{C:List (List QB)}(hx:QK9 x):l∈Yq x C x.scans.n []↔Tru x C l:=by
 unfold Yq;rw[QUS];simp only[List.nil_append];constructor
 ·rintro⟨t,h1,rfl,h2,h3⟩;rw[QJ7]at h2;simp only[List.nil_append,okC,qbA,Bool.not_eq_true']at h2;refine⟨h1,fun i h => ?_,fun i j hi hj hc he => ?_,?_,fun k hk => ?_,by simpa[vW]using h3⟩
  ·have:=(h2 i h).1
   rwa [List.length_take,Nat.min_eq_left (by omega)]at this
  ·have hf:=(h2 j hj).2.1;unfold JX at hf;rw[show(l[j].cell == -2)=false by simpa using hc]at hf
   have hf:QL (l.take j) l[j].cell<1:=by simpa using hf
   refine QBr.1 hf l[i] ?_ he;rw[List.mem_take_iff_getElem];exact⟨i,by omega,rfl⟩
  ·have key:∀ i,i≤l.length→QL (l.take i) (-2)≤x.foreign:=by
    intro i
    induction i with
    | zero=>intro _;simpa[QL]using hx.f
    | succ i ih=>
     intro hi;have hi:i<l.length:=hi;rw[Gw hi,qL];have hf:=(h2 i hi).2.1;unfold JX at hf;split
     ·rename_i e;rw[e]at hf;simp at hf;omega
     ·exact ih (by omega)
   have:=key l.length (qlr _)
   rwa [List.take_length]at this
  ·have ha:=hx.a k hk;have hb:=hx.b k hk;have hm:(max (x.hang.get k).a (x.hang.get k).b).toNat<l.length:=by omega
   have hf:=(h2 _ hm).2.2;rw[←Gw hm,QL9]at hf
   have:=hf k hk (by
    unfold YY;rw[List.length_take,Nat.min_eq_left (by omega)]
    simp;omega)
   rwa [Gh (by omega),Gh (by omega)]at this
 ·intro h;refine⟨l,h.len,rfl,?_,by simp[vW,h.lost]⟩
  rw[QJ7];intro i hi;simp only[List.nil_append,okC,qbA,Bool.not_eq_true'];refine⟨?_,?_,?_⟩
  ·rw[List.length_take,Nat.min_eq_left (by omega)];exact h.can i hi
  ·unfold JX;cases hc:l[i].cell == -2 with
   | true=>
    have hc:l[i].cell = -2:=by simpa using hc
    have h1:=QOb (l:=l) (n := -2) (i+1);rw[Gw hi,qL,if_pos hc]at h1;have h2:=h.al;rw[hc];simp;omega
   | false=>
    have hc:l[i].cell ≠ -2:=by simpa using hc
    have:QL (l.take i) l[i].cell<1:=QBr.2 fun s hs=>by
     obtain⟨k,hk,rfl⟩:=List.mem_take_iff_getElem.1 hs;exact h.one k i (by omega) hi hc
    simpa using this
  ·rw[←Gw hi,QL9];intro k hk hm;have ha:=hx.a k hk;have hb:=hx.b k hk;unfold YY at hm;rw[List.length_take,Nat.min_eq_left (by omega)]at hm
   have hm:max (x.hang.get k).a (x.hang.get k).b=i:=by simpa using hm
   rw[Gh (by omega),Gh (by omega)]
   exact h.hang k hk
theorem QIo{σ:Type}{f:σ→List QB→σ}{p:σ→Int}(hp:∀ s l,p (f s l)=IntKind.i64.wrap (p s+1)):∀(ls:List (List QB)) (s:σ) (n:Nat),p s=n→n+ls.length<2^63→p (ls.foldl f s)=((n+ls.length:Nat):Int)
 | [],s,n,h,_=>by simpa using h
 | l::ls,s,n,h,hn=>by
  simp only[List.length_cons]at hn ⊢;rw[List.foldl_cons,QIo hp ls (f s l) (n+1) (by rw[hp,h];exact(QAF ⟨by omega,by omega⟩).trans (by omega)) (by omega)]
  omega
structure QDM (l:List QB):Prop where
 s:∀ c∈l,c.cell = -2∨0≤c.cell∧c.cell<63
theorem QN9{l:List α}{z:α}(h:i<l.length):l.getD i z∈l:=by
 rw[List.getD_eq_getElem?_getD,List.getElem?_eq_getElem h];exact List.getElem_mem h
theorem QKx{l:List α}{z:α}(h:i<l.length):l.getD i z=l[i]:=by
 rw[List.getD_eq_getElem?_getD,List.getElem?_eq_getElem h];rfl
theorem QMI{l:List QB}(hl:QDM l)(f:Nat→Int){j:Nat}(hj:j<12)(k:Nat):∀ n,n≤l.length→n≤12→Ki (plL l f n j) k=(Ki (f j) k||(decide (j<n)&&((l.getD j ⟨0,0⟩).cell==(k:Int))))
 | 0,_,_=>by simp[plL]
 | n+1,h,h12=>by
  have ih:=QMI hl f hj k n (by omega) (by omega)
  rw[plL,plS];have hc:=hl.s (l.getD n ⟨0,0⟩) (QN9 (by omega))
  have q12:Nat.beq j 12=false:=by
   cases hb:Nat.beq j 12 with
   | true=>have:=Nat.eq_of_beq_eq_true hb;omega
   | false=>rfl
  cases e:(l.getD n ⟨0,0⟩).cell == -2 with
  | true=>
   simp only[q12];have e:(l.getD n ⟨0,0⟩).cell = -2:=by simpa using e
   rw[ih]
   by_cases q:j=n
   ·subst q;rw[e];have:((-2:Int)==(k:Int))=false:=by rw[beq_eq_false_iff_ne];omega
    rw[this];simp
   ·rw[decide_eq_decide.2 (show j<n+1↔j<n by omega)]
  | false=>
   have e:(l.getD n ⟨0,0⟩).cell ≠ -2:=by simpa using e
   have h0:0≤(l.getD n ⟨0,0⟩).cell∧(l.getD n ⟨0,0⟩).cell<63:=by omega
   by_cases q:j=n
   ·subst q;rw[Nat.beq_refl];simp only[Hi];rw[QFW h0.1,ih];simp only[qli,decide_false,Bool.false_and,Bool.or_false,Nat.lt_succ_self,decide_true,Bool.true_and];congr 1
    by_cases hk:(l.getD j ⟨0,0⟩).cell=(k:Int)
    ·have:k<64:=by omega
     rw[hk];simp[this]
    ·have h2:((l.getD j ⟨0,0⟩).cell==(k:Int))=false:=by simpa using hk
     rw[h2,decide_eq_false hk,Bool.and_false]
   ·have q2:Nat.beq j n=false:=by
     cases hb:Nat.beq j n with
     | true=>exact absurd (Nat.eq_of_beq_eq_true hb) q
     | false=>rfl
    simp only[q2];rw[ih,decide_eq_decide.2 (show j<n+1↔j<n by omega)]
theorem QIs{l:List QB}(f:Nat→Int)(k:Nat):∀ n,n≤l.length→n≤12→Ki (plL l f n 12) k=(Ki (f 12) k||(decide (k<n)&&((l.getD k ⟨0,0⟩).cell == -2)))
 | 0,_,_=>by simp[plL]
 | n+1,h,h12=>by
  have ih:=QIs (l:=l) f k n (by omega) (by omega)
  rw[plL,plS];cases e:(l.getD n ⟨0,0⟩).cell == -2 with
  | true=>
   have e0:Nat.beq 12 12=true:=rfl;simp only[e0,Hi];rw[QFW (Int.natCast_nonneg _),ih]
   by_cases q:k=n
   ·subst q;have:k<64:=by omega
    rw[e,decide_eq_true this,decide_eq_true (Nat.lt_succ_self k),decide_eq_true (rfl:(k:Int)=k)];simp
   ·have:decide ((n:Int)=(k:Int))=false:=by simp;omega
    rw[this,decide_eq_decide.2 (show k<n+1↔k<n by omega),Bool.and_false,Bool.or_false]
  | false=>
   have q2:Nat.beq 12 n=false:=by
    cases hb:Nat.beq 12 n with
    | true=>have:=Nat.eq_of_beq_eq_true hb;omega
    | false=>rfl
   simp only[q2];rw[ih]
   by_cases q:k=n
   ·subst q;rw[e];simp
   ·rw[decide_eq_decide.2 (show k<n+1↔k<n by omega)]
theorem QD0{l:List QB}{f:Nat→Int}(hf:∀ j,Xk (f j)):∀ n j,Xk (plL l f n j)
 | 0,j=>hf j
 | n+1,j=>by
  rw[plL,plS];split
  ·split
   ·exact QMk _
   ·exact QD0 hf n j
  ·split
   ·exact QMk _
   ·exact QD0 hf n j
def plF(s:PlS)(l:List QB):PlS:=(plY s l).1
theorem QJj{N:Nat}(h12:N≤12):∀(L:List (List QB)) (s:PlS),(∀ l∈L,QDM l∧l.length=N)→(∀ j,Xk (s.2 j)) →
  (∀ j,Xk ((L.foldl plF s).2 j))∧(∀ j,j<N→∀ k,Ki ((L.foldl plF s).2 j) k=(Ki (s.2 j) k||L.any fun l=>(l.getD j ⟨0,0⟩).cell==(k:Int)))∧∀ k,Ki ((L.foldl plF s).2 12) k=(Ki (s.2 12) k||(decide (k<N)&&L.any fun l=>(l.getD k ⟨0,0⟩).cell == -2))
 | [],s,_,h=>⟨h,fun j _ k=>by simp,fun k=>by simp⟩
 | l::L,s,h,hs=>by
  obtain⟨h1,h2⟩:=h l List.mem_cons_self;obtain⟨a1,a2,a3⟩:=QJj h12 L (plF s l) (fun y hy=>h y (List.mem_cons_of_mem _ hy)) (QD0 hs _);refine⟨a1,fun j hj k => ?_,fun k => ?_⟩
  ·rw[List.foldl_cons,a2 j hj k,List.any_cons,←Bool.or_assoc];congr 1;show Ki (plL l s.2 l.length j) k=_;rw[QMI h1 _ (by omega) _ _ (qlr _) (by omega),decide_eq_true (show j<l.length by omega),Bool.true_and]
  ·rw[List.foldl_cons,a3 k,List.any_cons]
   have e:Ki ((plF s l).2 12) k=(Ki (s.2 12) k||(decide (k<N)&&((l.getD k ⟨0,0⟩).cell == -2))):=by
    show Ki (plL l s.2 l.length 12) k=_;rw[QIs _ _ _ (qlr _) (by omega),h2]
   rw[e,Bool.or_assoc,Bool.and_or_distrib_left]
theorem QJ6:∀(L:List (List QB)) (n:Nat) (f g:List QB),2≤n→n<100→(Jg trY L ((n:Int),f,g)).1=(((min (n+L.length) 100:Nat):Int),f,g)
 | [],n,f,g,h1,h2=>by
  simp only[Jg,List.length_nil];rw[Nat.min_eq_left (by omega)];rfl
 | l::L,n,f,g,h1,h2=>by
  have w:IntKind.i64.wrap ((n:Int)+1)=((n+1:Nat):Int):=(QAF ⟨by omega,by omega⟩).trans (by omega)
  have e1:((n+1:Nat):Int)≠1:=by omega
  have e2:((n+1:Nat):Int)≠2:=by omega
  have e:trY ((n:Int),f,g) l=((((n+1:Nat):Int),f,g),!(((n+1:Nat):Int)==100)):=by
   simp only[trY,w,ZB,Zg,beq_eq_false_iff_ne.2 e1,beq_eq_false_iff_ne.2 e2]
  simp only[Jg,e]
  by_cases h:n+1=100
  ·have q:(((n+1:Nat):Int)==100)=true:=by simp;omega
   rw[q];simp only[Bool.not_true,List.length_cons];rw[Nat.min_eq_right (by omega),h]
  ·have q:(((n+1:Nat):Int)==100)=false:=by simp;omega
   rw[q];simp only[Bool.not_false];rw[QJ6 L (n+1) f g (by omega) (by omega),List.length_cons]
   congr 3;omega
theorem QTu(L:List (List QB)):(Jg trY L (0,[],[])).1=(((min L.length 100:Nat):Int),L.headD [],L.getD 1 []):=by
 match L with
 | []=>rfl
 | [l]=>rfl
 | l::l2::L=>
  have e1:trY (0,[],[]) l=((1,l,[]),true):=rfl;have e2:trY (1,l,[]) l2=((2,l,l2),true):=rfl;simp only[Jg,e1,e2];have:=QJ6 L 2 l l2 (by omega) (by omega)
  rw[show((2:Nat):Int)=2 from rfl]at this;rw[this];simp only[List.length_cons,List.headD_cons];congr 3;omega
def QFC(l:List QB)(k:Nat):Bool:=l.any fun s=>s.cell==(k:Int)
structure QWj (l:List QB) (n:Nat):Prop where
 s:∀ c∈l,c.cell = -2∨0≤c.cell∧c.cell<n
 one:l.Pairwise fun a b=>b.cell ≠ -2→a.cell≠b.cell
def JA(x:QE):List (List QB):=Yq x (Qt x x.scans.n) x.scans.n []
theorem QNk(hx:x.ok=true):QK9 x:=by
 have hg:=YF hx;refine⟨?_,fun k hk=>(hg.j k hk).2.1,fun k hk=>(hg.j k hk).2.2⟩;simp only[QE.ok,QE.sz,QY,qbA,qdE]at hx;omega
theorem QOq(hx:x.ok=true):(JA x).length<2^63:=by
 have hg:=YF hx;have hs:=hg.s
 have h:=QKT (fun l=>QM (Qt x x.scans.n) l.length) (okC x) (vW x) (B:=37) (fun l=>by
  show(QM (Qt x x.scans.n) l.length).length≤37
  by_cases h:l.length<x.scans.n
  ·rw[qY h];have:=qH x.d (x.scans.get l.length) x.d.ps.n;have:=hg.d.n9;simp only[Yv,List.length_cons];omega
  ·rw[QBO (by rw[Yx];omega)];exact Nat.zero_le _) x.scans.n []
 have h2:37^x.scans.n≤37^12:=Nat.pow_le_pow_right (by omega) hs
 have h3:37^12<2^63:=by decide
 show(Xn _ _ _ _ _).length<_;omega
theorem QB9(hx:x.ok=true):l∈JA x↔Tru x (Qt x x.scans.n) l:=QVf (QNk hx)
theorem QUw(h:Tru x (Qt x x.scans.n) l)(hi:i<l.length):l[i]∈Yv x i:=by
 have:=h.can i hi
 rwa [qY (by rw[←h.len];exact hi)]at this
theorem QQR{l:List QB}(h:Tru x (Qt x x.scans.n) l):∀ c∈l,(c.cell = -2∧c.turn=0)∨(0≤c.cell∧c.cell<x.d.ps.n∧0≤c.turn∧c.turn<4):=by
 intro c hc;obtain⟨i,hi,rfl⟩:=List.mem_iff_getElem.1 hc;have:=QUw h hi;simp only[Yv,List.mem_cons]at this;rcases this with e|e
 ·rw[e];exact .inl ⟨rfl,rfl⟩
 ·obtain⟨k,u,h1,h2,e⟩:=QDE e;rw[e];exact .inr ⟨by simp only;omega,by simp only;omega,by simp only;omega,by simp only;omega⟩
theorem QNT(hx:x.ok=true)(h:Tru x (Qt x x.scans.n) l):QDM l:=⟨fun c hc=>by
 have:=(YF hx).d.n9;rcases QQR h c hc with ⟨e,_⟩|⟨h1,h2,_⟩<;>omega⟩
def Yo(x:QE):Int:=cond x.ok (cond (VB x) 11 (cond (JA x).isEmpty 6 0)) 1
structure QWi (x:QE) (sure may:Int):Prop where
 si:Xk sure
 mi:Xk may
 sb:∀ k,Ki sure k=(decide (k<x.d.ps.n)&&(JA x).all fun l => !QFC l k)
 mb:∀ k,Ki may k=(decide (k<x.d.ps.n)&&(JA x).any fun l => !QFC l k)
structure QR3 (x:QE) (cells:List Int) (al:Int):Prop where
 len:cells.length=x.scans.n
 ci:∀ j,Xk (cells.getD j 0)
 ai:Xk al
 cb:∀ j,j<x.scans.n→∀ k,Ki (cells.getD j 0) k=(JA x).any fun l=>(l.getD j ⟨0,0⟩).cell==(k:Int)
 ab:∀ k,Ki al k=(decide (k<x.scans.n)&&(JA x).any fun l=>(l.getD k ⟨0,0⟩).cell == -2)
theorem QMd(x:QE):(KO x).2.2=Yo x∧(Yo x≠0→(KO x).1=[]∧(KO x).2.1=0)∧(Yo x=0→QR3 x (KO x).1 (KO x).2.1):=by
 unfold KO Yo;cases ho:x.ok with
 | false=>exact⟨by trivial,fun _=>⟨by trivial,by trivial⟩,fun h=>by simp at h⟩
 | true=>
  cases hr:VB x with
  | true=>exact⟨by trivial,fun _=>⟨by trivial,by trivial⟩,fun h=>by simp at h⟩
  | false=>
   obtain⟨h',e⟩:=QCc x (Qt x x.scans.n) plY x.scans.n [] (0,fun _=>0) noH;rw[QJK (fun _ _=>rfl)]at e;have e:QDT x = .go ((JA x).foldl plF (0,fun _=>0)) h':=e;simp only[e,cond_true,cond_false];have hlen:=QOq ho;have z:Xk 0:=⟨by omega,by omega⟩
   have hs:=(YF ho).s;obtain⟨p1,p2,p3⟩:=QJj hs (JA x) (0,fun _=>0) (fun l hl=>⟨QNT ho ((QB9 ho).1 hl),((QB9 ho).1 hl).len⟩) (fun _=>z)
   have hc:((JA x).foldl plF (0,fun _=>0)).1=(JA x).length:=by
    have:=QIo (f:=plF) (p:=fun s=>s.1) (fun s l=>rfl) (JA x) (0,fun _=>0) 0 rfl (by omega)
    simpa using this
   generalize hS:(JA x).foldl plF (0,fun _=>0)=S at p1 p2 p3 hc;cases hL:JA x with
   | nil=>
    have:decide (S.1>0)=false:=by rw[hc,hL];rfl
    simp only[this];exact⟨by trivial,fun _=>⟨by trivial,by trivial⟩,fun h=>by simp at h⟩
   | cons l L=>
    have:decide (S.1>0)=true:=by rw[hc,hL];simp
    simp only[this]
    have get:∀ j,j<x.scans.n→((List.range x.scans.n).map S.2).getD j 0=S.2 j:=fun j hj=>by
     rw[List.getD_eq_getElem?_getD,List.getElem?_map,List.getElem?_range hj];rfl
    refine⟨by trivial,fun h=>absurd (by trivial) h,fun _=>⟨by simp,fun j => ?_,p1 12,fun j hj k => ?_,fun k => ?_⟩⟩
    ·by_cases hj:j<x.scans.n
     ·rw[get j hj];exact p1 j
     ·rw[List.getD_eq_getElem?_getD,List.getElem?_eq_none (by simp;omega)];exact z
    ·rw[get j hj,p2 j hj k,QGK,Bool.false_or]
    ·rw[p3 k,QGK,Bool.false_or]
theorem QQm(x:QE):JS x=cond (Yo x==0) ((JA x).headD [],(JA x).getD 1 [],((min (JA x).length 100:Nat):Int),0) ([],[],0,Yo x):=by
 unfold JS Yo;cases ho:x.ok with
 | false=>rfl
 | true=>
  cases hr:VB x with
  | true=>rfl
  | false=>
   obtain⟨h',e⟩:=QCc x (Qt x x.scans.n) trY x.scans.n [] (0,[],[]) noH;change zk x=_ at e;have ha:=QTu (Yq x (Qt x x.scans.n) x.scans.n []);simp only[e,cond_true,cond_false];generalize Jg trY (Yq x (Qt x x.scans.n) x.scans.n []) (0,[],[])=S at ha;change S.1=(((min (JA x).length 100:Nat):Int),(JA x).headD [],(JA x).getD 1 [])at ha;obtain⟨⟨m,f,g⟩,q⟩:=S;simp only[qpI]at ha;obtain⟨rfl,rfl,rfl⟩:=ha;cases hL:JA x with
   | nil=>cases q<;>rfl
   | cons l L=>
    have:(((min (l::L).length 100:Nat):Int)==0)=false:=by
     rw[beq_eq_false_iff_ne,List.length_cons];omega
    cases q<;>simp only[this]<;>rfl
theorem QGL{d:Puz}{s:QG}{l:List QB}{c:Nat}{y:QB}:∀{t:Nat},y∈KK d s l c t↔y∈l∨∃ u,u<t∧Vg d s c u=true∧y=⟨c,(u:Nat)⟩
 | 0=>by simp[KK]
 | t+1=>by
  have ih:=QGL (d:=d) (s:=s) (l:=l) (c:=c) (y:=y) (t:=t);simp only[KK];cases hq:Vg d s c t with
  | false=>
   show y∈KK d s l c t↔_;rw[ih];constructor
   ·rintro(h|⟨u,h1,h2⟩)
    ·exact .inl h
    ·exact .inr ⟨u,by omega,h2⟩
   ·rintro(h|⟨u,h1,h2,h3⟩)
    ·exact .inl h
    ·have:u≠t:=fun e=>by rw[e,hq]at h2;cases h2
     exact .inr ⟨u,by omega,h2,h3⟩
  | true=>
   show y∈KK d s l c t++[(⟨c,t⟩:QB)]↔_;rw[List.mem_append,ih,List.mem_singleton];constructor
   ·rintro((h|⟨u,h1,h2⟩)|h)
    ·exact .inl h
    ·exact .inr ⟨u,by omega,h2⟩
    ·exact .inr ⟨t,by omega,hq,h⟩
   ·rintro(h|⟨u,h1,h2,h3⟩)
    ·exact .inl (.inl h)
    ·by_cases e:u=t
     ·subst e;exact .inr h3
     ·exact .inl (.inr ⟨u,by omega,h2,h3⟩)
theorem QDj{d:Puz}{s:QG}{y:QB}:∀{c:Nat},y∈KG d s c↔∃ k u:Nat,k<c∧u<4∧Vg d s k u=true∧y=⟨(k:Nat),(u:Nat)⟩
 | 0=>by simp[KG]
 | c+1=>by
  simp only[KG];rw[QGL,QDj (c:=c)];constructor
  ·rintro(⟨k,u,h1,h2⟩|⟨u,h1,h2,h3⟩)
   ·exact⟨k,u,by omega,h2⟩
   ·exact⟨c,u,by omega,h1,h2,h3⟩
  ·rintro⟨k,u,h1,h2,h3,h4⟩
   by_cases e:k=c
   ·subst e;exact .inr ⟨u,h2,h3,h4⟩
   ·exact .inl ⟨k,u,by omega,h2,h3,h4⟩
structure Qj where
 n:Int
instance : Enc Qj where
  enc x := .int false .u32 x.n
  dec v := match v with
    | .int _ .u32 n => some ⟨n⟩
    | _ => none
  ok v x h := by
    split at h <;> (try (cases h; done))
    simp only[qsI]at h; subst h; exact⟨fun _ => rfl,rfl⟩
def KZ:Tab:=Qb (Qb (Qb (Qb (Qb QK2 12 QC2) 25 (qj QKo)) 20 (qj QI8)) 13 (qj QCd)) 15 (qj QDk)
theorem YU:QV KZ:=((((QUd.add QWC).add (zR QRh)).add (zR QQS)).add (zR QHP)).add (zR QF5)
end Go.Proofs.Ytbpffdkemeoajaa
namespace Go.SX
open Go Go.RowKit Go.Proofs.Ytbpffdkemeoajaa
def G8(c:Code):Code:=match Kg c with
 | _ :: .loop b::_=>b
 | _ => .skip
end Go.SX
