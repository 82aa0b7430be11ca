/- - -/
import Derived.Test.YtbpffdkemeoajaaGreatMpzg
import Derived.Test.YtbpffdkemeoajaaGreatMpzf
import Derived.Test.YtbpffdkemeoajaaGreatMpza
import Derived.Test.YtbpffdkemeoajaaGreatMpzm
import Derived.Test.YtbpffdkemeoajaaGreatMpzk
import Derived.Test.YtbpffdkemeoajaaGreatMpzl
open Go.Proofs.Tryz
open Go.IntKind (i64)
set_option maxRecDepth 100000
namespace Go.Proofs.YtbpffdkemeoajaaGreat
open Go Go.SX
def okC(x:QD)(l:List QB)(c:QB):Bool := !JO x l c&&Kn x (l++[c])
def zL(x:QD)(l:List QB):Bool := !YF x l
def WT(x:QD)(C:List (List QB)):Nat->List QB->List (List QB):=VX (λl=>QG C l.length) (okC x) (zL x)
theorem QRb{σ:Type}{Y:σ->List QB->σ×Bool}{f:σ->(Int->Bool)->QB->Res σ}{g:QB->List (List QB)}(hf:∀ c s h,∃ h',f s h c=match VG Y (g c) s with
  | (s',true) => .go s' h'
  | (s',false) => .stop s' h'):∀(cs:List QB) (s:σ) (h:Int->Bool),∃ h',J2 f cs s h=match VG Y (cs.flatMap g) s with
  | (s',true) => .go s' h'
  | (s',false) => .stop s' h'
 | [],s,h=>⟨h,rfl⟩
 | c::cs,s,h=>by
  obtain⟨h1,e⟩:=hf c s h;rw[List.flatMap_cons,QJF,J2,e];cases e2:VG Y (g c) s with
  | mk s' q=>
   cases q with
   | true=>exact QRb hf cs s' h1
   | false=>exact⟨h1,rfl⟩
theorem HW{σ:Type}(x:QD)(C:List (List QB))(Y:σ->List QB->σ×Bool):∀(d:Nat) (l:List QB) (s:σ) (h:Int->Bool),∃ h',onT x C Y d l s h=match VG Y (WT x C d l) s with
  | (s',true) => .go s' h'
  | (s',false) => .stop s' h'
 | 0,l,s,h=>by
  refine⟨h,?_⟩;simp only[onT,J4,WT,VX,zL];cases YF x l with
  | true=>rfl
  | false=>
   simp only[Bool.not_false,cond_true,VG];cases Y s l with
   | mk s' q=>cases q<;>rfl
 | d+1,l,s,h=>by
  rw[onT];refine QRb (g:=λc=>cond (okC x l c) (WT x C d (l++[c])) []) (λc s h=>?_) _ s h;unfold Ki okC;cases JO x l c with
  | true=>exact⟨h,rfl⟩
  | false=>
   cases Kn x (l++[c])with
   | false=>exact⟨_,rfl⟩
   | true=>
    obtain⟨h1,e⟩:=HW x C Y d (l++[c]) s (Qc c.cell true h);simp only[e,Bool.not_false,Bool.and_self,cond_true];cases VG Y (WT x C d (l++[c])) s with
    | mk s' q=>
     cases q with
     | true=>exact⟨_,rfl⟩
     | false=>exact⟨_,rfl⟩
structure Tru (x:QD) (C:List (List QB)) (l:List QB):Prop where
 len:l.length=x.sK.n
 can:∀ i (h:i<l.length),l[i]∈QG C i
 one:∀ i j (hi:i<j) (hj:j<l.length),l[j].cell ≠ -2->l[i].cell≠l[j].cell
 al:QJ l (-2)<=x.fK
 hang:∀ k,k<x.hang.n->XS x (x.hang.get k) (l.getD (x.hang.get k).a.toNat ⟨0,0⟩) (l.getD (x.hang.get k).b.toNat ⟨0,0⟩)=true
 lost:YF x l=false
theorem QNt{l:List QB}{n:Int}:QJ l n<1↔∀ s∈l,s.cell≠n:=by
 unfold QJ;constructor
 .intro h s hs e;have:0<l.countP λs=>s.cell==n:=List.countP_pos_iff.2 ⟨s,hs,by simp[e]⟩
  omega
 .intro h;have:(l.countP λs=>s.cell==n)=0:=List.countP_eq_zero.2 λs hs=>by simpa using h s hs
  omega
variable {l:List QB}{α:Type}{i:Nat}{x:QD}(L:List (List QB))
theorem QLY{n:Int}(i:Nat):QJ (l.take i) n<=QJ l n:=by
 unfold QJ;have:=List.Sublist.countP_le (p:=λs:QB=>s.cell==n) (List.take_sublist i l);omega
theorem Ya{l:List α}(h:i<l.length):l.take (i+1)=l.take i++[l[i]]:=by
 rw[List.take_add_one,List.getElem?_eq_getElem h];rfl
theorem QJ5:Kn x l=true↔∀ k,k<x.hang.n->Zq x l k=true->XS x (x.hang.get k) (l.getD (x.hang.get k).a.toNat ⟨0,0⟩) (l.getD (x.hang.get k).b.toNat ⟨0,0⟩)=true:=by
 unfold Kn;rw[Option.isNone_iff_eq_none];constructor
 .intro h k hk hm;have:=QAN h k (Nat.zero_le _) (by omega)
  simpa only [V5,hm,Bool.true_and,Bool.not_eq_false']using this
 .intro h;refine Hb λk _ hk=>?_;unfold V5;cases hm:Zq x l k with
  | false=>rfl
  | true=>rw[h k (by omega) hm];rfl
theorem QBQ{l:List α}{k:Nat}{z:α}(h:k<i):(l.take i).getD k z=l.getD k z:=by
 rw[List.getD_eq_getElem?_getD,List.getD_eq_getElem?_getD,List.getElem?_take_of_lt h]
structure QQE (x:QD):Prop where
 f:0<=x.fK
 a:∀ k,k<x.hang.n->0<=(x.hang.get k).a/\(x.hang.get k).a<x.sK.n
 b:∀ k,k<x.hang.n->0<=(x.hang.get k).b/\(x.hang.get k).b<x.sK.n
theorem QcC{C:List (List QB)}(hx:QQE x):l∈WT x C x.sK.n []↔Tru x C l:=by
 unfold WT;rw[QI7];simp only[List.nil_append];constructor
 .rintro⟨t,h1,rfl,h2,h3⟩;rw[QCl]at h2;simp only[List.nil_append,okC,qbA,Bool.not_eq_true']at h2;refine⟨h1,λi h=>?_,λi j hi hj hc he=>?_,?_,λk hk=>?_,by simpa[zL]using h3⟩
  .have:=(h2 i h).1
   rwa [List.length_take,Nat.min_eq_left (by omega)]at this
  .have hf:=(h2 j hj).2.1;unfold JO at hf;rw[show(l[j].cell == -2)=false by simpa using hc]at hf
   have hf:QJ (l.take j) l[j].cell<1:=by simpa using hf
   refine QNt.1 hf l[i] ?_ he;rw[List.mem_take_iff_getElem];exact⟨i,by omega,rfl⟩
  .have key:∀ i,i<=l.length->QJ (l.take i) (-2)<=x.fK:=by
    intro i
    induction i with
    | zero=>intro _;simpa[QJ]using hx.f
    | succ i ih=>
     intro hi;have hi:i<l.length:=hi;rw[Ya hi,Z1];have hf:=(h2 i hi).2.1;unfold JO at hf;split
     .rename_i e;rw[e]at hf;simp at hf;omega
     .exact ih (by omega)
   have:=key l.length (qlr _)
   rwa [List.take_length]at this
  .have ha:=hx.a k hk;have hb:=hx.b k hk;have hm:(max (x.hang.get k).a (x.hang.get k).b).toNat<l.length:=by omega
   have hf:=(h2 _ hm).2.2;rw[<-Ya hm,QJ5]at hf
   have:=hf k hk (by
    unfold Zq;rw[List.length_take,Nat.min_eq_left (by omega)]
    simp;omega)
   rwa [QBQ (by omega),QBQ (by omega)]at this
 .intro h;refine⟨l,h.len,rfl,?_,by simp[zL,h.lost]⟩
  rw[QCl];intro i hi;simp only[List.nil_append,okC,qbA,Bool.not_eq_true'];refine⟨?_,?_,?_⟩
  .rw[List.length_take,Nat.min_eq_left (by omega)];exact h.can i hi
  .unfold JO;cases hc:l[i].cell == -2 with
   | true=>
    have hc:l[i].cell = -2:=by simpa using hc
    have h1:=QLY (l:=l) (n := -2) (i+1);rw[Ya hi,Z1,if_pos hc]at h1;have h2:=h.al;rw[hc];simp;omega
   | false=>
    have hc:l[i].cell ≠ -2:=by simpa using hc
    have:QJ (l.take i) l[i].cell<1:=QNt.2 λs hs=>by
     obtain⟨k,hk,rfl⟩:=List.mem_take_iff_getElem.1 hs;exact h.one k i (by omega) hi hc
    simpa using this
  .rw[<-Ya hi,QJ5];intro k hk hm;have ha:=hx.a k hk;have hb:=hx.b k hk;unfold Zq at hm;rw[List.length_take,Nat.min_eq_left (by omega)]at hm
   have hm:max (x.hang.get k).a (x.hang.get k).b=i:=by simpa using hm
   rw[QBQ (by omega),QBQ (by omega)]
   exact h.hang k hk
theorem QCf{σ:Type}{f:σ->List QB->σ}{p:σ->Int}(hp:∀ s l,p (f s l)=i64.wrap (p s+1)):∀(ls:List (List QB)) (s:σ) (n:Nat),p s=n->n+ls.length<2^63->p (ls.foldl f s)=((n+ls.length:Nat):Int)
 | [],s,n,h,_=>by simpa using h
 | l::ls,s,n,h,hn=>by
  simp only[List.length_cons]at hn ⊢;rw[List.foldl_cons,QCf hp ls (f s l) (n+1) (by rw[hp,h];exact(XK ⟨by omega,by omega⟩).trans (by omega)) (by omega)]
  omega
structure qq (l:List QB):Prop where
 s:∀ c∈l,c.cell = -2∨0<=c.cell/\c.cell<63
theorem QX2{l:List α}{z:α}(h:i<l.length):l.getD i z∈l:=by
 rw[List.getD_eq_getElem?_getD,List.getElem?_eq_getElem h];exact List.getElem_mem h
theorem V7{l:List α}{z:α}(h:i<l.length):l.getD i z=l[i]:=by
 rw[List.getD_eq_getElem?_getD,List.getElem?_eq_getElem h];rfl
theorem QRN{l:List QB}(hl:qq l)(k:Nat):∀ n,n<=l.length->Ql (Ku l n) k=(l.take n).any λs=>s.cell==(k:Int)
 | 0,_=>by rw[Ku,Zh];rfl
 | n+1,h=>by
  rw[Ya (by omega),List.any_append,<-QRN hl k n (by omega),Ku,V7 (by omega),QCj]
  have hc:=hl.s l[n] (List.getElem_mem _);cases e:l[n].cell != -2 with
  | true=>
   have e:l[n].cell ≠ -2:=by simpa using e
   have h0:0<=l[n].cell/\l[n].cell<63:=by omega
   simp only[Vl];rw[vB h0.1];simp only[List.any_cons,List.any_nil,Bool.or_false];congr 1
   by_cases hk:l[n].cell=(k:Int)
   .have:k<64:=by omega
    simp[hk,this]
   .simp[hk]
  | false=>
   have e:l[n].cell = -2:=by simpa using e
   simp[e]
theorem QJi(hl:qq l)(k:Nat):Ql (Ku l l.length) k=l.any λs=>s.cell==(k:Int):=by
 rw[QRN hl k _ (qlr _),List.take_length]
theorem QcQ{L:List (List QB)}(hL:∀ l∈L,qq l)(all:Int)(hn:L.length<2^63):∃ s:MsS,L.foldl (λs l=>(msY all s l).1) (0,all,0)=s/\s.1=L.length/\Kh s.2.2/\(Kh all->Kh s.2.1)/\(∀ k,Ql s.2.1 k=(Ql all k&&L.all λl=>!l.any λs=>s.cell==(k:Int)))/\∀ k,Ql s.2.2 k=(Ql all k&&L.any λl=>!l.any λs=>s.cell==(k:Int)):=by
 refine⟨_,rfl,?_,?_,?_,λk=>?_,λk=>?_⟩
 .have:=QCf (f:=λ(s:MsS) l=>(msY all s l).1) (p:=λs=>s.1) (λs l=>rfl) L (0,all,0) 0 rfl (by omega)
  simpa using this
 .have key:∀(ls:List (List QB)) (s:MsS),Kh s.2.2->Kh (ls.foldl (λs l=>(msY all s l).1) s).2.2:=by
   intro ls
   induction ls with
   | nil=>exact λs h=>h
   | cons l ls ih=>exact λs _=>ih _ (vg _)
  exact key L _ ⟨by simp,by simp⟩
 .have key:∀(ls:List (List QB)) (s:MsS),Kh s.2.1->Kh (ls.foldl (λs l=>(msY all s l).1) s).2.1:=by
   intro ls
   induction ls with
   | nil=>exact λs h=>h
   | cons l ls ih=>exact λs _=>ih _ (vg _)
  exact λh=>key L (0,all,0) h
 .have key:∀(ls:List (List QB)) (s:MsS),(∀ l∈ls,qq l)->Ql (ls.foldl (λs l=>(msY all s l).1) s).2.1 k=(Ql s.2.1 k&&ls.all λl=>!l.any λs=>s.cell==(k:Int)):=by
   intro ls
   induction ls with
   | nil=>intro s _;simp
   | cons l ls ih=>
    intro s h;rw[List.foldl_cons,ih _ (λl hl=>h l (List.mem_cons_of_mem _ hl)),List.all_cons,<-Bool.and_assoc];congr 1;show Ql (VR s.2.1 (Ku l l.length)) k=_;unfold VR;rw[QKz,QJi (h l qmc)]
  exact key L _ hL
 .have key:∀(ls:List (List QB)) (s:MsS),(∀ l∈ls,qq l)->Ql (ls.foldl (λs l=>(msY all s l).1) s).2.2 k=(Ql s.2.2 k||(Ql all k&&ls.any λl=>!l.any λs=>s.cell==(k:Int))):=by
   intro ls
   induction ls with
   | nil=>intro s _;simp
   | cons l ls ih=>
    intro s h;rw[List.foldl_cons,ih _ (λl hl=>h l (List.mem_cons_of_mem _ hl)),List.any_cons,Bool.and_or_distrib_left,<-Bool.or_assoc];congr 1;show Ql (orN s.2.2 (VR all (Ku l l.length))) k=_;unfold orN VR;rw[QQ3,QKz,QJi (h l qmc)]
  have:=key L (0,all,0) hL;simpa[Zh]using this
theorem QGP(l f:List QB)(m:Int){k:Nat}(hk:k<64):∀ n,Ql (mvL l f m n) k=(Ql m k||(decide (k<n)&&((l.getD k ⟨0,0⟩).cell != (f.getD k ⟨0,0⟩).cell)))
 | 0=>by simp[mvL]
 | n+1=>by
  have ih:=QGP l f m hk n;rw[mvL]
  by_cases e:k=n
  .subst e;rw[decide_eq_false (qli _),Bool.false_and,Bool.or_false]at ih;cases h:(l.getD k ⟨0,0⟩).cell != (f.getD k ⟨0,0⟩).cell with
   | true=>simp only[Vl];rw[vB (Int.natCast_nonneg _)];simp[hk]
   | false=>simp only[ih,Bool.and_false,Bool.or_false]
  .have e1:decide (k<n+1)=decide (k<n):=decide_eq_decide.2 (by omega)
   rw[e1,<-ih];split
   .simp only[Vl];rw[vB (Int.natCast_nonneg _)];have:decide ((n:Int)=(k:Int))=false:=by simp;omega
    rw[this];simp
   .rfl
theorem QIO(l f:List QB)(m:Int){k:Nat}(hk:k<64):∀ n,Ql (tuL l f m n) k=(Ql m k||(decide (k<n)&&Xo l f k))
 | 0=>by simp[tuL]
 | n+1=>by
  have ih:=QIO l f m hk n;rw[tuL]
  by_cases e:k=n
  .subst e;rw[decide_eq_false (qli _),Bool.false_and,Bool.or_false]at ih;cases h:Xo l f k with
   | true=>simp only[Vl];rw[vB (Int.natCast_nonneg _)];simp[hk]
   | false=>simp only[ih,Bool.and_false,Bool.or_false]
  .have e1:decide (k<n+1)=decide (k<n):=decide_eq_decide.2 (by omega)
   rw[e1,<-ih];split
   .simp only[Vl];rw[vB (Int.natCast_nonneg _)];have:decide ((n:Int)=(k:Int))=false:=by simp;omega
    rw[this];simp
   .rfl
theorem QHj(l f:List QB){m:Int}(hm:Kh m):∀ n,Kh (mvL l f m n)
 | 0=>hm
 | n+1=>by
  rw[mvL];split
  .exact vg _
  .exact QHj l f hm n
theorem QFM(l f:List QB){m:Int}(hm:Kh m):∀ n,Kh (tuL l f m n)
 | 0=>hm
 | n+1=>by
  rw[tuL];split
  .exact vg _
  .exact QFM l f hm n
def tdF(s:TdS)(l:List QB):TdS:=(tdY s l).1
theorem QMP{f:List QB}{N:Nat}:∀(L:List (List QB)) (s:TdS) (n:Nat),(∀ l∈L,l.length=N)->s.2.1=n->0<n->n+L.length<2^63->s.2.2.1=f->Kh s.2.2.2.1->Kh s.2.2.2.2 ->
  (L.foldl tdF s).2.2.1=f/\Kh (L.foldl tdF s).2.2.2.1/\Kh (L.foldl tdF s).2.2.2.2/\∀ k,k<64->k<N->Ql (L.foldl tdF s).2.2.2.1 k=(Ql s.2.2.2.1 k||L.any λl=>(l.getD k ⟨0,0⟩).cell != (f.getD k ⟨0,0⟩).cell)/\Ql (L.foldl tdF s).2.2.2.2 k=(Ql s.2.2.2.2 k||L.any λl=>Xo l f k)
 | [],s,n,_,_,_,_,hf,h1,h2=>⟨hf,h1,h2,λk _ _=>by simp⟩
 | l::L,s,n,hN,hn,hp,hL,hf,h1,h2=>by
  simp only[List.length_cons]at hL;have q:(s.2.1==0)=false:=by rw[hn];simp;omega
  have e:KQ s.2.1 l s.2.2.1=f:=by rw[KQ,q,hf]
  have hl:=hN l qmc
  obtain⟨a1,a2,a3,a4⟩:=QMP (f:=f) (N:=N) L (tdF s l) (n+1) (λy hy=>hN y (List.mem_cons_of_mem _ hy)) (by
   show i64.wrap (s.2.1+1)=_;rw[hn];exact(XK ⟨by omega,by omega⟩).trans (by omega)) (by omega) (by omega) e (QHj _ _ h1 _) (QFM _ _ h2 _)
  refine⟨a1,a2,a3,λk hk hkN=>?_⟩;obtain⟨b1,b2⟩:=a4 k hk hkN;rw[List.foldl_cons,b1,b2,List.any_cons,List.any_cons,<-Bool.or_assoc,<-Bool.or_assoc];have d1:decide (k<l.length)=true:=qde (by omega)
  constructor
  .congr 1;show Ql (mvL l (KQ s.2.1 l s.2.2.1) s.2.2.2.1 l.length) k=_;rw[e,QGP _ _ _ hk,d1,Bool.true_and]
  .congr 1;show Ql (tuL l (KQ s.2.1 l s.2.2.1) s.2.2.2.2 l.length) k=_;rw[e,QIO _ _ _ hk,d1,Bool.true_and]
theorem Qab{f:List QB}{L:List (List QB)}{N:Nat}(hN:∀ l∈f::L,l.length=N)(hL:(f::L).length<2^63):∃ s:TdS,(f::L).foldl tdF (0,0,[],0,0)=s/\s.1=(f::L).length/\s.2.2.1=f/\Kh s.2.2.2.1/\Kh s.2.2.2.2/\∀ k,k<64->k<N->Ql s.2.2.2.1 k=((f::L).any λl=>(l.getD k ⟨0,0⟩).cell != (f.getD k ⟨0,0⟩).cell)/\Ql s.2.2.2.2 k=((f::L).any λl=>Xo l f k):=by
 refine⟨_,rfl,?_,?_⟩
 .have:=QCf (f:=tdF) (p:=λs=>s.1) (λs l=>rfl) (f::L) (0,0,[],0,0) 0 rfl (by omega)
  simpa using this
 .have z:Kh 0:=⟨by omega,by omega⟩
  have e:KQ 0 f []=f:=rfl;have hf:=hN f qmc;simp only[List.length_cons]at hL;obtain⟨a1,a2,a3,a4⟩:=QMP (f:=f) (N:=N) L (tdF (0,0,[],0,0) f) 1 (λy hy=>hN y (List.mem_cons_of_mem _ hy)) rfl (by omega) (by omega) e (QHj _ _ z _) (QFM _ _ z _)
  refine⟨a1,a2,a3,λk hk hkN=>?_⟩;obtain⟨b1,b2⟩:=a4 k hk hkN;rw[List.foldl_cons,b1,b2,List.any_cons,List.any_cons];have d1:decide (k<f.length)=true:=qde (by omega)
  constructor
  .congr 1;show Ql (mvL f (KQ 0 f []) 0 f.length) k=_;rw[e,QGP _ _ _ hk,d1,Bool.true_and,Zh,Bool.false_or]
  .congr 1;show Ql (tuL f (KQ 0 f []) 0 f.length) k=_;rw[e,QIO _ _ _ hk,d1,Bool.true_and,Zh,Bool.false_or]
theorem QSY(f:List QB)(m t:Int)(k:Nat):∀ n,n<=f.length->(K0 f m t n).getD k ⟨0,0⟩=if k<n then Yg m t k (f.getD k ⟨0,0⟩)else f.getD k ⟨0,0⟩
 | 0,_=>by simp[K0]
 | n+1,h=>by
  have ih:=QSY f m t k n (by omega)
  rw[K0]
  by_cases e:k=n
  .subst e;rw[if_neg (qli _)]at ih;rw[if_pos (Nat.lt_succ_self _),List.getD_eq_getElem?_getD,List.getElem?_set_self (by rw[vC];omega),Option.getD_some,ih]
  .rw[List.getD_eq_getElem?_getD,List.getElem?_set_ne (λh=>e h.symm),<-List.getD_eq_getElem?_getD,ih]
   by_cases h2:k<n
   .rw[if_pos h2,if_pos (by omega)]
   .rw[if_neg h2,if_neg (by omega)]
def QAK(k:Nat):QB:=
 cond (L.any λl=>(l.getD k ⟨0,0⟩).cell != ((L.headD []).getD k ⟨0,0⟩).cell) ⟨-1,0⟩
  (cond (L.any λl=>Xo l (L.headD []) k) ⟨((L.headD []).getD k ⟨0,0⟩).cell,0⟩ ((L.headD []).getD k ⟨0,0⟩))
def Y9(N:Nat):List QB:=(List.range N).map (QAK L)
theorem QMq(N:Nat):(Y9 L N).length=N:=by simp[Y9]
theorem Qgf(N:Nat){k:Nat}(h:k<(Y9 L N).length):(Y9 L N)[k]=QAK L k:=by simp[Y9]
theorem QUn{f:List QB}{L:List (List QB)}{N:Nat}(h64:N<=64)(hN:∀ l∈f::L,l.length=N)(hL:(f::L).length<2^63):∃ s:TdS,(f::L).foldl tdF (0,0,[],0,0)=s/\s.1=(f::L).length/\K0 s.2.2.1 s.2.2.2.1 s.2.2.2.2 s.2.2.1.length=Y9 (f::L) N:=by
 obtain⟨s,e,h1,h2,h3,h4,h5⟩:=Qab hN hL;refine⟨s,e,h1,?_⟩;have hf:=hN f qmc;rw[h2];apply List.ext_getElem
 .rw[vC,QMq,hf]
 .intro k hk hk2;rw[vC]at hk;have:=QSY f s.2.2.2.1 s.2.2.2.2 k f.length (qlr _);rw[if_pos hk,V7 (by rw[vC];exact hk)]at this
  rw[this,Qgf];obtain⟨b1,b2⟩:=h5 k (by omega) (by omega)
  show Yg _ _ _ _=_;unfold Yg QAK;have v1:bitV s.2.2.2.1 k=Ql s.2.2.2.1 k:=Go.SX.bitV_bit h3 (by omega)
  have v2:bitV s.2.2.2.2 k=Ql s.2.2.2.2 k:=Go.SX.bitV_bit h4 (by omega)
  rw[v1,v2,b1,b2];simp only[List.headD_cons];split
  .rename_i q;rw[q];rfl
  .rename_i q;rw[q];split
   .rename_i q;rw[q];rfl
   .rename_i q;rw[q];rfl
theorem QQx{l:List QB}(hl:qq l)(f:Nat->Int){j:Nat}(hj:j<12)(k:Nat):∀ n,n<=l.length->n<=12->Ql (plL l f n j) k=(Ql (f j) k||(decide (j<n)&&((l.getD j ⟨0,0⟩).cell==(k:Int))))
 | 0,_,_=>by simp[plL]
 | n+1,h,h12=>by
  have ih:=QQx hl f hj k n (by omega) (by omega)
  rw[plL,plS];have hc:=hl.s (l.getD n ⟨0,0⟩) (QX2 (by omega))
  have q12:Nat.beq j 12=false:=by
   cases hb:Nat.beq j 12 with
   | true=>have:=qnb hb;omega
   | false=>rfl
  cases e:(l.getD n ⟨0,0⟩).cell == -2 with
  | true=>
   simp only[q12];have e:(l.getD n ⟨0,0⟩).cell = -2:=by simpa using e
   rw[ih]
   by_cases q:j=n
   .subst q;rw[e];have:((-2:Int)==(k:Int))=false:=by rw[beq_eq_false_iff_ne];omega
    rw[this];simp
   .rw[decide_eq_decide.2 (show j<n+1↔j<n by omega)]
  | false=>
   have e:(l.getD n ⟨0,0⟩).cell ≠ -2:=by simpa using e
   have h0:0<=(l.getD n ⟨0,0⟩).cell/\(l.getD n ⟨0,0⟩).cell<63:=by omega
   by_cases q:j=n
   .subst q;rw[Nat.beq_refl];simp only[Vl];rw[vB h0.1,ih];simp only[qli,decide_false,Bool.false_and,Bool.or_false,Nat.lt_succ_self,decide_true,Bool.true_and];congr 1
    by_cases hk:(l.getD j ⟨0,0⟩).cell=(k:Int)
    .have:k<64:=by omega
     rw[hk];simp[this]
    .have h2:((l.getD j ⟨0,0⟩).cell==(k:Int))=false:=by simpa using hk
     rw[h2,decide_eq_false hk,Bool.and_false]
   .have q2:Nat.beq j n=false:=by
     cases hb:Nat.beq j n with
     | true=>exact absurd (qnb hb) q
     | false=>rfl
    simp only[q2];rw[ih,decide_eq_decide.2 (show j<n+1↔j<n by omega)]
theorem QKY{l:List QB}(f:Nat->Int)(k:Nat):∀ n,n<=l.length->n<=12->Ql (plL l f n 12) k=(Ql (f 12) k||(decide (k<n)&&((l.getD k ⟨0,0⟩).cell == -2)))
 | 0,_,_=>by simp[plL]
 | n+1,h,h12=>by
  have ih:=QKY (l:=l) f k n (by omega) (by omega)
  rw[plL,plS];cases e:(l.getD n ⟨0,0⟩).cell == -2 with
  | true=>
   have e0:Nat.beq 12 12=true:=rfl;simp only[e0,Vl];rw[vB (Int.natCast_nonneg _),ih]
   by_cases q:k=n
   .subst q;have:k<64:=by omega
    rw[e,qde this,qde (Nat.lt_succ_self k),qde (rfl:(k:Int)=k)];simp
   .have:decide ((n:Int)=(k:Int))=false:=by simp;omega
    rw[this,decide_eq_decide.2 (show k<n+1↔k<n by omega),Bool.and_false,Bool.or_false]
  | false=>
   have q2:Nat.beq 12 n=false:=by
    cases hb:Nat.beq 12 n with
    | true=>have:=qnb hb;omega
    | false=>rfl
   simp only[q2];rw[ih]
   by_cases q:k=n
   .subst q;rw[e];simp
   .rw[decide_eq_decide.2 (show k<n+1↔k<n by omega)]
theorem QE4{l:List QB}{f:Nat->Int}(hf:∀ j,Kh (f j)):∀ n j,Kh (plL l f n j)
 | 0,j=>hf j
 | n+1,j=>by
  rw[plL,plS];split
  .split
   .exact vg _
   .exact QE4 hf n j
  .split
   .exact vg _
   .exact QE4 hf n j
def plF(s:PlS)(l:List QB):PlS:=(plY s l).1
theorem QON{N:Nat}(h12:N<=12):∀(L:List (List QB)) (s:PlS),(∀ l∈L,qq l/\l.length=N)->(∀ j,Kh (s.2 j)) ->
  (∀ j,Kh ((L.foldl plF s).2 j))/\(∀ j,j<N->∀ k,Ql ((L.foldl plF s).2 j) k=(Ql (s.2 j) k||L.any λl=>(l.getD j ⟨0,0⟩).cell==(k:Int)))/\∀ k,Ql ((L.foldl plF s).2 12) k=(Ql (s.2 12) k||(decide (k<N)&&L.any λl=>(l.getD k ⟨0,0⟩).cell == -2))
 | [],s,_,h=>⟨h,λj _ k=>by simp,λk=>by simp⟩
 | l::L,s,h,hs=>by
  obtain⟨h1,h2⟩:=h l qmc;obtain⟨a1,a2,a3⟩:=QON h12 L (plF s l) (λy hy=>h y (List.mem_cons_of_mem _ hy)) (QE4 hs _);refine⟨a1,λj hj k=>?_,λk=>?_⟩
  .rw[List.foldl_cons,a2 j hj k,List.any_cons,<-Bool.or_assoc];congr 1;show Ql (plL l s.2 l.length j) k=_;rw[QQx h1 _ (by omega) _ _ (qlr _) (by omega),qde (show j<l.length by omega),Bool.true_and]
  .rw[List.foldl_cons,a3 k,List.any_cons]
   have e:Ql ((plF s l).2 12) k=(Ql (s.2 12) k||(decide (k<N)&&((l.getD k ⟨0,0⟩).cell == -2))):=by
    show Ql (plL l s.2 l.length 12) k=_;rw[QKY _ _ _ (qlr _) (by omega),h2]
   rw[e,Bool.or_assoc,Bool.and_or_distrib_left]
theorem QJC:∀(L:List (List QB)) (n:Nat) (f g:List QB),2<=n->n<100->(VG trY L ((n:Int),f,g)).1=(((min (n+L.length) 100:Nat):Int),f,g)
 | [],n,f,g,h1,h2=>by
  simp only[VG,List.length_nil];rw[Nat.min_eq_left (by omega)];rfl
 | l::L,n,f,g,h1,h2=>by
  have w:i64.wrap ((n:Int)+1)=((n+1:Nat):Int):=(XK ⟨by omega,by omega⟩).trans (by omega)
  have e1:((n+1:Nat):Int)≠1:=by omega
  have e2:((n+1:Nat):Int)≠2:=by omega
  have e:trY ((n:Int),f,g) l=((((n+1:Nat):Int),f,g),!(((n+1:Nat):Int)==100)):=by
   simp only[trY,w,W9,qO,beq_eq_false_iff_ne.2 e1,beq_eq_false_iff_ne.2 e2]
  simp only[VG,e]
  by_cases h:n+1=100
  .have q:(((n+1:Nat):Int)==100)=true:=by simp;omega
   rw[q];simp only[Bool.not_true,List.length_cons];rw[Nat.min_eq_right (by omega),h]
  .have q:(((n+1:Nat):Int)==100)=false:=by simp;omega
   rw[q];simp only[Bool.not_false];rw[QJC L (n+1) f g (by omega) (by omega),List.length_cons]
   congr 3;omega
theorem Qfx:(VG trY L (0,[],[])).1=(((min L.length 100:Nat):Int),L.headD [],L.getD 1 []):=by
 match L with
 | []=>rfl
 | [l]=>rfl
 | l::l2::L=>
  have e1:trY (0,[],[]) l=((1,l,[]),true):=rfl;have e2:trY (1,l,[]) l2=((2,l,l2),true):=rfl;simp only[VG,e1,e2];have:=QJC L 2 l l2 (by omega) (by omega)
  rw[show((2:Nat):Int)=2 from rfl]at this;rw[this];simp only[List.length_cons,List.headD_cons];congr 3;omega
def XM(l:List QB)(k:Nat):Bool:=l.any λs=>s.cell==(k:Int)
structure Qg4 (l:List QB) (n:Nat):Prop where
 s:∀ c∈l,c.cell = -2∨0<=c.cell/\c.cell<n
 one:l.Pairwise λa b=>b.cell ≠ -2->a.cell≠b.cell
def Qb(x:QD):List (List QB):=WT x (Qn x x.sK.n) x.sK.n []
theorem QLN(hx:x.ok=true):QQE x:=by
 have hg:=Jo hx;refine⟨?_,λk hk=>(hg.j k hk).2.1,λk hk=>(hg.j k hk).2.2⟩;simp only[QD.ok,QD.sz,Qe,qbA,qdE]at hx;omega
theorem QFE(hx:x.ok=true):(Qb x).length<2^63:=by
 have hg:=Jo hx;have hs:=hg.s
 have h:=QDb (λl=>QG (Qn x x.sK.n) l.length) (okC x) (zL x) (B:=37) (λl=>by
  show(QG (Qn x x.sK.n) l.length).length<=37
  by_cases h:l.length<x.sK.n
  .rw[Y3 h];have:=Z9 x.d (x.sK.get l.length) x.d.ps.n;have:=hg.d.n9;simp only[K3,List.length_cons];omega
  .rw[j4 (by rw[YJ];omega)];exact Nat.zero_le _) x.sK.n []
 have h2:37^x.sK.n<=37^12:=Nat.pow_le_pow_right (by omega) hs
 have h3:37^12<2^63:=by decide
 show(VX _ _ _ _ _).length<_;omega
theorem Z4(hx:x.ok=true):l∈Qb x↔Tru x (Qn x x.sK.n) l:=QcC (QLN hx)
theorem QM1(h:Tru x (Qn x x.sK.n) l)(hi:i<l.length):l[i]∈K3 x i:=by
 have:=h.can i hi
 rwa [Y3 (by rw[<-h.len];exact hi)]at this
theorem QKf{l:List QB}(h:Tru x (Qn x x.sK.n) l):∀ c∈l,(c.cell = -2/\c.turn=0)∨(0<=c.cell/\c.cell<x.d.ps.n/\0<=c.turn/\c.turn<4):=by
 intro c hc;obtain⟨i,hi,rfl⟩:=List.mem_iff_getElem.1 hc;have:=QM1 h hi;simp only[K3,List.mem_cons]at this;rcases this with e|e
 .rw[e];exact .inl ⟨rfl,rfl⟩
 .obtain⟨k,u,h1,h2,e⟩:=zs e;rw[e];exact .inr ⟨by simp only;omega,by simp only;omega,by simp only;omega,by simp only;omega⟩
theorem QOT(hx:x.ok=true)(h:Tru x (Qn x x.sK.n) l):qq l:=⟨λc hc=>by
 have:=(Jo hx).d.n9;rcases QKf h c hc with ⟨e,_⟩|⟨h1,h2,_⟩<;>omega⟩
def Qo(x:QD):Int:=cond x.ok (cond (Ky x) 11 (cond (Qb x).isEmpty 6 0)) 1
theorem QFW(hn:x.d.ps.n<=9):JV x=((2^x.d.ps.n-1:Nat):Int):=by
 unfold JV;rw[Nat.min_eq_left (by omega),Int.one_mul]
 have e:((2:Int)^x.d.ps.n)=((2^x.d.ps.n:Nat):Int):=by simp
 have h1:2^x.d.ps.n<=2^9:=Nat.pow_le_pow_right (by omega) hn
 have h2:1<=2^x.d.ps.n:=Nat.one_le_two_pow;rw[e,XK (n:=((2^x.d.ps.n:Nat):Int)) ⟨by omega,by omega⟩,XK ⟨by omega,by omega⟩]
 omega
theorem QQS(hn:x.d.ps.n<=9):Kh (JV x):=by
 rw[QFW hn];have h1:2^x.d.ps.n<=2^9:=Nat.pow_le_pow_right (by omega) hn
 exact⟨by omega,by omega⟩
theorem QKd(hn:x.d.ps.n<=9)(k:Nat):Ql (JV x) k=decide (k<x.d.ps.n):=by
 rw[QEo (by rw[QFW hn];omega) (QQS hn),QFW hn,Int.toNat_natCast,Nat.testBit_two_pow_sub_one]
theorem zu(h:Qo x=0):x.ok=true/\Ky x=false/\Qb x≠[]:=by
 unfold Qo at h;cases ho:x.ok with
 | false=>rw[ho]at h;simp at h
 | true=>
  cases hr:Ky x with
  | true=>rw[ho,hr]at h;simp at h
  | false=>
   refine⟨rfl,rfl,λe=>?_⟩;rw[ho,hr,e]at h;simp at h
structure QXQ (x:QD) (sure may:Int):Prop where
 si:Kh sure
 mi:Kh may
 sb:∀ k,Ql sure k=(decide (k<x.d.ps.n)&&(Qb x).all λl=>!XM l k)
 mb:∀ k,Ql may k=(decide (k<x.d.ps.n)&&(Qb x).any λl=>!XM l k)
theorem QRs(x:QD):(miV x).2.2=Qo x/\(Qo x≠0->(miV x).1=0/\(miV x).2.1=0)/\(Qo x=0->x.ok=true/\Ky x=false/\Qb x≠[]/\QXQ x (miV x).1 (miV x).2.1):=by
 unfold miV Qo;cases ho:x.ok with
 | false=>exact⟨by trivial,λ_=>⟨by trivial,by trivial⟩,λh=>by simp at h⟩
 | true=>
  cases hr:Ky x with
  | true=>exact⟨by trivial,λ_=>⟨by trivial,by trivial⟩,λh=>by simp at h⟩
  | false=>
   have hn:=(Jo ho).d.n9;obtain⟨h',e⟩:=HW x (Qn x x.sK.n) (msY (JV x)) x.sK.n [] (0,JV x,0) noH;rw[QEP (λ_ _=>rfl)]at e;obtain⟨s,e2,s1,s2,s3,s4,s5⟩:=QcQ (L:=Qb x) (λl hl=>QOT ho ((Z4 ho).1 hl)) (JV x) (QFE ho);have e:miS x = .go s h':=by rw[<-e2];exact e
   simp only[e,cond_true,cond_false];cases hL:Qb x with
   | nil=>
    have:decide (s.1>0)=false:=by rw[s1,hL];rfl
    simp only[this];exact⟨by trivial,λ_=>⟨by trivial,by trivial⟩,λh=>by simp at h⟩
   | cons l L=>
    have:decide (s.1>0)=true:=by rw[s1,hL];simp
    simp only[this];refine⟨by trivial,λh=>absurd (by trivial) h,λ_=>⟨by trivial,by trivial,by simp,⟨s3 (QQS hn),s2,λk=>?_,λk=>?_⟩⟩⟩
    .rw[s4 k,QKd hn];rfl
    .rw[s5 k,QKd hn];rfl
theorem QQJ(x:QD):JP x=(cond (Qo x==0) (Y9 (Qb x) x.sK.n) [],Qo x):=by
 unfold JP Qo;cases ho:x.ok with
 | false=>rfl
 | true=>
  cases hr:Ky x with
  | true=>rfl
  | false=>
   obtain⟨h',e⟩:=HW x (Qn x x.sK.n) tdY x.sK.n [] (0,0,[],0,0) noH;rw[QEP (λ_ _=>rfl)]at e;have e:tdS x = .go ((Qb x).foldl tdF (0,0,[],0,0)) h':=e;simp only[e,cond_true,cond_false];have hlen:=QFE ho;have hall:∀ l∈Qb x,l.length=x.sK.n:=λl hl=>((Z4 ho).1 hl).len;have hs:=(Jo ho).s;cases hL:Qb x with
   | nil=>rfl
   | cons l L=>
    rw[hL]at hlen hall;obtain⟨s,e2,s1,s2⟩:=QUn (by omega) hall hlen
    rw[e2];have:decide (s.1>0)=true:=by rw[s1];simp
    simp only[this,s2];rfl
structure QYS (x:QD) (cells:List Int) (al:Int):Prop where
 len:cells.length=x.sK.n
 ci:∀ j,Kh (cells.getD j 0)
 ai:Kh al
 cb:∀ j,j<x.sK.n->∀ k,Ql (cells.getD j 0) k=(Qb x).any λl=>(l.getD j ⟨0,0⟩).cell==(k:Int)
 ab:∀ k,Ql al k=(decide (k<x.sK.n)&&(Qb x).any λl=>(l.getD k ⟨0,0⟩).cell == -2)
theorem QC3(x:QD):(Q2 x).2.2=Qo x/\(Qo x≠0->(Q2 x).1=[]/\(Q2 x).2.1=0)/\(Qo x=0->QYS x (Q2 x).1 (Q2 x).2.1):=by
 unfold Q2 Qo;cases ho:x.ok with
 | false=>exact⟨by trivial,λ_=>⟨by trivial,by trivial⟩,λh=>by simp at h⟩
 | true=>
  cases hr:Ky x with
  | true=>exact⟨by trivial,λ_=>⟨by trivial,by trivial⟩,λh=>by simp at h⟩
  | false=>
   obtain⟨h',e⟩:=HW x (Qn x x.sK.n) plY x.sK.n [] (0,λ_=>0) noH;rw[QEP (λ_ _=>rfl)]at e;have e:QH3 x = .go ((Qb x).foldl plF (0,λ_=>0)) h':=e;simp only[e,cond_true,cond_false];have hlen:=QFE ho;have z:Kh 0:=⟨by omega,by omega⟩
   have hs:=(Jo ho).s;obtain⟨p1,p2,p3⟩:=QON hs (Qb x) (0,λ_=>0) (λl hl=>⟨QOT ho ((Z4 ho).1 hl),((Z4 ho).1 hl).len⟩) (λ_=>z)
   have hc:((Qb x).foldl plF (0,λ_=>0)).1=(Qb x).length:=by
    have:=QCf (f:=plF) (p:=λs=>s.1) (λs l=>rfl) (Qb x) (0,λ_=>0) 0 rfl (by omega)
    simpa using this
   generalize hS:(Qb x).foldl plF (0,λ_=>0)=S at p1 p2 p3 hc;cases hL:Qb x with
   | nil=>
    have:decide (S.1>0)=false:=by rw[hc,hL];rfl
    simp only[this];exact⟨by trivial,λ_=>⟨by trivial,by trivial⟩,λh=>by simp at h⟩
   | cons l L=>
    have:decide (S.1>0)=true:=by rw[hc,hL];simp
    simp only[this]
    have get:∀ j,j<x.sK.n->((List.range x.sK.n).map S.2).getD j 0=S.2 j:=λj hj=>by
     rw[List.getD_eq_getElem?_getD,List.getElem?_map,List.getElem?_range hj];rfl
    refine⟨by trivial,λh=>absurd (by trivial) h,λ_=>⟨by simp,λj=>?_,p1 12,λj hj k=>?_,λk=>?_⟩⟩
    .by_cases hj:j<x.sK.n
     .rw[get j hj];exact p1 j
     .rw[List.getD_eq_getElem?_getD,List.getElem?_eq_none (by simp;omega)];exact z
    .rw[get j hj,p2 j hj k,Zh,Bool.false_or]
    .rw[p3 k,Zh,Bool.false_or]
theorem QEK(x:QD):Qg x=cond (Qo x==0) ((Qb x).headD [],(Qb x).getD 1 [],((min (Qb x).length 100:Nat):Int),0) ([],[],0,Qo x):=by
 unfold Qg Qo;cases ho:x.ok with
 | false=>rfl
 | true=>
  cases hr:Ky x with
  | true=>rfl
  | false=>
   obtain⟨h',e⟩:=HW x (Qn x x.sK.n) trY x.sK.n [] (0,[],[]) noH;change QAq x=_ at e;have ha:=Qfx (WT x (Qn x x.sK.n) x.sK.n []);simp only[e,cond_true,cond_false];generalize VG trY (WT x (Qn x x.sK.n) x.sK.n []) (0,[],[])=S at ha;change S.1=(((min (Qb x).length 100:Nat):Int),(Qb x).headD [],(Qb x).getD 1 [])at ha;obtain⟨⟨m,f,g⟩,q⟩:=S;simp only[qpI]at ha;obtain⟨rfl,rfl,rfl⟩:=ha;cases hL:Qb x with
   | nil=>cases q<;>rfl
   | cons l L=>
    have:(((min (l::L).length 100:Nat):Int)==0)=false:=by
     rw[beq_eq_false_iff_ne,List.length_cons];omega
    cases q<;>simp only[this]<;>rfl
def ltS(a b:QB):Prop:=a.cell<b.cell∨(a.cell=b.cell/\a.turn<b.turn)
theorem QJS{d:Puz}{s:QQ}{l:List QB}{c:Nat}(h1:l.Pairwise ltS)(h2:∀ y∈l,y.cell<c):∀ t,(Q0 d s l c t).Pairwise ltS
 | 0=>h1
 | t+1=>by
  have ih:=QJS (d:=d) (s:=s) h1 h2 t;simp only[Q0];cases K5 d s c t with
  | false=>exact ih
  | true=>
   show(Q0 d s l c t++[(⟨c,t⟩:QB)]).Pairwise ltS;rw[List.pairwise_append];refine⟨ih,by simp,λa ha b hb=>?_⟩
   rw[List.mem_singleton.1 hb];rcases QGQ ha with h|⟨u,hu,rfl⟩
   .exact .inl (h2 a h)
   .exact .inr ⟨rfl,by simp only;omega⟩
theorem QL3{d:Puz}{s:QQ}:∀ c,(Qy d s c).Pairwise ltS
 | 0=>by simp[Qy]
 | c+1=>by
  simp only[Qy];refine QJS (QL3 c) (λy hy=>?_) 4;obtain⟨k,u,h1,_,rfl⟩:=zs hy;simp only;omega
theorem QRn(x:QD)(k:Nat):(K3 x k).Pairwise ltS:=by
 simp only[K3,List.pairwise_cons];refine⟨λy hy=>?_,QL3 _⟩;obtain⟨k,u,h1,_,rfl⟩:=zs hy;exact .inl (by simp only[je];omega)
theorem QbZ(x:QD):(Qb x).Pairwise (vZ ltS):=by
 refine QFQ _ _ _ (λl=>?_) _ _
 by_cases h:l.length<x.sK.n
 .rw[Y3 h];exact QRn x _
 .rw[j4 (by rw[YJ];omega)];simp
theorem QNq(a:QB):¬ ltS a a:=by unfold ltS;omega
theorem QMe{d:Puz}{s:QQ}{l:List QB}{c:Nat}{y:QB}:∀{t:Nat},y∈Q0 d s l c t↔y∈l∨∃ u,u<t/\K5 d s c u=true/\y=⟨c,(u:Nat)⟩
 | 0=>by simp[Q0]
 | t+1=>by
  have ih:=QMe (d:=d) (s:=s) (l:=l) (c:=c) (y:=y) (t:=t);simp only[Q0];cases hq:K5 d s c t with
  | false=>
   show y∈Q0 d s l c t↔_;rw[ih];constructor
   .rintro(h|⟨u,h1,h2⟩)
    .exact .inl h
    .exact .inr ⟨u,by omega,h2⟩
   .rintro(h|⟨u,h1,h2,h3⟩)
    .exact .inl h
    .have:u≠t:=λe=>by rw[e,hq]at h2;cases h2
     exact .inr ⟨u,by omega,h2,h3⟩
  | true=>
   show y∈Q0 d s l c t++[(⟨c,t⟩:QB)]↔_;rw[List.mem_append,ih,List.mem_singleton];constructor
   .rintro((h|⟨u,h1,h2⟩)|h)
    .exact .inl h
    .exact .inr ⟨u,by omega,h2⟩
    .exact .inr ⟨t,by omega,hq,h⟩
   .rintro(h|⟨u,h1,h2,h3⟩)
    .exact .inl (.inl h)
    .by_cases e:u=t
     .subst e;exact .inr h3
     .exact .inl (.inr ⟨u,by omega,h2,h3⟩)
theorem QMM{d:Puz}{s:QQ}{y:QB}:∀{c:Nat},y∈Qy d s c↔∃ k u:Nat,k<c/\u<4/\K5 d s k u=true/\y=⟨(k:Nat),(u:Nat)⟩
 | 0=>by simp[Qy]
 | c+1=>by
  simp only[Qy];rw[QMe,QMM (c:=c)];constructor
  .rintro(⟨k,u,h1,h2⟩|⟨u,h1,h2,h3⟩)
   .exact⟨k,u,by omega,h2⟩
   .exact⟨c,u,by omega,h1,h2,h3⟩
  .rintro⟨k,u,h1,h2,h3,h4⟩
   by_cases e:k=c
   .subst e;exact .inr ⟨u,h2,h3,h4⟩
   .exact .inl ⟨k,u,by omega,h2,h3,h4⟩
theorem QcL(h:Tru x (Qn x x.sK.n) l):(x.d.ps.n:Int)-(x.sK.n-QJ l (-2))<=x.lost:=by
 have:=h.lost;unfold YF at this;rw[h.len]at this;have:=qdf this;omega
def rwS(t:List QB):Rw QB:=⟨t.length,λi=>t.getD i ⟨0,0⟩⟩
theorem QH0(t:List QB)(hl:t.length<=1000):∀ k,k<=t.length->alN (rwS t) k=QJ (t.take k) (-2)/\tkN (rwS t) k=k-QJ (t.take k) (-2)
 | 0,_=>by simp[alN,tkN,QJ]
 | k+1,h=>by
  obtain⟨h1,h2⟩:=QH0 t hl k (by omega)
  have c1:=jC (t.take k) (-2);have c2:=j7 (t.take k) (-2);rw[List.length_take,Nat.min_eq_left (by omega)]at c2
  have e:(rwS t).get k=t[k]:=V7 (by omega)
  rw[Ya (by omega),Z1,alN,tkN,e,h1,h2]
  by_cases hc:t[k].cell = -2
  .rw[if_pos hc,hc];exact⟨XK ⟨by omega,by omega⟩,by show(k:Int)-_=_;omega⟩
  .have hc2:(t[k].cell == -2)=false:=by simpa using hc
   rw[if_neg hc,hc2];exact⟨rfl,(XK ⟨by omega,by omega⟩).trans (by omega)⟩
theorem QTJ{j:Jn}{a b:QB}(h:XS x j a b=true):Xn x.d j a b=true:=by
 unfold XS at h;unfold Xn;cases e:(a.cell == -2)||(b.cell == -2)with
 | true=>
  rw[e,cond_true,qbA]at h;rw[cond_true];exact h.1
 | false=>rw[e]at h;exact h
theorem QYx(hx:x.ok=true){t:List QB}(ht:t∈Qb x):YI x (rwS t)=true:=by
 have h:=(Z4 hx).1 ht;have hg:=Jo hx;have hs:=hg.s;have n9:=hg.d.n9;have hlen:=h.len;unfold YI;have e1:(((rwS t).n:Int)==x.sK.n)=true:=by simp[rwS,hlen]
 have e2:(QN (Jx x (rwS t)) (rwS t).n 0).isNone=true:=QFv λk hk=>by
  have hk:k<t.length:=hk;have e:(rwS t).get k=t[k]:=V7 hk;have hc:=QM1 h hk;unfold Jx;rw[e];simp only[K3,List.mem_cons]at hc;rcases hc with hc|hc
  .rw[hc];rfl
  .obtain⟨c,u,h1,h2,h3,h4⟩:=QMM.1 hc;have q:(t[k].cell == -2)=false:=by rw[h4,beq_eq_false_iff_ne];simp only;omega
   have w:i64.wrap ((x.d.ps.n:Int)-1)=(x.d.ps.n:Int)-1:=XK ⟨by omega,by omega⟩
   have q2:(QN (eqC (rwS t) k) k 0).isNone=true:=QFv λi hi=>by
    have ei:(rwS t).get i=t[i]:=V7 (by omega)
    have:=h.one i k hi hk (by simpa using q)
    simp only[eqC,ei,e];simpa using this
   rw[q,q2,h4,cond_false,w];simp only[Int.toNat_natCast,h3,Qe];simp;omega
 have e3:(QN (Yi x (rwS t)) x.hang.n 0).isNone=true:=QFv λk hk=>by
  unfold Yi;rw[show Xn x.d (x.hang.get k) ((rwS t).get (x.hang.get k).a.toNat) ((rwS t).get (x.hang.get k).b.toNat)=true from QTJ (h.hang k hk)];rfl
 obtain⟨a1,a2⟩:=QH0 t (by omega) t.length (qlr _)
 rw[List.take_length]at a1 a2;have c1:=jC t (-2);have c2:=j7 t (-2);have hal:=h.al;have hlo:=QcL h;have e4:decide (alN (rwS t) (rwS t).n<=x.fK)=true:=qde (by show alN (rwS t) t.length<=_;omega)
 have e5:decide (i64.wrap ((x.d.ps.n:Int)-tkN (rwS t) (rwS t).n)<=x.lost)=true:=qde (by
  show i64.wrap ((x.d.ps.n:Int)-tkN (rwS t) t.length)<=_;rw[a2,XK ⟨by omega,by omega⟩];omega)
 rw[e1,e2,e3,e4,e5];rfl
theorem QXo{lt:α->α->Prop}(irr:∀ x,¬ lt x x)(asym:∀ x y,lt x y->¬ lt y x){a b:List α}(h1:vZ lt a b):¬ vZ lt b a:=by
 rintro⟨p',x',y',s',t',e3,e4,h2⟩;obtain⟨p,x,y,s,t,e1,e2,h1⟩:=h1
 have g1:∀ i,i<p.length->a[i]? = b[i]? := λi hi=>by
  rw[e1,e2,List.getElem?_append_left hi,List.getElem?_append_left hi]
 have g2:∀ i,i<p'.length->a[i]? = b[i]? := λi hi=>by
  rw[e3,e4,List.getElem?_append_left hi,List.getElem?_append_left hi]
 have a1:a[p.length]? = some x:=by rw[e1];simp
 have b1:b[p.length]? = some y:=by rw[e2];simp
 have a2:a[p'.length]? = some y':=by rw[e4];simp
 have b2:b[p'.length]? = some x':=by rw[e3];simp
 rcases Nat.lt_trichotomy p.length p'.length with h|h|h
 .have:=g2 _ h;rw[a1,b1]at this;simp only[qsI]at this;subst this;exact irr _ h1
 .rw[h]at a1 b1;rw[a1]at a2;rw[b1]at b2;simp only[qsI]at a2 b2;subst a2;subst b2;exact asym _ _ h1 h2
 .have:=g1 _ h;rw[a2,b2]at this;simp only[qsI]at this;subst this;exact irr _ h2
theorem QQC{α:Type}{R:α->α->Prop}(irr:∀ a,¬ R a a)(asym:∀ a b,R a b->¬ R b a):∀{l1 l2:List α},l1.Pairwise R->l2.Pairwise R->(∀ a,a∈l1↔a∈l2)->l1=l2
 | [],[],_,_,_=>rfl
 | [],b::l2,_,_,h=>by have:=(h b).2 (by simp);cases this
 | a::l1,[],_,_,h=>by have:=(h a).1 (by simp);cases this
 | a::l1,b::l2,h1,h2,h=>by
  rw[List.pairwise_cons]at h1 h2
  have e:a=b:=by
   rcases List.mem_cons.1 ((h a).1 (by simp))with e|e
   .exact e
   .rcases List.mem_cons.1 ((h b).2 (by simp))with e'|e'
    .exact e'.symm
    .exact absurd (h2.1 a e) (asym _ _ (h1.1 b e'))
  subst e;congr 1;refine QQC irr asym h1.2 h2.2 λc=>⟨λhc=>?_,λhc=>?_⟩
  .rcases List.mem_cons.1 ((h c).1 (List.mem_cons_of_mem _ hc))with e|e
   .subst e;exact absurd (h1.1 c hc) (irr c)
   .exact e
  .rcases List.mem_cons.1 ((h c).2 (List.mem_cons_of_mem _ hc))with e|e
   .subst e;exact absurd (h2.1 c hc) (irr c)
   .exact e
def Zk(x:QD)(l:List QB)(c:QB):Bool:=(l.all λs=>c.cell == -2||s.cell != c.cell)&&(c.cell != -2||decide (QJ l (-2)<x.fK))
def Jk(x:QD):Nat->List QB->List (List QB):=VX (λl=>QG (Qn x x.sK.n) l.length) (Zk x) (λl=>YI x (rwS l))
theorem QTz(a b:QB)(h:ltS a b):¬ ltS b a:=by unfold ltS at h ⊢;omega
theorem QdD(x:QD):(Jk x x.sK.n []).Pairwise (vZ ltS):=by
 refine QFQ _ _ _ (λl=>?_) _ _
 by_cases h:l.length<x.sK.n
 .rw[Y3 h];exact QRn x _
 .rw[j4 (by rw[YJ];omega)];simp
theorem QZ7{j:Jn}{a b:QB}(ha:a.cell = -2->a.turn=0)(hb:b.cell = -2->b.turn=0)(h:Xn x.d j a b=true):XS x j a b=true:=by
 unfold Xn at h;unfold XS;cases e:(a.cell == -2)||(b.cell == -2)with
 | true=>
  rw[e,cond_true]at h;have hc:a.cell=b.cell:=by simpa using h
  rw[qbO,beq_iff_eq,beq_iff_eq]at e;have e1:a.cell = -2:=by omega
  have e2:b.cell = -2:=by omega
  rw[cond_true,hc,ha e1,hb e2];simp
 | false=>rw[e]at h;exact h
theorem Qbw(hx:x.ok=true)(h1:l.length=x.sK.n)(h2:∀ i (h:i<l.length),l[i]∈QG (Qn x x.sK.n) (l.take i).length/\Zk x (l.take i) l[i]=true)(h3:YI x (rwS l)=true):Tru x (Qn x x.sK.n) l:=by
 have hg:=Jo hx;have hb:=QLN hx;have hs:=hg.s;have n9:=hg.d.n9
 have can:∀ i (h:i<l.length),l[i]∈QG (Qn x x.sK.n) i:=λi h=>by
  have:=(h2 i h).1
  rwa [List.length_take,Nat.min_eq_left (by omega)]at this
 have tz:∀ i (h:i<l.length),l[i].cell = -2->l[i].turn=0:=λi h e=>by
  have:=can i h;rw[Y3 (by omega)]at this
  simp only[K3,List.mem_cons]at this;rcases this with q|q
  .rw[q];rfl
  .obtain⟨k,u,h1,h2,q⟩:=zs q;rw[q]at e;simp only at e;omega
 unfold YI at h3;simp only[qbA,qdE]at h3;obtain⟨_,_,hG,_,hL⟩:=h3;obtain⟨a1,a2⟩:=QH0 l (by omega) l.length (qlr _)
 rw[List.take_length]at a1 a2;have c1:=jC l (-2);have c2:=j7 l (-2);refine⟨h1,can,λi j hi hj hc he=>?_,?_,λk hk=>?_,?_⟩
 .have hf:=(h2 j hj).2;unfold Zk at hf;rw[qbA,List.all_eq_true]at hf;have:=hf.1 l[i] (by rw[List.mem_take_iff_getElem];exact⟨i,by omega,rfl⟩)
  rw[he]at this;simp at this;exact hc this
 .have key:∀ i,i<=l.length->QJ (l.take i) (-2)<=x.fK:=by
   intro i
   induction i with
   | zero=>intro _;simpa[QJ]using hb.f
   | succ i ih=>
    intro hi;have hi:i<l.length:=hi;rw[Ya hi,Z1];have hf:=(h2 i hi).2;unfold Zk at hf;rw[qbA]at hf;split
    .rename_i e;have:=hf.2;rw[e]at this;have:=qdt (by simpa using this:decide (QJ (l.take i) (-2)<x.fK)=true)
     omega
    .exact ih (by omega)
  have:=key l.length (qlr _)
  rwa [List.take_length]at this
 .have ha:=hb.a k hk;have hbb:=hb.b k hk;have:=QNH hG k hk;unfold Yi at this;have this:Xn x.d (x.hang.get k) (l.getD (x.hang.get k).a.toNat ⟨0,0⟩) (l.getD (x.hang.get k).b.toNat ⟨0,0⟩)=true:=by simpa[rwS]using this
  refine QZ7 (λe=>?_) (λe=>?_) this
  .rw[V7 (by omega)]at e ⊢;exact tz _ _ e
  .rw[V7 (by omega)]at e ⊢;exact tz _ _ e
 .unfold YF;have hL:i64.wrap ((x.d.ps.n:Int)-tkN (rwS l) l.length)<=x.lost:=hL;rw[a2,XK ⟨by omega,by omega⟩]at hL
  exact decide_eq_false (by omega)
theorem Qfn(hx:x.ok=true):Jk x x.sK.n []=Qb x:=by
 refine QQC (λa h=>QVf QNq h rfl) (λa b h=>QXo QNq QTz h) (QdD x) (QbZ x) λl=>?_;unfold Jk;rw[QI7,Z4 hx];simp only[List.nil_append];constructor
 .rintro⟨t,h1,rfl,h2,h3⟩;rw[QCl]at h2;simp only[List.nil_append]at h2;exact Qbw hx h1 h2 h3
 .intro h;refine⟨l,h.len,rfl,?_,QYx hx ((Z4 hx).2 h)⟩;rw[QCl];intro i hi;simp only[List.nil_append];refine⟨by rw[List.length_take,Nat.min_eq_left (by omega)];exact h.can i hi,?_⟩
  unfold Zk;rw[qbA,List.all_eq_true];refine⟨λs hs=>?_,?_⟩
  .obtain⟨k,hk,rfl⟩:=List.mem_take_iff_getElem.1 hs
   by_cases hc:l[i].cell = -2
   .simp[hc]
   .have:=h.one k i (by omega) hi hc
    simp[hc,this]
  .by_cases hc:l[i].cell = -2
   .have h1:=QLY (l:=l) (n := -2) (i+1);rw[Ya hi,Z1,if_pos hc]at h1;have h2:=h.al;simp[hc];omega
   .simp[hc]
def fkB(w:List QB)(c:QB):Nat->Bool
 | 0=>true
 | k+1=>fkB w c k&&((c.cell == -2)||(w.getD k ⟨0,0⟩).cell != c.cell)
def fkA(w:List QB):Nat->Int
 | 0=>0
 | k+1=>cond ((w.getD k ⟨0,0⟩).cell == -2) (fkA w k+1) (fkA w k)
theorem QSI(w:List QB)(c:QB):∀ k,k<=w.length->fkB w c k=(w.take k).all λs=>c.cell == -2||s.cell != c.cell
 | 0,_=>by simp[fkB]
 | k+1,h=>by
  rw[fkB,QSI w c k (by omega),Ya h,List.all_append,V7 h]
  simp
theorem QKh(w:List QB):∀ k,k<=w.length->fkA w k=QJ (w.take k) (-2)
 | 0,_=>by simp[fkA,QJ]
 | k+1,h=>by
  rw[fkA,QKh w k (by omega),Ya h,Z1,V7 h]
  by_cases q:w[k].cell = -2
  .rw[if_pos q,q];rfl
  .have:(w[k].cell == -2)=false:=by simpa using q
   rw[if_neg q,this];rfl
theorem QYE(x:QD)(w:List QB)(c:QB):Zk x w c=(fkB w c w.length&&((c.cell != -2)||decide (fkA w w.length<x.fK))):=by
 rw[QSI w c _ (qlr _),QKh w _ (qlr _),List.take_length];rfl
def ZC(x:QD)(d:Nat)(w:List QB)(C:List QB)(i:Nat):List (List QB):=(C.drop i).flatMap λc=>cond (Zk x w c) (Jk x d (w++[c])) []
theorem QUF(x:QD)(d:Nat)(w:List QB):Jk x (d+1) w=ZC x d w (QG (Qn x x.sK.n) w.length) 0:=rfl
theorem QTe{d:Nat}{w C:List QB}(h:C.length<=i):ZC x d w C i=[]:=by
 unfold ZC;rw[List.drop_eq_nil_of_le h];rfl
theorem QZh{d:Nat}{w C:List QB}(h:i<C.length):ZC x d w C i=cond (Zk x w (C.getD i ⟨0,0⟩)) (Jk x d (w++[C.getD i ⟨0,0⟩])) []++ZC x d w C (i+1):=by
 unfold ZC;rw[List.drop_eq_getElem_cons h,List.flatMap_cons,V7 h]
theorem QU4(x:QD)(hx:Kx x)(d:Nat)(w:List QB):(Jk x d w).length<=37^d:=by
 unfold Jk;refine QDb _ _ _ (B:=37) (λl=>?_) d w
 by_cases h:l.length<x.sK.n
 .rw[Y3 h];have:=Z9 x.d (x.sK.get l.length) x.d.ps.n;have:=hx.d.n9;simp only[K3,List.length_cons];omega
 .rw[j4 (by rw[YJ];omega)];exact Nat.zero_le _
theorem QSt(w:List QB):∀ k,0<=fkA w k/\fkA w k<=k
 | 0=>⟨Int.le_refl _,Int.le_refl _⟩
 | k+1=>by
  have ih:=QSt w k;rw[fkA];cases (w.getD k ⟨0,0⟩).cell == -2 with
  | true=>rw[cond_true];omega
  | false=>rw[cond_false];omega
set_option maxHeartbeats 1600000 in
theorem Qd4(x:QD)(w:List QB)(L:List (List QB))(C:List QB)(i:Nat)(hi:i<C.length)(hC:C.length<=1000)(hw:w.length<=1000):Kk (λk=>fkJ x w L C i (fkB w (C.getD i ⟨0,0⟩) k) (fkA w k) k) (λk=>k<=w.length) (λk=>w.length-k) (λ_ e J=>e = .exit 2/\J=fkE x w L C i (fkB w (C.getD i ⟨0,0⟩) w.length) (fkA w w.length)) 8 QJu [] (mkS prog Kp) (λ_=>hnd (mkS prog Kp) 3) (Kl (QT f112 0)):=by
 refine⟨λk g hk=>Qp (QaD x w L C i (fkB w (C.getD i ⟨0,0⟩) k) (fkA w k) k g) ?_⟩;have hk:k<=w.length:=hk;have ha:=QSt w k;have nb:∀ i n:Nat,i<n->n<=1000->(decide ((0:Int)<=(i:Int)/\(i:Int)<(n:Int))&&decide (n<=n))=true:=λi n h _=>by simp;omega
 refine QH ?_ ?_<;>intro b0
 .have h:k<w.length:=by have:=qdt b0;omega
  refine QF (by exact nb _ _ h hw) ?_
  refine QF (by exact qde h) ?_
  refine QH ?_ ?_<;>intro b1
  .refine vA (λq=>by first|(simp;done)|(simp at q ⊢;omega)) ?_
   refine YR ?_;refine jZ (λq=>by first|(simp;done)|(simp at q ⊢;omega)) ?_
   iterate 2 refine YR ?_
   refine vA (λq=>by first|(simp;done)|(simp at q ⊢;omega)) ?_
   refine YR ?_;refine jZ (λq=>by first|(simp;done)|(simp at q ⊢;omega)) ?_
   refine vA (λq=>by first|(simp;done)|(simp at q ⊢;omega)) ?_
   refine YR ?_;refine jZ (λq=>by first|(simp;done)|(simp at q ⊢;omega)) ?_
   refine QIQ ?_;refine QF (by first|rfl|(generalize (b)=q;cases q<;>first|rfl|(simp;done)|(simp;omega))|first|rfl|(simp;done)|(simp;omega)|omega|grind) ?_
   refine K6 λz0 y0=>?_;refine YR ?_;refine K6 λz1 y1=>?_;have q:z1=fkB w (C.getD i ⟨0,0⟩) (k+1):=y1.trans (by rw[y0];rfl)
   have q2:i64.wrap (fkA w k+1)=fkA w (k+1):=(w64 (by omega) (by omega)).trans (by rw[fkA,b1];rfl)
   refine⟨k+1,h,by show w.length-(k+1)<w.length-k;omega,λ_ _ r=>r,rfl,rfl,_,Qcd ..,?_⟩
   repeat' first|with_reducible refine QK ?_ ?_|exact tv|exact KW h hw|exact q|exact q2|refine aI ?_ ?_
  .refine vA (λq=>by first|(simp;done)|(simp at q ⊢;omega)) ?_
   refine YR ?_;refine jZ (λq=>by first|(simp;done)|(simp at q ⊢;omega)) ?_
   iterate 2 refine YR ?_
   refine vA (λq=>by first|(simp;done)|(simp at q ⊢;omega)) ?_
   refine YR ?_;refine jZ (λq=>by first|(simp;done)|(simp at q ⊢;omega)) ?_
   refine vA (λq=>by first|(simp;done)|(simp at q ⊢;omega)) ?_
   refine YR ?_;refine jZ (λq=>by first|(simp;done)|(simp at q ⊢;omega)) ?_
   refine QIQ ?_;refine QF (by first|rfl|(generalize (b)=q;cases q<;>first|rfl|(simp;done)|(simp;omega))|first|rfl|(simp;done)|(simp;omega)|omega|grind) ?_
   refine K6 λz2 y2=>?_;refine YR ?_;refine K6 λz3 y3=>?_;have q:z3=fkB w (C.getD i ⟨0,0⟩) (k+1):=y3.trans (by rw[y2];rfl)
   have q2:fkA w k=fkA w (k+1):=by rw[fkA,b1];rfl
   refine⟨k+1,h,by show w.length-(k+1)<w.length-k;omega,λ_ _ r=>r,rfl,rfl,_,Qe7 ..,?_⟩
   repeat' first|with_reducible refine QK ?_ ?_|exact tv|exact KW h hw|exact q|exact q2|refine aI ?_ ?_
 .have h:k=w.length:=by have:=qdf b0;omega
  subst h;refine⟨_,⟨rfl,rfl⟩,rfl,rfl,_,QfS ..,?_⟩
  repeat' first|with_reducible refine QK ?_ ?_|exact tv|refine aI ?_ ?_
