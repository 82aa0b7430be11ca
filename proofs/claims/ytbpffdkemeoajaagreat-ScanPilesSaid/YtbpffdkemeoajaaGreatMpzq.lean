/- - -/
import Derived.Test.YtbpffdkemeoajaaGreatMpzo
import Derived.Test.YtbpffdkemeoajaaGreatMpzp
import Derived.Test.YtbpffdkemeoajaaGreatMpzn
open Go.Proofs.Tryz
open Go.IntKind (i64)
set_option maxRecDepth 100000
namespace Go.Proofs.YtbpffdkemeoajaaGreat
open Go Go.SX
def Xg(n:Int):Int:=2^n.toNat
def QBk(s n:Int):Bool:=HT s n.toNat
def JZ(s n:Int):Int:=YL s n.toNat
def pwJ(n o:Int)(k:Nat):JSt:=⟨13,[(0,.int false .i64 n),(3,.int false .i64 o),(4,.int false .i64 k)],[],8⟩
def pwE(o:Int):JSt:=⟨13,[(3,.int false .i64 o)],[],8⟩
def QQs:Ex->List Nat
 | .normal=>[0,3,4]
 | .exit _=>[3]
 | .ret=>[]
theorem QX8(n o:Int)(k:Nat)(g:Nat->Value):exec (mkE prog Kp) (hnd (mkE prog Kp) 0) (QT f78 0) (JSt.inst (pwJ n o k) g) (KG [] QQs)=QE.br (decide ((↑k:Int)<n)) (QE.leaf (AV.tup [AV.nilp,AV.ptr (13:Nat) (0:Nat) (0:Nat),vi n,vi (i64.wrap ((2:Int)*o)),vi (i64.wrap ((↑k:Int)+(1:Int)))]) ([])) (QE.leaf (AV.tup [AV.ptr (0:Nat) (0:Nat) (0:Nat),AV.ptr (13:Nat) (0:Nat) (0:Nat),vi o]) ([])):=by kernel_rfl
theorem QWH(n o o':Int)(k k':Nat):QI 8 [vi n,vi (i64.wrap ((2:Int)*o)),vi (i64.wrap ((↑k:Int)+(1:Int)))] ([]) (pwJ n o' k')=( some [n=n,i64.wrap ((2:Int)*o)=o',i64.wrap ((↑k:Int)+(1:Int))=(↑k':Int)]):=by kernel_rfl
theorem QZx(o:Int):QI 8 [vi o] ([]) (pwE o)=( some [o=o]):=by kernel_rfl
variable {j:Nat}(x:QD)(T:List (List QB))(n:Nat)(f:Nat->Int)(sure may:Int)(f':Nat->Int)(al:Int)(c k i:Nat)(m:Int)(g:Nat->Value)
theorem QGf(h:k<=60):1<=(2:Int)^k/\(2:Int)^k<=1152921504606846976:=by
 have h1:(0:Int)<2^k:=Int.pow_pos (by omega)
 have h2:=QEC k 60 h;have e:(2:Int)^60=1152921504606846976:=by decide
 omega
theorem Qaa(n:Int)(hn:0<=n/\n<=60):Kk (λk=>pwJ n (2^k) k) (λk=>k<=n.toNat) (λk=>n.toNat-k) (λ_ e J=>e = .exit 0/\J=pwE (Xg n)) 8 QQs [] (mkE prog Kp) (λ_=>hnd (mkE prog Kp) 0) (QT f78 0):=by
 refine⟨λk g hk=>Qp (QX8 n (2^k) k g) ?_⟩;have hk:k<=n.toNat:=hk;refine QH ?_ ?_<;>intro b0
 .have h:k<n.toNat:=by have:=qdt b0;omega
  have hp:=QGf k (by omega)
  have q:i64.wrap (2*2^k)=2^(k+1):=(w64 (by omega) (by omega)).trans (by rw[Int.pow_succ,Int.mul_comm])
  refine⟨k+1,h,by show n.toNat-(k+1)<n.toNat-k;omega,λ_ _ r=>r,rfl,rfl,_,QWH ..,?_⟩
  repeat' first|with_reducible refine QK ?_ ?_|exact tv|exact q|exact KW h (by omega)|refine aI ?_ ?_
 .have h:k=n.toNat:=by have:=qdf b0;omega
  subst h;refine⟨_,⟨rfl,rfl⟩,rfl,rfl,_,QZx ..,?_⟩
  repeat' first|with_reducible refine QK ?_ ?_|exact tv|exact rfl|refine aI ?_ ?_
abbrev pwH(P:Program)(n:Int):Hnd:={ hnd (mkE P Kp) 1 with loop:=λ_=>Q4 8 [] (pwJ n 1 (0:Nat)) [(True,.exit 0,pwE (Xg n))] }
theorem Qa7(n:Int)(hn:0<=n/\n<=60)(G:Ctx)(hrd:G.rd=none)(hG:G.n=8):Q8 (mkE prog Kp) G (pwH prog n) (Qi f78):=by
 refine Kg (body:=QT f78 0) (QL VS) hrd (by kernel_rfl) ?_
 refine Kr (I:=λk=>pwJ n (2^k) k) (n0:=8) (QL VS) (by omega) (λs hs=>Qw (QL VS) 0 G _ hrd) (λs hs=>(by decide:8<=8)) ?_ (Qaa n hn) (s0:=0) (Nat.zero_le _) ?_
 .rintro s e J ⟨_,rfl⟩;exact(by decide:8<=8)
 .rintro e J ⟨rfl,rfl⟩;exact⟨_,qmc,trivial,rfl,rfl⟩
def Hg:WF (Int×Unit):=λ|(n,_)=>(decide (0<=n/\n<=60),.int false .i64 (Xg n),[])
def QRv:FC:=wFC Hg
theorem QXX(n:Int):KI (mkE prog Kp) (pwH prog n) f78 (QW.vals 0 ((n,()):Int×Unit)) (QW.blks 0 ((n,()):Int×Unit)) 8=QE.ask (n=n) (QE.ask ((1:Int)=(1:Int)) (QE.ask ((0:Int)=(0:Int)) (QE.asm (True) (QE.all (λ(g0:Nat->Value)=>QE.leaf (vi (Xg n)) ([])))))):=by kernel_rfl
theorem Qbe:JG (mkE prog Kp) (Qi f78) 8 Hg (λx_=>(pwH prog x_.1)):=by
 refine⟨?_⟩;rintro⟨n,⟨⟩⟩ hp G h1 h2;exact Qa7 n (qdt hp) G h1 h2
theorem QcR:JF (mkE prog Kp) f78 8 Hg (λx_=>(pwH prog x_.1)):=by
 refine⟨?_⟩;rintro⟨n,⟨⟩⟩ hp;refine⟨⟨rfl,by simp[Hg],rfl⟩,⟨?_⟩⟩
 rw[QXX n];simp only[Hg]at hp
 iterate 3 refine QX (by first|exact tv|exact rfl) ?_
 refine KB λa0=>?_;refine Q7 λg0=>?_
 first|exact KT rfl rfl|exact KT ⟨rfl,rfl⟩ rfl
theorem QgK:QO prog 78 QRv:=
 JI (QL VS) func78 (by kernel_rfl) (by kernel_rfl) (by decide) Qbe QcR
def Wt:Tab:=Qh Kp 78 QRv
theorem QFV:QZ Wt:=VS.add QgK
def Hx:WF (Int×Int×Unit):=λ|(s,(n,_))=>(decide ((0<=n/\n<=60)/\0<=s/\s<=1152921504606846976),.bool false (QBk s n),[])
def QSo:FC:=wFC Hx
theorem Qag(s:Int)(n:Int):KI (mkE prog Wt) (hnd (mkE prog Wt) 1) f77 (QW.vals 0 ((s,n,()):Int×Int×Unit)) (QW.blks 0 ((s,n,()):Int×Int×Unit)) 8=QE.need (true&&true&&decide ((0:Int)<=n/\n<=(60:Int))) (QE.need (!decide (Xg n=(0:Int))) (QE.leaf (AV.bool false ((i64.wrap (s.tdiv (Xg n))).tmod (2:Int)==(1:Int))) ([]))):=by kernel_rfl
theorem QaI:JG (mkE prog Wt) (Qi f77) 8 Hx (λx_=>(hnd (mkE prog Wt) 1)):=by
 refine⟨?_⟩;rintro⟨s,⟨n,⟨⟩⟩⟩ hp G h1 h2;exact Qw (QL QFV) 1 G _ h1
theorem QeZ:JF (mkE prog Wt) f77 8 Hx (λx_=>(hnd (mkE prog Wt) 1)):=by
 refine⟨?_⟩;rintro⟨s,⟨n,⟨⟩⟩⟩ hp;refine⟨⟨rfl,by simp[Hx],rfl⟩,⟨?_⟩⟩
 rw[Qag s n];simp only[Hx]at hp;have hp:=qdt hp;have hl:=QGf n.toNat (by omega)
 have hl:1<=Xg n:=hl.1;have d0:0<=s.tdiv (Xg n):=Int.tdiv_nonneg hp.2.1 (by omega)
 have d1:s.tdiv (Xg n)<=s:=by rw[Int.tdiv_eq_ediv_of_nonneg hp.2.1];exact Int.ediv_le_self _ hp.2.1
 have hv:((i64.wrap (s.tdiv (Xg n))).tmod 2==1)=QBk s n:=by rw[w64 (by omega) (by omega)];rfl
 iterate 2 refine QF (by simp;omega) ?_
 exact KT hv rfl
theorem Qfk:QO prog 77 QSo:=
 JI (QL QFV) func77 (by kernel_rfl) (by kernel_rfl) (by decide) QaI QeZ
def qQ:Tab:=Qh Wt 77 QSo
theorem QF6:QZ qQ:=QFV.add Qfk
def QAw:WF (Int×Int×Unit):=λ|(s,(n,_))=>(decide ((0<=n/\n<=60)/\0<=s/\s<=1152921504606846976),.int false .i64 (JZ s n),[])
def QQL:FC:=wFC QAw
theorem QU2(s:Int)(n:Int):KI (mkE prog qQ) (hnd (mkE prog qQ) 1) f40 (QW.vals 0 ((s,n,()):Int×Int×Unit)) (QW.blks 0 ((s,n,()):Int×Int×Unit)) 8=QE.need (true&&(true&&true)&&decide (((0:Int)<=n/\n<=(60:Int))/\(0:Int)<=s/\s<=(1152921504606846976:Int))) (QE.br (QBk s n) (QE.leaf (vi s) ([])) (QE.need (true&&true&&decide ((0:Int)<=n/\n<=(60:Int))) (QE.leaf (vi (i64.wrap (s+Xg n))) ([])))):=by kernel_rfl
theorem QXm:JG (mkE prog qQ) (Qi f40) 8 QAw (λx_=>(hnd (mkE prog qQ) 1)):=by
 refine⟨?_⟩;rintro⟨s,⟨n,⟨⟩⟩⟩ hp G h1 h2;exact Qw (QL QF6) 1 G _ h1
theorem Qbq:JF (mkE prog qQ) f40 8 QAw (λx_=>(hnd (mkE prog qQ) 1)):=by
 refine⟨?_⟩;rintro⟨s,⟨n,⟨⟩⟩⟩ hp;refine⟨⟨rfl,by simp[QAw],rfl⟩,⟨?_⟩⟩
 rw[QU2 s n];simp only[QAw]at hp;have hp:=qdt hp;have hl:=QGf n.toNat (by omega)
 have hl:1<=Xg n/\Xg n<=1152921504606846976:=hl;have ww:JZ s n=cond (QBk s n) s (s+Xg n):=rfl;refine QF (by simp;omega) ?_
 refine QH ?_ ?_<;>intro b0
 .have e:s=JZ s n:=by rw[ww,b0];rfl
  first|exact KT e rfl|exact KT ⟨rfl,e⟩ rfl
 .refine QF (by simp;omega) ?_
  have e:i64.wrap (s+Xg n)=JZ s n:=by rw[ww,b0,w64 (by omega) (by omega)];rfl
  first|exact KT e rfl|exact KT ⟨rfl,e⟩ rfl
theorem QeL:QO prog 40 QQL:=
 JI (QL QF6) func40 (by kernel_rfl) (by kernel_rfl) (by decide) QXm Qbq
def Km:Tab:=Qh qQ 40 QQL
theorem VD:QZ Km:=QF6.add QeL
def Qv(i k:Nat):QB:=(T.getD i []).getD k ⟨0,0⟩
structure Xf (T:List (List QB)) (n m:Nat):Prop where
 n12:n<=12
 m9:m<=9
 len:∀ l∈T,l.length=n
 cell:∀ l∈T,∀ k,k<n->(l.getD k ⟨0,0⟩).cell = -2∨(0<=(l.getD k ⟨0,0⟩).cell/\(l.getD k ⟨0,0⟩).cell<m)
theorem XN{T:List (List QB)}{i:Nat}(h:i<T.length):T.getD i []∈T:=by
 rw[V7 h];exact List.getElem_mem h
theorem QGs{T:List (List QB)}{i:Nat}(h:i<T.length):T.take (i+1)=T.take i++[T.getD i []]:=by
 rw[Ya h,V7 h]
theorem QGc{x:QD}(hx:x.ok=true):Xf (Qb x) x.sK.n x.d.ps.n:=by
 have hg:=Jo hx;refine⟨hg.s,hg.d.n9,λl hl=>((Z4 hx).1 hl).len,λl hl k hk=>?_⟩;have ht:=(Z4 hx).1 hl;have hk':k<l.length:=by rw[ht.len];exact hk
 rw[V7 hk'];rcases QKf ht l[k] (List.getElem_mem hk')with h|h
 .exact .inl h.1
 .exact .inr ⟨h.1,h.2.1⟩
def Vp(T:List (List QB))(k:Nat):Nat->Int
 | 0=>0
 | i+1=>cond ((Qv T i k).cell == -2) (Vp T k i) (YL (Vp T k i) (Qv T i k).cell.toNat)
theorem QIM{T:List (List QB)}{n m k:Nat}(g:Xf T n m)(hk:k<n):∀ i,i<=T.length->0<=Vp T k i/\Vp T k i<2^9/\∀ c,Ql (Vp T k i) c=(T.take i).any λl=>(l.getD k ⟨0,0⟩).cell==(c:Int)
 | 0,_=>⟨Int.le_refl _,by show(0:Int)<2^9;decide,λc=>by
   show Ql 0 c=_;rw[Zh];simp⟩
 | i+1,hi=>by
  obtain⟨h0,h1,h2⟩:=QIM g hk i (Nat.le_of_succ_le hi);have hm:=XN (T:=T) (i:=i) hi;have hc:=g.cell _ hm k hk;have m9:=g.m9;rw[Vp,QGs hi];have he:Qv T i k=(T.getD i []).getD k ⟨0,0⟩:=rfl;rw[<-he]at hc;cases q:(Qv T i k).cell == -2 with
  | true=>
   have q':(Qv T i k).cell = -2:=by simpa using q
   refine⟨h0,h1,λc=>?_⟩;rw[cond_true,h2 c,List.any_append,List.any_cons,List.any_nil,Bool.or_false,<-he,q'];have:((-2:Int)==(c:Int))=false:=by rw[beq_eq_false_iff_ne];omega
   rw[this,Bool.or_false]
  | false=>
   have q':(Qv T i k).cell ≠ -2:=by simpa using q
   have w:=vy (n:=(Qv T i k).cell.toNat) h0 h1 (by omega) (by omega)
   refine⟨w.lo,w.hi,λc=>?_⟩;rw[cond_false,w.b,h2 c,List.any_append,List.any_cons,List.any_nil,Bool.or_false,<-he];congr 1;rw[Bool.eq_iff_iff,qdE,beq_iff_eq];omega
def Xu(l:List QB)(a:Int):Nat->Int
 | 0=>a
 | k+1=>cond ((l.getD k ⟨0,0⟩).cell == -2) (YL (Xu l a k) k) (Xu l a k)
def YV(T:List (List QB)):Nat->Int
 | 0=>0
 | i+1=>Xu (T.getD i []) (YV T i) (T.getD i []).length
theorem QHC{l:List QB}{a:Int}(h0:0<=a)(h1:a<2^12)(hl:l.length<=12):∀ k,k<=l.length->0<=Xu l a k/\Xu l a k<2^12/\∀ c,Ql (Xu l a k) c=(Ql a c||(decide (c<k)&&(l.getD c ⟨0,0⟩).cell == -2))
 | 0,_=>⟨h0,h1,λc=>by simp[Xu]⟩
 | k+1,hk=>by
  obtain⟨i0,i1,i2⟩:=QHC h0 h1 hl k (Nat.le_of_succ_le hk);rw[Xu];cases q:(l.getD k ⟨0,0⟩).cell == -2 with
  | false=>
   refine⟨i0,i1,λc=>?_⟩;rw[cond_false,i2 c]
   by_cases e:c=k
   .subst e;rw[q];simp
   .have:decide (c<k+1)=decide (c<k):=decide_eq_decide.2 (by omega)
    rw[this]
  | true=>
   have w:=vy (n:=k) i0 i1 (by omega) (by omega)
   refine⟨w.lo,w.hi,λc=>?_⟩;rw[cond_true,w.b,i2 c]
   by_cases e:c=k
   .subst e;rw[q];simp
   .have e1:decide (c<k+1)=decide (c<k):=decide_eq_decide.2 (by omega)
    have e2:decide (k=c)=false:=decide_eq_false λh=>e h.symm;rw[e1,e2,Bool.or_false]
theorem QFk{T:List (List QB)}{n m:Nat}(g:Xf T n m):∀ i,i<=T.length->0<=YV T i/\YV T i<2^12/\∀ c,Ql (YV T i) c=(decide (c<n)&&(T.take i).any λl=>(l.getD c ⟨0,0⟩).cell == -2)
 | 0,_=>⟨Int.le_refl _,by show(0:Int)<2^12;decide,λc=>by
   show Ql 0 c=_;rw[Zh];simp⟩
 | i+1,hi=>by
  obtain⟨h0,h1,h2⟩:=QFk g i (Nat.le_of_succ_le hi);have hl:=g.len _ (XN (T:=T) (i:=i) hi);have n12:=g.n12;have w:=QHC (l:=T.getD i []) h0 h1 (by omega) (T.getD i []).length (qlr _)
  rw[YV,QGs hi];refine⟨w.1,w.2.1,λc=>?_⟩;rw[w.2.2 c,h2 c,hl,List.any_append,List.any_cons,List.any_nil,Bool.or_false];cases decide (c<n)<;>simp
theorem Qgp{x:QD}(he:Qo x=0):(Q2 x).1=(List.range x.sK.n).map (λk=>Vp (Qb x) k (Qb x).length)/\(Q2 x).2.1=YV (Qb x) (Qb x).length:=by
 have hx:=(zu he).1;have g:=QGc hx;have px:=(QC3 x).2.2 he;have e12:(2:Int)^12=4096:=by decide
 have e9:(2:Int)^9=512:=by decide
 refine⟨?_,?_⟩
 .apply List.ext_getElem (by rw[px.len];simp)
  intro k h1 h2;have hk:k<x.sK.n:=by rw[px.len]at h1;exact h1
  have w:=QIM g hk (Qb x).length (qlr _);have e:(Q2 x).1[k]=(Q2 x).1.getD k 0:=by simp[List.getD_eq_getElem?_getD,h1]
  rw[e];have e2:((List.range x.sK.n).map (λk=>Vp (Qb x) k (Qb x).length))[k]=Vp (Qb x) k (Qb x).length:=by simp
  rw[e2];refine QCI (px.ci k) ⟨by omega,by omega⟩ λc=>?_
  rw[px.cb k hk,w.2.2,List.take_length]
 .have w:=QFk g (Qb x).length (qlr _);refine QCI px.ai ⟨by omega,by omega⟩ λc=>?_
  rw[px.ab,w.2.2,List.take_length]
def Q9(T:List (List QB))(k:Nat):Nat->QB
 | 0=>Qv T 0 k
 | i+1=>cond ((Qv T i k).cell != (Q9 T k i).cell) ⟨-1,0⟩ (cond ((Qv T i k).turn != (Q9 T k i).turn) ⟨(Q9 T k i).cell,0⟩ (Q9 T k i))
def KS(T:List (List QB))(k:Nat):Nat->QB
 | 0=>Q9 T k T.length
 | i+1=>cond ((Qv T i k).turn != (Qv T 0 k).turn) ⟨(KS T k i).cell,0⟩ (KS T k i)
theorem QFH{T:List (List QB)}{k:Nat}:∀ i,(∀ j,j<i->(Qv T j k).cell=(Qv T 0 k).cell)->(Q9 T k i).cell=(Qv T 0 k).cell/\((Q9 T k i).turn=(Qv T 0 k).turn∨(Q9 T k i).turn=0)/\((∀ j,j<i->(Qv T j k).turn=(Qv T 0 k).turn)->(Q9 T k i).turn=(Qv T 0 k).turn)
 | 0,_=>⟨rfl,.inl rfl,λ_=>rfl⟩
 | i+1,h=>by
  obtain⟨h1,h2,h3⟩:=QFH i λj hj=>h j (by omega)
  have hc:=h i (Nat.lt_succ_self _);rw[Q9];have q:((Qv T i k).cell != (Q9 T k i).cell)=false:=by rw[h1,hc];simp
  rw[q,cond_false];cases e:(Qv T i k).turn != (Q9 T k i).turn with
  | true=>
   refine⟨h1,.inr rfl,λht=>?_⟩;rw[h3 λj hj=>ht j (by omega),ht i (Nat.lt_succ_self _)]at e
   simp at e
  | false=>exact⟨h1,h2,λht=>h3 λj hj=>ht j (by omega)⟩
theorem QSJ{T:List (List QB)}{k:Nat}(hp:∀ j,j<T.length->(Qv T j k).cell ≠ -1):∀ i,i<=T.length->(∃ j,j<i/\(Qv T j k).cell≠(Qv T 0 k).cell)->Q9 T k i=⟨-1,0⟩
 | 0,_,h=>by obtain⟨j,hj,_⟩:=h;omega
 | i+1,hi,h=>by
  rw[Q9]
  by_cases hp':∃ j,j<i/\(Qv T j k).cell≠(Qv T 0 k).cell
  .have e:=QSJ hp i (Nat.le_of_succ_le hi) hp';rw[e];have:((Qv T i k).cell != (-1:Int))=true:=by simpa using hp i hi
   rw[this];rfl
  .have hs:∀ j,j<i->(Qv T j k).cell=(Qv T 0 k).cell:=λj hj=>Classical.byContradiction λhq=>hp' ⟨j,hj,hq⟩;obtain⟨j,hj,hq⟩:=h
   have:j=i:=by
    rcases Nat.lt_or_ge j i with h|h
    .exact absurd (hs j h) hq
    .omega
   subst this;have e:((Qv T j k).cell != (Q9 T k j).cell)=true:=by rw[(QFH j hs).1];simpa using hq
   rw[e];rfl
theorem QMb{T:List (List QB)}{k:Nat}:∀ i,(KS T k i).cell=(Q9 T k T.length).cell/\((∀ j,j<i->(Qv T j k).turn=(Qv T 0 k).turn)->KS T k i=Q9 T k T.length)/\((∃ j,j<i/\(Qv T j k).turn≠(Qv T 0 k).turn)->(KS T k i).turn=0)/\((Q9 T k T.length).turn=0->(KS T k i).turn=0)
 | 0=>⟨rfl,λ_=>rfl,λ⟨j,hj,_⟩=>absurd hj (Nat.not_lt_zero _),λh=>h⟩
 | i+1=>by
  obtain⟨h1,h2,h3,h4⟩:=QMb (T:=T) (k:=k) i;rw[KS];cases e:(Qv T i k).turn != (Qv T 0 k).turn with
  | true=>
   refine⟨h1,λh=>?_,λ_=>rfl,λ_=>rfl⟩;rw[h i (Nat.lt_succ_self _)]at e;simp at e
  | false=>
   refine⟨h1,λh=>h2 λj hj=>h j (by omega),λ⟨j,hj,hq⟩=>?_,h4⟩
   by_cases q:j=i
   .subst q;have:(Qv T j k).turn=(Qv T 0 k).turn:=by simpa using e
    exact absurd this hq
   .exact h3 ⟨j,by omega,hq⟩
theorem QHF{T:List (List QB)}:Qv T 0 k=(T.headD []).getD k ⟨0,0⟩:=by
 unfold Qv;cases T<;>rfl
theorem QPI{T:List (List QB)}{p:QB->Bool}{k:Nat}:(T.any λl=>p (l.getD k ⟨0,0⟩))=true↔∃ j,j<T.length/\p (Qv T j k)=true:=by
 rw[List.any_eq_true];constructor
 .rintro⟨l,hl,hp⟩;obtain⟨j,hj,rfl⟩:=List.mem_iff_getElem.1 hl;exact⟨j,hj,by unfold Qv;rw[V7 hj];exact hp⟩
 .rintro⟨j,hj,hp⟩;exact⟨T.getD j [],XN hj,hp⟩
theorem Qgj{T:List (List QB)}{k:Nat}(hp:∀ j,j<T.length->(Qv T j k).cell ≠ -1):KS T k T.length=QAK T k:=by
 unfold QAK;obtain⟨y1,y2,y3,y4⟩:=QMb (T:=T) (k:=k) T.length;rw[<-QHF];cases e:T.any λl=>(l.getD k ⟨0,0⟩).cell != (Qv T 0 k).cell with
 | true=>
  obtain⟨j,hj,hq⟩:=(QPI (p:=λs=>s.cell != (Qv T 0 k).cell)).1 e;have hX:=QSJ hp T.length (qlr _) ⟨j,hj,by simpa using hq⟩
  rw[hX]at y1 y4;have y4:=y4 rfl;cases h:KS T k T.length with
  | mk c t=>rw[h]at y1 y4;simp only at y1 y4;rw[y1,y4];rfl
 | false=>
  have hs:∀ j,j<T.length->(Qv T j k).cell=(Qv T 0 k).cell:=λj hj=>Classical.byContradiction λhq=>by
   have:=(QPI (T:=T) (k:=k) (p:=λs=>s.cell != (Qv T 0 k).cell)).2 ⟨j,hj,by simpa using hq⟩
   rw[e]at this;cases this
  obtain⟨x1,x2,x3⟩:=QFH T.length hs;rw[cond_false]
  have key:(T.any λl=>Xo l (T.headD []) k)=true↔∃ j,j<T.length/\(Qv T j k).turn≠(Qv T 0 k).turn:=by
   rw[List.any_eq_true];constructor
   .rintro⟨l,hl,hd⟩;obtain⟨j,hj,rfl⟩:=List.mem_iff_getElem.1 hl;refine⟨j,hj,λht=>?_⟩;have hc:=hs j hj;unfold Xo at hd;rw[<-QHF,<-V7 (z:=([]:List QB)) hj]at hd;have hd:(!((Qv T j k).cell==(Qv T 0 k).cell&&((Qv T j k).turn==(Qv T 0 k).turn&&true)))=true:=hd;rw[hc,ht]at hd;simp at hd
   .rintro⟨j,hj,ht⟩;refine⟨T.getD j [],XN hj,?_⟩;unfold Xo;rw[<-QHF];show(!((Qv T j k).cell==(Qv T 0 k).cell&&((Qv T j k).turn==(Qv T 0 k).turn&&true)))=true;have:((Qv T j k).turn==(Qv T 0 k).turn)=false:=by simpa using ht
    rw[this];simp
  cases e2:T.any λl=>Xo l (T.headD []) k with
  | true=>
   have y3:=y3 (key.1 e2);rw[cond_true];cases h:KS T k T.length with
   | mk c t=>rw[h]at y1 y3;simp only at y1 y3;rw[y1,y3,x1]
  | false=>
   have ht:∀ j,j<T.length->(Qv T j k).turn=(Qv T 0 k).turn:=λj hj=>Classical.byContradiction λhq=>by
    have:=key.2 ⟨j,hj,hq⟩;rw[e2]at this;cases this
   rw[cond_false,y2 ht];have x3:=x3 ht;cases h:Q9 T k T.length with
   | mk c t=>
    rw[h]at x1 x3;simp only at x1 x3;cases h2:Qv T 0 k with
    | mk c' t'=>rw[h2]at x1 x3;simp only at x1 x3;rw[x1,x3]
def J6(l:List QB)(c:Nat):Nat->Bool
 | 0=>false
 | k+1=>J6 l c k||(l.getD k ⟨0,0⟩).cell==(c:Int)
def Ko(T:List (List QB))(c:Nat):Nat->Nat
 | 0=>0
 | i+1=>cond (J6 (T.getD i []) c (T.getD i []).length) (Ko T c i) (Ko T c i+1)
def JQ(T:List (List QB)):Nat->Int
 | 0=>0
 | c+1=>cond (Ko T c T.length==T.length) (YL (JQ T c) c) (JQ T c)
def JK(T:List (List QB)):Nat->Int
 | 0=>0
 | c+1=>cond (decide (0<Ko T c T.length)) (YL (JK T c) c) (JK T c)
theorem QSb(l:List QB)(c:Nat):∀ k,k<=l.length->J6 l c k=XM (l.take k) c
 | 0,_=>by simp[J6,XM]
 | k+1,h=>by
  have ih:=QSb l c k (by omega)
  rw[J6,ih,Ya h,V7 h];unfold XM;rw[List.any_append];simp
theorem QFC(T:List (List QB))(c:Nat):∀ i,Ko T c i<=i
 | 0=>qlr _
 | i+1=>by
  have:=QFC T c i;rw[Ko];cases J6 (T.getD i []) c (T.getD i []).length
  .show Ko T c i+1<=i+1;omega
  .show Ko T c i<=i+1;omega
theorem QEx(T:List (List QB))(c:Nat):∀ i,i<=T.length->(Ko T c i=i↔(T.take i).all (λl=>!XM l c)=true)/\(0<Ko T c i↔(T.take i).any (λl=>!XM l c)=true)
 | 0,_=>by simp[Ko]
 | i+1,hi=>by
  obtain⟨h1,h2⟩:=QEx T c i (Nat.le_of_succ_le hi);have hle:=QFC T c i;have hh:J6 (T.getD i []) c (T.getD i []).length=XM (T.getD i []) c:=by rw[QSb _ _ _ (qlr _),List.take_length]
  rw[Ko,QGs hi,List.all_append,List.any_append,hh];cases e:XM (T.getD i []) c with
  | true=>
   simp only[cond_true,List.all_cons,List.all_nil,List.any_cons,List.any_nil,e,Bool.not_true,Bool.false_and,Bool.and_false,Bool.or_false,Bool.false_or];exact⟨⟨λh=>by omega,λh=>by cases h⟩,h2⟩
  | false=>
   simp only[cond_false,List.all_cons,List.all_nil,List.any_cons,List.any_nil,e,Bool.not_false,Bool.true_and,Bool.and_true,Bool.or_true,Bool.true_or,Bool.or_false];exact⟨⟨λh=>h1.1 (by omega),λh=>by rw[h1.2 h]⟩,⟨λ_=>by trivial,λ_=>by omega⟩⟩
theorem QVi{x:QD}(he:Qo x=0):(miV x).1=JQ (Qb x) x.d.ps.n/\(miV x).2.1=JK (Qb x) x.d.ps.n:=by
 have mo:=((QRs x).2.2 he).2.2.2;have hx:=(zu he).1;have n9:=(Jo hx).d.n9;have e9:(2:Int)^9=512:=by decide
 have kS:∀ c,c<=9->0<=JQ (Qb x) c/\JQ (Qb x) c<2^9/\∀ k,Ql (JQ (Qb x) c) k=(decide (k<c)&&(Qb x).all λl=>!XM l k):=by
  intro c
  induction c with
  | zero=>intro _;exact⟨Int.le_refl _,by show(0:Int)<2^9;decide,λk=>by show Ql 0 k=_;rw[Zh];simp⟩
  | succ c ih=>
   intro hc;obtain⟨i0,i1,i2⟩:=ih (by omega)
   have hi:=(QEx (Qb x) c (Qb x).length (qlr _)).1;rw[List.take_length]at hi;rw[JQ];cases e:Ko (Qb x) c (Qb x).length==(Qb x).length with
   | true=>
    have w:=vy (n:=c) i0 i1 (by omega) (by omega)
    have e':=hi.1 (by simpa using e)
    refine⟨w.lo,w.hi,λk=>?_⟩;rw[cond_true,w.b,i2]
    by_cases q:k=c
    .subst q;rw[e'];simp
    .have e1:decide (k<c+1)=decide (k<c):=decide_eq_decide.2 (by omega)
     have e2:decide (c=k)=false:=decide_eq_false λh=>q h.symm;rw[e1,e2,Bool.or_false]
   | false=>
    refine⟨i0,i1,λk=>?_⟩;rw[cond_false,i2]
    by_cases q:k=c
    .subst q
     have:((Qb x).all λl=>!XM l k)=false:=by
      cases e3:(Qb x).all λl=>!XM l k with
      | false=>rfl
      | true=>rw[hi.2 e3]at e;simp at e
     rw[this];simp
    .have e1:decide (k<c+1)=decide (k<c):=decide_eq_decide.2 (by omega)
     rw[e1]
 have kM:∀ c,c<=9->0<=JK (Qb x) c/\JK (Qb x) c<2^9/\∀ k,Ql (JK (Qb x) c) k=(decide (k<c)&&(Qb x).any λl=>!XM l k):=by
  intro c
  induction c with
  | zero=>intro _;exact⟨Int.le_refl _,by show(0:Int)<2^9;decide,λk=>by show Ql 0 k=_;rw[Zh];simp⟩
  | succ c ih=>
   intro hc;obtain⟨i0,i1,i2⟩:=ih (by omega)
   have hi:=(QEx (Qb x) c (Qb x).length (qlr _)).2;rw[List.take_length]at hi;rw[JK];cases e:decide (0<Ko (Qb x) c (Qb x).length)with
   | true=>
    have w:=vy (n:=c) i0 i1 (by omega) (by omega)
    have e':=hi.1 (by simpa using e)
    refine⟨w.lo,w.hi,λk=>?_⟩;rw[cond_true,w.b,i2]
    by_cases q:k=c
    .subst q;rw[e'];simp
    .have e1:decide (k<c+1)=decide (k<c):=decide_eq_decide.2 (by omega)
     have e2:decide (c=k)=false:=decide_eq_false λh=>q h.symm;rw[e1,e2,Bool.or_false]
   | false=>
    refine⟨i0,i1,λk=>?_⟩;rw[cond_false,i2]
    by_cases q:k=c
    .subst q
     have:((Qb x).any λl=>!XM l k)=false:=by
      cases e3:(Qb x).any λl=>!XM l k with
      | false=>rfl
      | true=>rw[qde (hi.2 e3)]at e;cases e
     rw[this];simp
    .have e1:decide (k<c+1)=decide (k<c):=decide_eq_decide.2 (by omega)
     rw[e1]
 obtain⟨a0,a1,a2⟩:=kS x.d.ps.n n9;obtain⟨b0,b1,b2⟩:=kM x.d.ps.n n9;exact⟨QCI mo.si ⟨by omega,by omega⟩ λk=>by rw[mo.sb,a2],QCI mo.mi ⟨by omega,by omega⟩ λk=>by rw[mo.mb,b2]⟩
def rqS:List (Nat×AV):=[(5,.slz 24 0 T.length (.of 0)),(7,.slz 40 0 n (.of 0)),(8,.int false .i64 al),(9,.int false .i64 i)]
def rqB:List (Nat×Blk):=[Jm false 24 T,(40,.rowz true 3 [.int .i64] n λi=>QA.enc (f i))]
def zw(i k:Nat):JSt:=⟨68,rqS T n al i++[(10,.int false .i64 k)],rqB T n f,48⟩
def qh:JSt:=⟨68,rqS T n al i,rqB T n f,48⟩
def QJM:Ex->List Nat
 | .normal=>[5,7,8,9,10]
 | .exit _=>[5,7,8,9]
 | .ret=>[]
def QSn:Ex->List Nat
 | .normal=>[5,7,8,9]
 | .exit _=>[7,8]
 | .ret=>[]
def QID:JSt:=⟨68,[(7,.slz 40 0 n (.of 0)),(8,.int false .i64 al)],[(40,.rowz true 3 [.int .i64] n λi=>QA.enc (f i))],48⟩
noncomputable abbrev HR(i:Nat):Nat×Blk:=
  (24,.frz2 false 38 kB T.length (λi=>(QG T i).length) λi j=>QA.enc ((QG T i).getD j ⟨0,0⟩))
noncomputable abbrev QPt(k:Nat)(n:Nat):Nat×Blk:=
  (40,.rowz true 3 [.int .i64] n λi_1=>bif decide (i_1=k)then Jw [vi (JZ (f ((k:Int).toNat+0)) ((QG T i).getD k ⟨0,0⟩).cell)] 0 (QA.enc (f ((k :
  Int).toNat+0)))else QA.enc (f i_1))
theorem QdV(i k:Nat)(g:Nat->Value):exec (mkE prog Km) (hnd (mkE prog Km) 3) (Kl (QT f9 0)) (JSt.inst (zw T n f al i k) g) (KG [] QJM) = .need (decide ((0:Int)<=(i:Int)/\(i:Int)<(T.length:Int))&&decide (T.length<=T.length)) (.need (decide (i<T.length)) (.br (decide ((k:Int)<(↑(QG T i).length:Int))) (.need (decide ((0:Int)<=(i:Int)/\(i:Int)<(T.length:Int))&&decide (T.length<=T.length)) (.need (decide (i<T.length)) (.need (decide ((0:Int)<=(k:Int)/\(k:Int)<(↑(QG T i).length:Int))&&decide ((QG T i).length<=(QG T i).length)) (.need (decide (k<(QG T i).length)) (.br (((QG T i).getD k ⟨0,0⟩).cell == -2) (.need (true&&(true&&true)&&decide (((0:Int)<=(k:Int)/\(k:Int)<=60)/\(0:Int)<=al/\al<=1152921504606846976)) (.leaf (.tup [.nilp,.ptr 68 0 0,.slz 24 0 T.length cO,.slz 40 0 n cO,vi (JZ al (k:Int)),vi (i:Int),vi (i64.wrap ((k:Int)+1))]) ([(HR T i),(40,.rowz true 3 [.int .i64] n λi=>QA.enc (f i))]))) (.need (decide ((0:Int)<=(k:Int)/\(k:Int)<(n:Int))&&decide (n<=n)) (.need (decide (k<n)) (.need (decide ((0:Int)<=(i:Int)/\(i:Int)<(T.length:Int))&&decide (T.length<=T.length)) (.need (decide (i<T.length)) (.need (decide ((0:Int)<=(k:Int)/\(k:Int)<(↑(QG T i).length:Int))&&decide ((QG T i).length<=(QG T i).length)) (.need (decide (k<(QG T i).length)) (.need (true&&(true&&true)&&decide (((0:Int)<=((QG T i).getD k ⟨0,0⟩).cell/\((QG T i).getD k ⟨0,0⟩).cell<=60)/\(0:Int)<=f ((k:Int).toNat+0)/\f ((k:Int).toNat+0)<=1152921504606846976)) (.need (decide ((0:Int)<=(k:Int)/\(k:Int)<(n:Int))&&decide (n<=n)) (.need (decide (k<n)) (.leaf (.tup [.nilp,.ptr 68 0 0,.slz 24 0 T.length cO,.slz 40 0 n cO,vi al,vi (i:Int),vi (i64.wrap ((k:Int)+1))]) ([(HR T i),(QPt T f i k n)])))))))))))))))) (.leaf (.tup [.ptr 2 0 0,.ptr 68 0 0,.slz 24 0 T.length cO,.slz 40 0 n cO,vi al,vi (i:Int)]) ([(HR T i),(40,.rowz true 3 [.int .i64] n λi=>QA.enc (f i))])))):=by kernel_rfl
theorem QXH(al al':Int)(i k k':Nat):QI 8 [AV.slz (24:Nat) (0:Nat) T.length cO,AV.slz (40:Nat) (0:Nat) n cO,vi (JZ al (↑k:Int)),vi (↑i:Int),vi (i64.wrap ((↑k:Int)+(1:Int)))] ([((24:Nat),Blk.frz2 false (38:Nat) [CK.int i64,CK.int i64] T.length (λi=>(QG T i).length) λi j=>QA.enc ((QG T i).getD j (QB.mk (0:Int) (0:Int)))),((40:Nat),Blk.rowz true (3:Nat) [CK.int i64] n λi=>QA.enc (f i))]) (zw T n f' al' i k')=( some [0=0,T.length=T.length,cO=cO,0=0,n=n,cO=cO,JZ al (↑k:Int)=al', (↑i:Int)=(↑i:Int),i64.wrap ((↑k:Int)+(1:Int))=(↑k':Int),T.length=T.length,Q1 (2:Nat) T.length (λi=>(QG T i).length) (λi=>(QG T i).length) (λi j=>QA.enc ((QG T i).getD j (QB.mk (0:Int) (0:Int)))) λi j=>QA.enc ((QG T i).getD j (QB.mk (0:Int) (0:Int))),n<=n,QC (1:Nat) n (λi=>QA.enc (f i)) λi=>QA.enc (f' i)]):=by kernel_rfl
theorem QT3(al al':Int)(i k k':Nat):QI 8 [.slz 24 0 T.length cO,.slz 40 0 n cO,vi al,vi (i:Int),vi (i64.wrap ((k:Int)+1))] ([(HR T i),(QPt T f i k n)]) (zw T n f' al' i k')=(some [0=0,T.length=T.length,cO=cO,0=0,n=n,cO=cO,al=al',(i:Int)=(i:Int),i64.wrap ((k:Int)+1)=(k':Int),T.length=T.length,Q1 2 T.length (λi=>(QG T i).length) (λi=>(QG T i).length) (λi j=>QA.enc ((QG T i).getD j ⟨0,0⟩)) λi j=>QA.enc ((QG T i).getD j ⟨0,0⟩),n<=n,QC 1 n (λi_1=>bif decide (i_1=k)then Jw [vi (JZ (f ((k:Int).toNat+0)) ((QG T i).getD k ⟨0, 0⟩).cell)] 0 (QA.enc (f ((k:Int).toNat+0)))else QA.enc (f i_1)) λi=>QA.enc (f' i)]):=by kernel_rfl
theorem QZo(al al':Int)(i:Nat):QI 8 [AV.slz (24:Nat) (0:Nat) T.length cO,AV.slz (40:Nat) (0:Nat) n cO,vi al,vi (↑i:Int)] ([((24:Nat),Blk.frz2 false (38:Nat) [CK.int i64,CK.int i64] T.length (λi=>(QG T i).length) λi j=>QA.enc ((QG T i).getD j (QB.mk (0:Int) (0:Int)))),((40:Nat),Blk.rowz true (3:Nat) [CK.int i64] n λi=>QA.enc (f i))]) (qh T n f' al' i)=( some [0=0,T.length=T.length,cO=cO,0=0,n=n,cO=cO,al=al',(↑i:Int)=(↑i:Int),T.length=T.length,Q1 (2:Nat) T.length (λi=>(QG T i).length) (λi=>(QG T i).length) (λi j=>QA.enc ((QG T i).getD j (QB.mk (0:Int) (0:Int)))) λi j=>QA.enc ((QG T i).getD j (QB.mk (0:Int) (0:Int))),n<=n,QC (1:Nat) n (λi=>QA.enc (f i)) λi=>QA.enc (f' i)]):=by kernel_rfl
abbrev QGz(P:Program)(T:List (List QB))(n:Nat)(f f':Nat->Int)(al al':Int)(i:Nat):Hnd:={ hnd (mkE P Km) 2 with loop:=λ_=>Jp (i<T.length) (Q4 8 [] (zw T n f al i (0:Nat)) [(True,.exit 2,qh T n f' al' i)]) }
theorem QXl(al al':Int)(i:Nat)(g:Nat->Value):exec (mkE prog Km) (QGz prog T n f f' al al' i) (QT f9 0) (JSt.inst (qh T n f al i) g) (KG [] QSn) = .br (decide ((i:Int)<(T.length:Int))) (.ak [i<T.length,0=0,T.length=T.length,cO=cO,0=0,n=n,cO=cO,al=al,(i:Int)=(i:Int),(0:Int)=0,T.length=T.length,Q1 2 T.length (λi=>(QG T i).length) (λi=>(QG T i).length) (λi j=>QA.enc ((QG T i).getD j ⟨0,0⟩)) λi j=>QA.enc ((QG T i).getD j ⟨0,0⟩),n<=n,QC 1 n (λi=>QA.enc (f i)) λi=>QA.enc (f i)] (.asm (True) (.all (λ(g0:Nat->Value)=>.leaf (.tup [.nilp,.ptr 68 0 0,.slz 24 0 T.length cO,.slz 40 0 n cO,vi al',vi (i64.wrap ((i:Int)+1))]) ([(HR T i),(40,.rowz true 3 [.int .i64] n λi=>QA.enc (f' i))]))))) (.leaf (.tup [.ptr 0 0 0,.ptr 68 0 0,.slz 40 0 n cO,vi al]) ([(40, .rowz true 3 [.int .i64] n λi=>QA.enc (f i))])):=by kernel_rfl
theorem Qei(f' f2:Nat->Int)(al' al2:Int)(i i':Nat):QI 8 [AV.slz (24:Nat) (0:Nat) T.length cO,AV.slz (40:Nat) (0:Nat) n cO,vi al',vi (i64.wrap ((↑i:Int)+(1:Int)))] ([((24:Nat),Blk.frz2 false (38:Nat) [CK.int i64,CK.int i64] T.length (λi=>(QG T i).length) λi j=>QA.enc ((QG T i).getD j (QB.mk (0:Int) (0:Int)))),((40:Nat),Blk.rowz true (3:Nat) [CK.int i64] n λi=>QA.enc (f' i))]) (qh T n f2 al2 i')=( some [0=0,T.length=T.length,cO=cO,0=0,n=n,cO=cO,al'=al2,i64.wrap ((↑i:Int)+(1:Int))=(↑i':Int),T.length=T.length,Q1 (2:Nat) T.length (λi=>(QG T i).length) (λi=>(QG T i).length) (λi j=>QA.enc ((QG T i).getD j (QB.mk (0:Int) (0:Int)))) λi j=>QA.enc ((QG T i).getD j (QB.mk (0:Int) (0:Int))),n<=n,QC (1:Nat) n (λi=>QA.enc (f' i)) λi=>QA.enc (f2 i)]):=by kernel_rfl
theorem Qeb(f f2:Nat->Int)(al al2:Int):QI 8 [AV.slz (40:Nat) (0:Nat) n cO,vi al] ([((40:Nat),Blk.rowz true (3:Nat) [CK.int i64] n λi=>QA.enc (f i))]) (QID n f2 al2)=( some [0=0,n=n,cO=cO,al=al2,n<=n,QC (1:Nat) n (λi=>QA.enc (f i)) λi=>QA.enc (f2 i)]):=by kernel_rfl
def VZ(pb:List Prop->Bool)(x:QD)(T:List (List QB))(e:Int):Tab:=Qh Km 39 (Jj pb (roU x T e))
def pF(i k j:Nat):Int:=cond (decide (j<k)) (Vp T j (i+1)) (Vp T j i)
def pA(i k:Nat):Int:=Xu (T.getD i []) (YV T i) k
theorem Gt{T:List (List QB)}{i k:Nat}(h:j<k):pF T i k j=Vp T j (i+1):=by unfold pF;rw[qde h];rfl
theorem GG{T:List (List QB)}{i k:Nat}(h:¬ j<k):pF T i k j=Vp T j i:=by unfold pF;rw[decide_eq_false h];rfl
theorem QQ7{T:List (List QB)}{i k:Nat}(h:j≠k):pF T i k j=pF T i (k+1) j:=by
 by_cases q:j<k
 .rw[Gt q,Gt (by omega)]
 .rw[GG q,GG (by omega)]
theorem QMf{n:Nat}{f f':Nat->Int}(h:∀ j,j<n->f j=f' j):QC 1 n (λi=>QA.enc (f i)) (λi=>QA.enc (f' i)):=by
 intro j hj;show eqF 1 0 (QA.enc (f j)) (QA.enc (f' j));rw[h j hj];exact XC _ _ _
set_option maxHeartbeats 1600000 in
theorem Qfj(n m i:Nat)(g:Xf T n m)(hi:i<T.length):Kk (λk=>zw T n (pF T i k) (pA T i k) i k) (λk=>k<=n) (λk=>n-k) (λ_ e J=>e = .exit 2/\J=qh T n (pF T i n) (pA T i n) i) 8 QJM [] (mkE prog Km) (λ_=>hnd (mkE prog Km) 3) (Kl (QT f9 0)):=by
 refine⟨λk g0 hk=>Qp (QdV T n (pF T i k) (pA T i k) i k g0) ?_⟩;have hk:k<=n:=hk;have n12:=g.n12;have m9:=g.m9;have hlen:(QG T i).length=n:=g.len _ (XN hi);have e9:(2:Int)^9=512:=by decide
 have e12:(2:Int)^12=4096:=by decide
 have a0:=QFk g i (Nat.le_of_lt hi);have ak:=QHC (l:=T.getD i []) a0.1 a0.2.1 (by rw[show(T.getD i []).length=n from hlen];exact n12) k (by rw[show(T.getD i []).length=n from hlen];exact hk)
 have ha:0<=pA T i k/\pA T i k<4096:=⟨ak.1,by have:=ak.2.1;rw[e12]at this;exact this⟩
 have nb:∀ i n:Nat,i<n->(decide ((0:Int)<=(i:Int)/\(i:Int)<(n:Int))&&decide (n<=n))=true:=λi n h=>by simp;omega
 refine QF (by exact nb _ _ hi) ?_
 refine QF (by exact qde hi) ?_
 refine QH ?_ ?_<;>intro b0
 .have h:k<n:=by have:=qdt b0;omega
  have hc:=g.cell _ (XN hi) k h;have hf0:=QIM g h i (Nat.le_of_lt hi);have hfk:pF T i k k=Vp T k i:=GG (qli k);refine QF (by exact nb _ _ hi) ?_
  refine QF (by exact qde hi) ?_
  refine QF (by exact nb _ _ (by omega)) ?_
  refine QF (by exact qde (by omega)) ?_
  refine QH ?_ ?_<;>intro b1
  .refine QF (by simp;omega) ?_
   refine⟨k+1,h,by show n-(k+1)<n-k;omega,λ_ _ r=>r,rfl,rfl,_,QXH ..,?_⟩
   have q1:JZ (pA T i k) (k:Int)=pA T i (k+1):=by
    show YL (pA T i k) k=Xu (T.getD i []) (YV T i) (k+1);rw[Xu,show(((T.getD i []).getD k ⟨0,0⟩).cell == -2)=true from b1];rfl
   have q2:∀ j,j<n->pF T i k j=pF T i (k+1) j:=λj _=>by
    by_cases q:j=k
    .subst q;rw[hfk,Gt (Nat.lt_succ_self _),Vp,show((Qv T i j).cell == -2)=true from b1];rfl
    .exact QQ7 q
   repeat' first|with_reducible refine QK ?_ ?_|exact tv|exact q1|exact QMf q2|exact QS _ _ _ _|exact KW h (by omega)|refine aI ?_ ?_
  .have hc':0<=((QG T i).getD k ⟨0,0⟩).cell/\((QG T i).getD k ⟨0,0⟩).cell<m:=hc.resolve_left (beq_eq_false_iff_ne.1 b1);refine QF (by exact nb _ _ h) ?_
   refine QF (by exact qde h) ?_
   refine QF (by exact nb _ _ hi) ?_
   refine QF (by exact qde hi) ?_
   refine QF (by exact nb _ _ (by omega)) ?_
   refine QF (by exact qde (by omega)) ?_
   refine QF ?_ ?_
   .have hf1:0<=pF T i k ((k:Int).toNat+0)/\pF T i k ((k:Int).toNat+0)<512:=by
     show 0<=pF T i k k/\pF T i k k<512;rw[hfk,<-e9];exact⟨hf0.1,hf0.2.1⟩
    exact Bool.and_eq_true_iff.2 ⟨rfl,qde ⟨⟨hc'.1,by omega⟩,hf1.1,by omega⟩⟩
   refine QF (by exact nb _ _ h) ?_
   refine QF (by exact qde h) ?_
   refine⟨k+1,h,by show n-(k+1)<n-k;omega,λ_ _ r=>r,rfl,rfl,_,QT3 ..,?_⟩
   have q1:pA T i k=pA T i (k+1):=by
    show pA T i k=Xu (T.getD i []) (YV T i) (k+1);rw[Xu,show(((T.getD i []).getD k ⟨0,0⟩).cell == -2)=false from b1];rfl
   have q3:JZ (pF T i k k) ((QG T i).getD k ⟨0,0⟩).cell=pF T i (k+1) k:=by
    rw[hfk,Gt (Nat.lt_succ_self _),Vp,show((Qv T i k).cell == -2)=false from b1];rfl
   have q2:QC 1 n (λi_1=>bif decide (i_1=k)then Jw [.int false .i64 (JZ (pF T i k ((k:Int).toNat+0)) ((QG T i).getD k ⟨0,0⟩).cell)] 0 (QA.enc (pF T i k ((k:Int).toNat+0)))else QA.enc (pF T i k i_1)) (λj=>QA.enc (pF T i (k+1) j)):=by
    intro j hj
    by_cases q:j=k
    .subst q;show eqF 1 0 (bif decide (j=j)then _ else _) _
     rw[qde (rfl:j=j),cond_true];exact⟨q3,trivial⟩
    .show eqF 1 0 (bif decide (j=k)then _ else _) _
     rw[decide_eq_false q,cond_false,QQ7 q];exact XC _ _ _
   repeat' first|with_reducible refine QK ?_ ?_|exact tv|exact q1|exact q2|exact QS _ _ _ _|exact KW h (by omega)|refine aI ?_ ?_
 .have h:k=n:=by have:=qdf b0;omega
  subst h;refine⟨_,⟨rfl,rfl⟩,rfl,rfl,_,QZo ..,?_⟩
  repeat' first|with_reducible refine QK ?_ ?_|exact tv|refine aI ?_ ?_
theorem QdU(n m:Nat)(g:Xf T n m)(hT:T.length<=100000000):Kk (λi=>qh T n (pF T i 0) (pA T i 0) i) (λi=>i<=T.length) (λi=>T.length-i) (λ_ e J=>e = .exit 0/\J=QID n (pF T T.length 0) (pA T T.length 0)) 8 QSn [] (mkE prog Km) (λi=>QGz prog T n (pF T i 0) (pF T i n) (pA T i 0) (pA T i n) i) (QT f9 0):=by
 refine⟨λi g0 hk=>Qp (QXl T n (pF T i 0) (pF T i n) (pA T i 0) (pA T i n) i g0) ?_⟩;have hk:i<=T.length:=hk;refine QH ?_ ?_<;>intro b0
 .have h:i<T.length:=by have:=qdt b0;omega
  have hlen:(T.getD i []).length=n:=g.len _ (XN h)
  have q1:pA T i n=pA T (i+1) 0:=by
   show Xu (T.getD i []) (YV T i) n=YV T (i+1);rw[YV,hlen]
  have q2:∀ j,j<n->pF T i n j=pF T (i+1) 0 j:=λj hj=>by rw[Gt hj,GG (Nat.not_lt_zero _)]
  have hw:i64.wrap ((i:Int)+1)=((i+1:Nat):Int):=(w64 (by omega) (by omega)).trans (by omega)
  iterate 14 refine QX (by first|exact tv|exact h) ?_
  refine KB λa0=>?_;refine Q7 λg0=>?_;refine⟨i+1,h,by show T.length-(i+1)<T.length-i;omega,λ_ _ r=>r,rfl,rfl,_,Qei ..,?_⟩
  repeat' first|with_reducible refine QK ?_ ?_|exact tv|exact q1|exact QMf q2|exact QS _ _ _ _|exact hw|refine aI ?_ ?_
 .have h:i=T.length:=by have:=qdf b0;omega
  subst h;refine⟨_,⟨rfl,rfl⟩,rfl,rfl,_,Qeb ..,?_⟩
  repeat' first|with_reducible refine QK ?_ ?_|exact tv|refine aI ?_ ?_
theorem QbX(n m i:Nat)(g:Xf T n m)(G:Ctx)(hrd:G.rd=none)(hG:G.n<=8):Q8 (mkE prog Km) G (QGz prog T n (pF T i 0) (pF T i n) (pA T i 0) (pA T i n) i) (QT f9 0):=by
 refine Kg (body:=Kl (QT f9 0)) (QL VD) hrd (by kernel_rfl) ?_
 refine Vv λhi=>?_;refine Kr (I:=λk=>zw T n (pF T i k) (pA T i k) i k) (n0:=8) (QL VD) hG (λs hs=>Qw (QL VD) 3 G _ hrd) (λs hs=>(by decide:8<=48)) ?_ (Qfj T n m i g hi) (s0:=0) (Nat.zero_le _) ?_
 .rintro s e J ⟨_,rfl⟩;exact(by decide:8<=48)
 .rintro e J ⟨rfl,rfl⟩;exact⟨_,qmc,trivial,rfl,rfl⟩
def rmS:List (Nat×AV):=[(1,.ptr 8 0 0),(5,.slz 24 0 T.length (.of 0)),(7,.int false .i64 sure),(8,.int false .i64 may),(9,.int false .i64 c)]
def rmB:List (Nat×Blk):=[(8,.cells 0 31 (K2 0 x)),Jm false 24 T]++JC 0 x
def qL:JSt:=⟨76,rmS T sure may c,rmB x T,48⟩
def QHo:JSt:=⟨76,[(7,.int false .i64 sure),(8,.int false .i64 may)],[],48⟩
def zn(i:Nat):JSt:=⟨76,rmS T sure may c++[(10,.int false .i64 m),(11,.int false .i64 i)],rmB x T,48⟩
def QHk:JSt:=⟨76,rmS T sure may c++[(10,.int false .i64 m)],rmB x T,48⟩
def vl(i:Nat)(b:Bool)(k:Nat):JSt:=⟨76,rmS T sure may c++[(10,.int false .i64 m),(11,.int false .i64 i),(12,.bool false b),(13,.int false .i64 k)],rmB x T,48⟩
def QJA(i:Nat)(b:Bool):JSt:=⟨76,rmS T sure may c++[(10,.int false .i64 m),(11,.int false .i64 i),(12,.bool false b)],rmB x T,48⟩
def QNs:Ex->List Nat
 | .normal=>[1,5,7,8,9]
 | .exit _=>[7,8]
 | .ret=>[]
def QRK:Ex->List Nat
 | .normal=>[1,5,7,8,9,10,11]
 | .exit _=>[1,5,7,8,9,10]
 | .ret=>[]
def QQ5:Ex->List Nat
 | .normal=>[1,5,7,8,9,10,11,12,13]
 | .exit _=>[1,5,7,8,9,10,11,12]
 | .ret=>[]
noncomputable abbrev QOD:Nat×Blk:=
  (8,.cells 0 31 [vi x.d.pK.length,vi x.d.pK.aK,vi x.d.pK.oK,vi x.d.pK.dK.lo,vi x.d.pK.dK.hi,
  vi x.d.wide,vi x.d.high,.bool false x.d.turn,.slz 0 0 x.d.ps.n cO,.slz 1 0 x.sK.n cO,.slz 2 0 x.hang.n cO,.int false .i64
  x.lost,vi x.fK])
abbrev QDg:List CK:=
  [.int .i64,.int .i64,.int .i64,.int .i64,.int .i64,.int .i64,.int .i64,.int .i64,.int .i64,.int .i64,.int .i64,.int .i64,.int .i64,.int .i64,.int .i64,.int .i64,.int
  .i64,.int .i64,.int .i64,.int .i64,.int .i64,.int .i64,.int .i64,.int .i64,.int .i64,.int .i64,.int .i64,.int .i64]
noncomputable abbrev ZM(i:Nat)(x:QD):List (Nat×Blk):=
  [(QOD x),(24,.frz2 false 38 kB T.length (λi=>(QG T i).length) λi j=>QA.enc ((QG T i).getD j ⟨0,0⟩)),(0,.frz QDg x.d.ps.n λi=>QA.enc
  (x.d.ps.get i)),(1,.frz QDg x.sK.n λi=>QA.enc (x.sK.get i)),(2,.frz [.int .i64,.int .i64,.int .i64,.int .i64] x.hang.n λi=>QA.enc (x.hang.get i))]
theorem QUd(i:Nat)(b:Bool)(k:Nat)(g:Nat->Value):exec (mkE prog Km) (hnd (mkE prog Km) 3) (Kl (Kl (QT f13 0))) (JSt.inst (vl x T sure may c m i b k) g) (KG [] QQ5) = .need (decide ((0:Int)<=(i:Int)/\(i:Int)<(T.length:Int))&&decide (T.length<=T.length)) (.need (decide (i<T.length)) (.br (decide ((k:Int)<(↑(QG T i).length:Int))) (.br (b) (.leaf (.tup [.nilp,.ptr 76 0 0,.ptr 8 0 0,.slz 24 0 T.length cO,vi sure,vi may,vi (c:Int),vi m,vi (i:Int),.bool true true,vi (i64.wrap ((k:Int)+1))]) ((ZM T i x))) (.need (decide ((0:Int)<=(i:Int)/\(i:Int)<(T.length:Int))&&decide (T.length<=T.length)) (.need (decide (i<T.length)) (.need (decide ((0:Int)<=(k:Int)/\(k:Int)<(↑(QG T i).length:Int))&&decide ((QG T i).length<=(QG T i).length)) (.need (decide (k<(QG T i).length)) (.leaf (.tup [.nilp,.ptr 76 0 0,.ptr 8 0 0,.slz 24 0 T.length cO,vi sure,vi may,vi (c:Int),vi m,vi (i:Int),.bool false (((QG T i).getD k ⟨0,0⟩).cell==(c:Int)),vi (i64.wrap ((k:Int)+1))]) ((ZM T i x)))))))) (.leaf (.tup [.ptr 4 0 0,.ptr 76 0 0,.ptr 8 0 0,.slz 24 0 T.length cO,vi sure,vi may,vi (c:Int),vi m,vi (i:Int),.bool false b]) ((ZM T i x))))):=by kernel_rfl
abbrev QGA(P:Program)(x:QD)(T:List (List QB))(sure may:Int)(c:Nat)(m:Int)(i:Nat)(b:Bool):Hnd:={ hnd (mkE P Km) 2 with loop:=λ_=>Jp (i<T.length) (Q4 8 [] (vl x T sure may c m i false (0:Nat)) [(True,.exit 4,QJA x T sure may c m i b)]) }
theorem QfD(i:Nat)(b:Bool)(g:Nat->Value):exec (mkE prog Km) (QGA prog x T sure may c m i b) (Kl (QT f13 0)) (JSt.inst (zn x T sure may c m i) g) (KG [] QRK) = .br (decide ((i:Int)<(T.length:Int))) (.ak [i<T.length,0=0,0=0,0=0,T.length=T.length,cO=cO,sure=sure,may=may,(c:Int)=(c:Int),m=m,(i:Int)=(i:Int),false=false,(0:Int)=0] (.ak (xq x) (.ak [T.length=T.length,Q1 2 T.length (λi=>(QG T i).length) (λi=>(QG T i).length) (λi j=>QA.enc ((QG T i).getD j ⟨0,0⟩)) λi j=>QA.enc ((QG T i).getD j ⟨0,0⟩)] (.ak (xp x) (.asm (True) (.all (λ(g0:Nat->Value)=>.br (!b) (.leaf (.tup [.nilp,.ptr 76 0 0,.ptr 8 0 0,.slz 24 0 T.length cO,vi sure,vi may,vi (c:Int),vi (i64.wrap (m+1)),vi (i64.wrap ((i:Int)+1))]) ((ZM T i x))) (.leaf (.tup [.nilp,.ptr 76 0 0,.ptr 8 0 0,.slz 24 0 T.length cO,vi sure,vi may,vi (c:Int),vi m,vi (i64.wrap ((i:Int)+1))]) ((ZM T i x)))))))))) (.leaf (.tup [.ptr 2 0 0,.ptr 76 0 0,.ptr 8 0 0,.slz 24 0 T.length cO,vi sure,vi may,vi (c:Int),vi m]) ((ZM T i x))):=by kernel_rfl
abbrev QFs(P:Program)(x:QD)(T:List (List QB))(sure may:Int)(c:Nat)(m:Int):Hnd:={ hnd (mkE P Km) 2 with loop:=λ_=>Q4 8 [] (zn x T sure may c 0 (0:Nat)) [(True,.exit 2,QHk x T sure may c m)] }
noncomputable abbrev WH(x:QD):List (Nat×Blk):=
  [(QOD x),(24,.frz2 false 38 kB T.length (λi=>(QG T i).length) λi j=>QA.enc ((QG T i).getD j ⟨0,0⟩)),(0,.frz QDg x.d.ps.n λi=>QA.enc
  (x.d.ps.get i)),(1,.frz QDg x.sK.n λi=>QA.enc (x.sK.get i)),(2,.frz [.int .i64,.int .i64,.int .i64,.int .i64] x.hang.n λi=>QA.enc (x.hang.get i))]
theorem QXa :exec (mkE prog Km) (QFs prog x T sure may c m) (QT f13 0) (JSt.inst (qL x T sure may c) g) (KG [] QNs) = .br (decide ((c:Int)<(x.d.ps.n:Int))) (.ak [0=0,0=0,0=0,T.length=T.length,cO=cO,sure=sure,may=may,(c:Int)=(c:Int),(0:Int)=0,(0:Int)=0] (.ak (xq x) (.ak [T.length=T.length,Q1 2 T.length (λi=>(QG T i).length) (λi=>(QG T i).length) (λi j=>QA.enc ((QG T i).getD j ⟨0,0⟩)) λi j=>QA.enc ((QG T i).getD j ⟨0,0⟩)] (.ak (xp x) (.asm (True) (.all (λ(g0:Nat->Value)=>.br (m==(T.length:Int)) (.need (true&&(true&&true)&&decide (((0:Int)<=(c:Int)/\(c:Int)<=60)/\(0:Int)<=sure/\sure<=1152921504606846976)) (.br (decide (m>0)) (.need (true&&(true&&true)&&decide (((0:Int)<=(c:Int)/\(c:Int)<=60)/\(0:Int)<=may/\may<=1152921504606846976)) (.leaf (.tup [.nilp,.ptr 76 0 0,.ptr 8 0 0,.slz 24 0 T.length cO,vi (JZ sure (c:Int)),vi (JZ may (c:Int)),vi (i64.wrap ((c:Int)+1))]) ((WH T x)))) (.leaf (.tup [.nilp,.ptr 76 0 0,.ptr 8 0 0,.slz 24 0 T.length cO,vi (JZ sure (c:Int)),vi may,vi (i64.wrap ((c:Int)+1))]) ((WH T x))))) (.br (decide (m>0)) (.need (true&&(true&&true)&&decide (((0:Int)<=(c:Int)/\(c:Int)<=60)/\(0:Int)<=may/\may<=1152921504606846976)) (.leaf (.tup [.nilp,.ptr 76 0 0, .ptr 8 0 0,.slz 24 0 T.length cO,vi sure,vi (JZ may (c:Int)),vi (i64.wrap ((c:Int)+1))]) ((WH T x)))) (.leaf (.tup [.nilp,.ptr 76 0 0,.ptr 8 0 0,.slz 24 0 T.length cO,vi sure,vi may,vi (i64.wrap ((c:Int)+1))]) ((WH T x))))))))))) (.leaf (.tup [.ptr 0 0 0,.ptr 76 0 0,vi sure,vi may]) ([])):=by kernel_rfl
abbrev ZZ:List Prop:=
  [0=0,0=0,0=0,T.length=T.length,cO=cO]
abbrev Zp(x:QD):List Prop:=
  [x.d.pK.length=x.d.pK.length,x.d.pK.aK=x.d.pK.aK,x.d.pK.oK=x.d.pK.oK,x.d.pK.dK.lo=x.d.pK.dK.lo,x.d.pK.dK.hi=x.d.pK.dK.hi,
  x.d.wide=x.d.wide,x.d.high=x.d.high,x.d.turn=x.d.turn,0=0,x.d.ps.n=x.d.ps.n,cO=cO,0=0,x.sK.n=x.sK.n,cO=cO,0=0,x.hang.n =
  x.hang.n,cO=cO,x.lost=x.lost,x.fK=x.fK,T.length=T.length]
abbrev Gd(i:Nat)(x:QD):List Prop:=
  [Q1 2 T.length (λi=>(QG T i).length) (λi=>(QG T i).length) (λi j=>QA.enc ((QG T i).getD j ⟨0,0⟩)) λi j=>QA.enc ((QG T i).getD j ⟨0,0⟩),
  x.d.ps.n<=x.d.ps.n,QC 28 x.d.ps.n (λi=>QA.enc (x.d.ps.get i)) λi=>QA.enc (x.d.ps.get i),x.sK.n<=x.sK.n,QC 28 x.sK.n (λi=>QA.enc
  (x.sK.get i)) λi=>QA.enc (x.sK.get i),x.hang.n<=x.hang.n]
theorem Qef(i:Nat)(b':Bool)(k k':Nat):QI 8 [.ptr 8 0 0,.slz 24 0 T.length cO,vi sure,vi may,vi (c:Int),vi m,vi (i:Int),.bool true true,vi (i64.wrap ((k:Int)+1))] ((ZM T i x)) (vl x T sure may c m i b' k')=(some ((ZZ T)++[sure=sure,may=may,(c:Int)=(c:Int),m=m, (i:Int)=(i:Int),true=b',i64.wrap ((k:Int)+1)=(k':Int)]++(Zp T x)++(Gd T i x)++[QC 4 x.hang.n (λi=>QA.enc (x.hang.get i)) λi=>QA.enc (x.hang.get i)])):=by kernel_rfl
theorem QgW(i:Nat)(b':Bool)(k k':Nat):QI 8 [.ptr 8 0 0,.slz 24 0 T.length cO,vi sure,vi may,vi (c:Int),vi m,vi (i:Int),.bool false (((QG T i).getD k ⟨0,0⟩).cell==(c:Int)),vi (i64.wrap ((k:Int)+1))] ((ZM T i x)) (vl x T sure may c m i b' k')=(some ((ZZ T)++[sure=sure,may=may,(c:Int)=(c:Int),m=m,(i:Int)=(i:Int),(((QG T i).getD k ⟨0,0⟩).cell==(c:Int))=b',i64.wrap ((k:Int)+1)=(k':Int)]++(Zp T x)++(Gd T i x)++[QC 4 x.hang.n (λi=>QA.enc (x.hang.get i)) λi=>QA.enc (x.hang.get i)])):=by kernel_rfl
theorem QWI(i:Nat)(b b':Bool):QI 8 [.ptr 8 0 0,.slz 24 0 T.length cO,vi sure,vi may,vi (c:Int),vi m,vi (i:Int),.bool false b] ((ZM T i x)) (QJA x T sure may c m i b')=(some ((ZZ T)++[sure=sure,may=may,(c:Int)=(c:Int),m=m,(i:Int)=(i:Int),b=b']++(Zp T x)++(Gd T i x) ++ [QC 4 x.hang.n (λi=>QA.enc (x.hang.get i)) λi=>QA.enc (x.hang.get i)])):=by kernel_rfl
theorem Qb7(m m':Int)(i i':Nat):QI 8 [.ptr 8 0 0,.slz 24 0 T.length cO,vi sure,vi may,vi (c:Int),vi (i64.wrap (m+1)),vi (i64.wrap ((i:Int)+1))] ((ZM T i x)) (zn x T sure may c m' i')=(some ((ZZ T)++[sure=sure,may=may,(c:Int)=(c:Int),i64.wrap (m+1)=m', i64.wrap ((i:Int)+1)=(i':Int)]++(Zp T x)++(Gd T i x)++[QC 4 x.hang.n (λi=>QA.enc (x.hang.get i)) λi=>QA.enc (x.hang.get i)])):=by kernel_rfl
theorem QZp(m m':Int)(i i':Nat):QI 8 [.ptr 8 0 0,.slz 24 0 T.length cO,vi sure,vi may,vi (c:Int),vi m,vi (i64.wrap ((i:Int)+1))] ((ZM T i x)) (zn x T sure may c m' i')=(some ((ZZ T)++[sure=sure,may=may,(c:Int)=(c:Int),m=m',i64.wrap ((i:Int)+1)=(i':Int)] ++ (Zp T x)++(Gd T i x)++[QC 4 x.hang.n (λi=>QA.enc (x.hang.get i)) λi=>QA.enc (x.hang.get i)])):=by kernel_rfl
abbrev HD(x:QD):List Prop:=
  [Q1 2 T.length (λi=>(QG T i).length) (λi=>(QG T i).length) (λi j=>QA.enc ((QG T i).getD j ⟨0,0⟩)) λi j=>QA.enc ((QG T i).getD j ⟨0,0⟩),
  x.d.ps.n<=x.d.ps.n,QC 28 x.d.ps.n (λi=>QA.enc (x.d.ps.get i)) λi=>QA.enc (x.d.ps.get i),x.sK.n<=x.sK.n,QC 28 x.sK.n (λi=>QA.enc
  (x.sK.get i)) λi=>QA.enc (x.sK.get i),x.hang.n<=x.hang.n]
theorem QWV(m m':Int):QI 8 [.ptr 8 0 0,.slz 24 0 T.length cO,vi sure,vi may,vi (c:Int),vi m] ((WH T x)) (QHk x T sure may c m')=( some ((ZZ T)++[sure=sure,may=may,(c:Int)=(c:Int),m=m']++(Zp T x)++(HD T x)++[QC 4 x.hang.n (λi=>QA.enc (x.hang.get i)) λi=>QA.enc (x.hang.get i)])):=by kernel_rfl
theorem Qb4(sure may sure' may':Int)(c c':Nat):QI 8 [.ptr 8 0 0,.slz 24 0 T.length cO,vi (JZ sure (c:Int)),vi (JZ may (c:Int)),vi (i64.wrap ((c:Int)+1))] ((WH T x)) (qL x T sure' may' c')=(some ((ZZ T)++[JZ sure (c:Int)=sure',JZ may (c:Int)=may',i64.wrap ((c:Int)+1)=(c':Int)]++(Zp T x) ++ (HD T x)++[QC 4 x.hang.n (λi=>QA.enc (x.hang.get i)) λi=>QA.enc (x.hang.get i)])):=by kernel_rfl
theorem QgN(sure may sure' may':Int)(c c':Nat):QI 8 [.ptr 8 0 0,.slz 24 0 T.length cO,vi (JZ sure (c:Int)),vi may,vi (i64.wrap ((c:Int)+1))] ((WH T x)) (qL x T sure' may' c')=(some ((ZZ T)++[JZ sure (c:Int)=sure',may=may',i64.wrap ((c:Int)+1)=(c':Int)]++(Zp T x)++(HD T x)++[QC 4 x.hang.n (λi=>QA.enc (x.hang.get i)) λi=>QA.enc (x.hang.get i)])):=by kernel_rfl
theorem QfG(sure may sure' may':Int)(c c':Nat):QI 8 [.ptr 8 0 0,.slz 24 0 T.length cO,vi sure,vi (JZ may (c:Int)),vi (i64.wrap ((c:Int)+1))] ((WH T x)) (qL x T sure' may' c')=(some ((ZZ T)++[sure=sure',JZ may (c:Int)=may',i64.wrap ((c:Int)+1)=(c':Int)]++(Zp T x)++(HD T x)++[QC 4 x.hang.n (λi=>QA.enc (x.hang.get i)) λi=>QA.enc (x.hang.get i)])):=by kernel_rfl
theorem QdC(sure may sure' may':Int)(c c':Nat):QI 8 [.ptr 8 0 0,.slz 24 0 T.length cO,vi sure,vi may,vi (i64.wrap ((c:Int)+1))] ((WH T x)) (qL x T sure' may' c')=(some ((ZZ T)++[sure=sure',may=may',i64.wrap ((c:Int)+1)=(c':Int)]++(Zp T x)++(HD T x)++[QC 4 x.hang.n (λi=>QA.enc (x.hang.get i)) λi=>QA.enc (x.hang.get i)])):=by kernel_rfl
theorem QWf(sure may sure' may':Int):QI 8 [vi sure,vi may] ([]) (QHo sure' may')=( some [sure=sure',may=may']):=by kernel_rfl
