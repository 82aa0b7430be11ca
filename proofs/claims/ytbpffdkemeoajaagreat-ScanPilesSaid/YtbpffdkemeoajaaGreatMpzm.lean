/- - -/
import Derived.Test.YtbpffdkemeoajaaGreatMpa
open Go.IntKind (i64)
namespace Go.SX
section
variable {α σ:Type} (C:List α->List α) (ok:List α->α->Bool) (fin:List α->Bool)
def VX:Nat->List α->List (List α)
 | 0,l=>cond (fin l) [l] []
 | d+1,l=>(C l).flatMap λc=>cond (ok l c) (VX d (l++[c])) []
def GZ:List α->List α->Prop
 | _,[]=>True
 | l,c::t=>c∈C l/\ok l c=true/\GZ (l++[c]) t
theorem QI7{d:Nat}{l l':List α}:l'∈VX C ok fin d l↔∃ t,t.length=d/\l'=l++t/\GZ C ok l t/\fin l'=true:=by
 induction d generalizing l with
 | zero=>
  simp only[VX];cases h:fin l with
  | true=>
   simp only[cond_true,List.mem_singleton];constructor
   .rintro rfl;exact⟨[],rfl,by simp,trivial,h⟩
   .rintro⟨t,ht,rfl,_,_⟩;rw[List.length_eq_zero_iff]at ht;subst ht;simp
  | false=>
   simp only[cond_false,List.not_mem_nil,false_iff];rintro⟨t,ht,rfl,_,hf⟩;rw[List.length_eq_zero_iff]at ht;subst ht;rw[List.append_nil,h]at hf;cases hf
 | succ d ih=>
  simp only[VX,List.mem_flatMap];constructor
  .rintro⟨c,hc,hm⟩;cases ho:ok l c with
   | false=>rw[ho]at hm;cases hm
   | true=>
    rw[ho]at hm;obtain⟨t,h1,h2,h3,h4⟩:=ih.1 hm;exact⟨c::t,by simp[h1],by rw[h2];simp,⟨hc,ho,h3⟩,h4⟩
  .rintro⟨t,h1,h2,h3,h4⟩
   match t,h1,h2,h3 with
   | c::t,h1,h2,h3=>
    refine⟨c,h3.1,?_⟩;rw[h3.2.1];exact ih.2 ⟨t,by simpa using h1,by rw[h2];simp,h3.2.2,h4⟩
theorem QCl{l t:List α}:GZ C ok l t↔∀ i (h:i<t.length),t[i]∈C (l++t.take i)/\ok (l++t.take i) t[i]=true:=by
 induction t generalizing l with
 | nil=>simp[GZ]
 | cons c t ih=>
  simp only[GZ,ih];constructor
  .rintro⟨h1,h2,h3⟩ i hi;cases i with
   | zero=>simpa using ⟨h1,h2⟩
   | succ i=>
    have:=h3 i (by simpa using hi)
    simpa[List.append_assoc]using this
  .intro h;have h0:=h 0 (by simp)
   refine⟨by simpa using h0.1,by simpa using h0.2,λi hi=>?_⟩
   have:=h (i+1) (by simpa using hi)
   simpa[List.append_assoc]using this
def vZ(lt:α->α->Prop)(a b:List α):Prop:=∃ p x y s t,a=p++x::s/\b=p++y::t/\lt x y
theorem QL7{d:Nat}{l l':List α}(h:l'∈VX C ok fin d l):∃ t,l'=l++t/\t.length=d:=by
 obtain⟨t,h1,h2,_⟩:=(QI7 C ok fin).1 h;exact⟨t,h2,h1⟩
theorem QFQ{lt:α->α->Prop}(hC:∀ l,(C l).Pairwise lt):∀(d:Nat) (l:List α),(VX C ok fin d l).Pairwise (vZ lt)
 | 0,l=>by
  simp only[VX];cases fin l<;>simp
 | d+1,l=>by
  simp only[VX];generalize hcs:C l=cs;have hp:cs.Pairwise lt:=hcs ▸ hC l;clear hcs
  induction cs with
  | nil=>simp
  | cons c cs ih=>
   rw[List.pairwise_cons]at hp;rw[List.flatMap_cons,List.pairwise_append];refine⟨?_,ih hp.2,?_⟩
   .cases ok l c
    .simp
    .exact QFQ hC d _
   .intro a ha b hb;obtain⟨y,hy,hb⟩:=List.mem_flatMap.1 hb;cases h1:ok l c with
    | false=>rw[h1]at ha;cases ha
    | true=>
     cases h2:ok l y with
     | false=>rw[h2]at hb;cases hb
     | true=>
      rw[h1]at ha;rw[h2]at hb;obtain⟨s,rfl,_⟩:=QL7 C ok fin ha;obtain⟨t,rfl,_⟩:=QL7 C ok fin hb;exact⟨l,c,y,s,t,by simp,by simp,hp.1 y hy⟩
theorem QDb{B:Nat}(hC:∀ l,(C l).length<=B):∀(d:Nat) (l:List α),(VX C ok fin d l).length<=B^d
 | 0,l=>by
  simp only[VX];cases fin l<;>simp
 | d+1,l=>by
  simp only[VX]
  have key:∀ cs:List α,(cs.flatMap λc=>cond (ok l c) (VX C ok fin d (l++[c])) []).length<=cs.length*B^d:=by
   intro cs
   induction cs with
   | nil=>simp
   | cons c cs ih=>
    rw[List.flatMap_cons,List.length_append,List.length_cons,Nat.succ_mul]
    have:(cond (ok l c) (VX C ok fin d (l++[c])) []).length<=B^d:=by
     cases ok l c
     .exact Nat.zero_le _
     .exact QDb hC d _
    omega
  refine Nat.le_trans (key (C l)) ?_;rw[Nat.pow_succ,Nat.mul_comm];exact Nat.mul_le_mul_left _ (hC l)
theorem QVf{lt:α->α->Prop}(h:∀ x,¬ lt x x){a b:List α}(hl:vZ lt a b):a≠b:=by
 obtain⟨p,x,y,s,t,rfl,rfl,hlt⟩:=hl;intro e;rw[List.append_cancel_left_eq]at e;obtain⟨rfl,_⟩:=List.cons.inj e;exact h _ hlt
def VG(Y:σ->List α->σ×Bool):List (List α)->σ->σ×Bool
 | [],s=>(s,true)
 | l::ls,s=>match Y s l with
  | (s',true)=>VG Y ls s'
  | (s',false)=>(s',false)
theorem QJF(Y:σ->List α->σ×Bool):∀(a b:List (List α)) (s:σ),VG Y (a++b) s=match VG Y a s with
  | (s',true)=>VG Y b s'
  | (s',false)=>(s',false)
 | [],b,s=>rfl
 | l::a,b,s=>by
  simp only[List.cons_append,VG];cases h:Y s l with
  | mk s' q=>
   cases q with
   | true=>simpa using QJF Y a b s'
   | false=>rfl
theorem QEP{Y:σ->List α->σ×Bool}(hY:∀ s l,(Y s l).2=true):∀(ls:List (List α)) (s:σ),VG Y ls s=(ls.foldl (λs l=>(Y s l).1) s,true)
 | [],s=>rfl
 | l::ls,s=>by
  have h:=hY s l;simp only[VG,List.foldl_cons];rw[<-QEP hY ls];cases e:Y s l with
  | mk s' q=>
   rw[e]at h;simp only at h;subst h;rfl
end
open Go
def Ql(s:Int)(k:Nat):Bool:=(BitVec.ofInt 64 s).getLsbD k
theorem qj(n:Int):i64.wrap n=(BitVec.ofInt 64 n).toInt:=by
 rw[BitVec.toInt_ofInt];simp only[IntKind.wrap,IntKind.bits,IntKind.signed,Int.bmod,Bool.true_and];split<;>rename_i h<;>simp at h<;>split<;>rename_i h2<;>first|rfl|omega
theorem QPZ(v:BitVec 64):i64.wrap (v.toNat:Int)=v.toInt:=by
 rw[qj];congr 1;simp
theorem QY3(n:Int):BitVec.ofInt 64 (i64.wrap n)=BitVec.ofInt 64 n:=by
 rw[qj,BitVec.ofInt_toInt]
variable {a s:Int}(k:Nat)
theorem Zh:Ql 0 k=false:=by simp[Ql]
theorem QN8(c:Nat):BitVec.ofInt 64 (1*2^min c 64)=BitVec.twoPow 64 c:=by
 rw[Int.one_mul];have e:((2:Int)^min c 64)=((2^min c 64:Nat):Int):=by simp
 rw[e,BitVec.ofInt_natCast];apply BitVec.eq_of_toNat_eq;rw[BitVec.toNat_ofNat,BitVec.toNat_twoPow];rcases Nat.lt_or_ge c 64 with h|h
 .rw[Nat.min_eq_left (by omega)]
 .rw[Nat.min_eq_right h];rw[Nat.mod_self,Nat.mod_eq_zero_of_dvd (Nat.pow_dvd_pow 2 h)]
theorem QQ3(a b:Int)(k:Nat):Ql (i64.wrap ((BitVec.ofInt 64 a ||| BitVec.ofInt 64 b).toNat:Nat)) k=(Ql a k||Ql b k):=by
 rw[QPZ];unfold Ql;rw[BitVec.ofInt_toInt,BitVec.getLsbD_or]
theorem QKz(a b:Int)(k:Nat):Ql (i64.wrap ((BitVec.ofInt 64 a &&& ~~~BitVec.ofInt 64 b).toNat:Nat)) k=(Ql a k && !Ql b k):=by
 rw[QPZ];unfold Ql;rw[BitVec.ofInt_toInt,BitVec.getLsbD_and,BitVec.getLsbD_not]
 by_cases h:k<64
 .simp[h]
 .rw[BitVec.getLsbD_of_ge _ k (by omega)];simp
theorem QZk(c k:Nat):Ql (i64.wrap (1*2^min c 64)) k=(decide (k<64)&&decide (c=k)):=by
 unfold Ql;rw[QY3,QN8,BitVec.getLsbD_twoPow]
 by_cases h:k<64<;>by_cases h2:c=k<;>simp[h,h2]
def Kh(n:Int):Prop := -9223372036854775808<=n/\n<=9223372036854775807
theorem vg(n:Int):Kh (i64.wrap n):=by
 rw[qj];have h1:=BitVec.le_toInt (BitVec.ofInt 64 n);have h2:=BitVec.toInt_le (x:=BitVec.ofInt 64 n);exact⟨by simpa using h1,by have:=BitVec.toInt_lt (x:=BitVec.ofInt 64 n);simp at this;omega⟩
theorem XK{n:Int}(h:Kh n):i64.wrap n=n:=by
 obtain⟨h1,h2⟩:=h;simp only[IntKind.wrap,IntKind.bits,IntKind.signed,Bool.true_and];split<;>rename_i h<;>simp at h<;>omega
theorem QCI{b:Int}(ha:Kh a)(hb:Kh b)(h:∀ k,Ql a k=Ql b k):a=b:=by
 have e:BitVec.ofInt 64 a=BitVec.ofInt 64 b:=BitVec.eq_of_getLsbD_eq λi _=>h i;rw[<-XK ha,<-XK hb,qj,qj,e]
theorem QEo(h:0<=a)(h2:Kh a)(k:Nat):Ql a k=a.toNat.testBit k:=by
 unfold Ql;obtain⟨n,rfl⟩:=Int.eq_ofNat_of_zero_le h;rw[BitVec.ofInt_natCast];obtain⟨h3,h4⟩:=h2;rw[BitVec.getLsbD_ofNat]
 by_cases hk:k<64
 .simp[hk]
 .simp only[hk,decide_false,Bool.false_and,Int.toNat_natCast];symm;apply Nat.testBit_lt_two_pow;have:2^64<=2^k:=Nat.pow_le_pow_right (by omega) (by omega)
  omega
theorem Qgz(ha:Kh a){n:Nat}(hn:n<64)(h:∀ k,n<=k->Ql a k=false):0<=a/\a<2^n:=by
 have e:a=((BitVec.ofInt 64 a).toNat:Int):=by
  have h63:(BitVec.ofInt 64 a).msb=false:=by
   rw[BitVec.msb_eq_getLsbD_last];exact h 63 (by omega)
  rw[<-BitVec.toInt_eq_toNat_of_msb h63,<-qj,XK ha]
 have h1:(BitVec.ofInt 64 a).toNat<2^n:=by
  apply Nat.lt_pow_two_of_testBit;intro i hi;have:=h i hi;unfold Ql at this
  rwa [<-BitVec.testBit_toNat]at this
 rw[e];refine⟨Int.natCast_nonneg _,?_⟩;have:((2:Int)^n)=((2^n:Nat):Int):=by simp
 rw[this];exact Int.ofNat_lt.2 h1
def bitV(s:Int)(k:Nat):Bool:=i64.wrap (((BitVec.ofInt 64 (s.fdiv (2^min k 64)) &&& BitVec.ofInt 64 1).toNat:Nat):Int)==1
def QFD(s:Int)(k:Nat):Int:=i64.wrap (((BitVec.ofInt 64 (s.fdiv (2^min k 64)) &&& BitVec.ofInt 64 1).toNat:Nat):Int)
theorem QW7(hs:Kh s){k:Nat}(hk:k<64):QFD s k=if Ql s k=true then 1 else 0:=by
 unfold QFD
 have e:BitVec.ofInt 64 (s.fdiv (2^min k 64))=(BitVec.ofInt 64 s).sshiftRight k:=by
  rw[Nat.min_eq_left (by omega)]
  apply BitVec.eq_of_toInt_eq;rw[BitVec.toInt_sshiftRight,Int.shiftRight_eq_div_pow,<-qj,<-qj,XK hs,Int.fdiv_eq_ediv_of_nonneg _ (Int.le_of_lt (Int.pow_pos (by omega)))]
  have e2:(((2^k:Nat):Int))=(2:Int)^k:=by simp
  rw[e2];refine XK ⟨?_,?_⟩
  .obtain⟨h1,_⟩:=hs;have hp:(1:Int)<=2^k:=Int.pow_pos (by omega)
   refine(Int.le_ediv_iff_mul_le (by omega)).2 ?_
   have:(-9223372036854775808:Int)*2^k <= -9223372036854775808*1:=Int.mul_le_mul_of_nonpos_left (by omega) hp
   omega
  .obtain⟨_,h2⟩:=hs;have hp:(1:Int)<=2^k:=Int.pow_pos (by omega)
   refine Int.le_of_lt_add_one ?_;refine(Int.ediv_lt_iff_lt_mul (by omega)).2 ?_
   have:(9223372036854775807+1:Int)*1<=(9223372036854775807+1)*2^k:=Int.mul_le_mul_of_nonneg_left hp (by omega)
   omega
 rw[e]
 have h0:((BitVec.ofInt 64 s).sshiftRight k &&& BitVec.ofInt 64 1)=if Ql s k=true then 1#64 else 0#64:=by
  apply BitVec.eq_of_getLsbD_eq;intro i hi;have e1:BitVec.ofInt 64 1=1#64:=rfl;rw[BitVec.getLsbD_and,e1,BitVec.getLsbD_one]
  by_cases h:i=0
  .subst h;rw[BitVec.getLsbD_sshiftRight];have:k+0<64:=by omega
   simp only[this,if_true];unfold Ql;cases (BitVec.ofInt 64 s).getLsbD k<;>simp
  .have:decide (i=0)=false:=by simpa using h
   rw[this];split
   .rw[BitVec.getLsbD_one];simp[this]
   .simp
 rw[h0];split<;>decide
theorem bitV_bit(hs:Kh s){k:Nat}(hk:k<64):bitV s k=Ql s k:=by
 show(QFD s k==1)=_;rw[QW7 hs hk];cases Ql s k<;>rfl
theorem vB{c:Int}(hc:0<=c)(k:Nat):Ql (i64.wrap ((BitVec.ofInt 64 s ||| BitVec.ofInt 64 (i64.wrap (1*2^min c.toNat 64))).toNat:Nat)) k=(Ql s k||(decide (k<64)&&decide (c=k))):=by
 rw[QQ3,QZk];congr 2;apply decide_eq_decide.2;omega
