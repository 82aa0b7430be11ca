/- - -/
import Derived.Test.YtbpffdkemeoajaaMva
open Go.IntKind (i64)
namespace Go.SX
section
variable {α σ:Type} (C:List α→List α) (ok:List α→α→Bool) (fin:List α→Bool)
def Xn:Nat→List α→List (List α)
 | 0,l=>cond (fin l) [l] []
 | d+1,l=>(C l).flatMap fun c=>cond (ok l c) (Xn d (l++[c])) []
def vN:List α→List α→Prop
 | _,[]=>True
 | l,c::t=>c∈C l∧ok l c=true∧vN (l++[c]) t
theorem QUS{d:Nat}{l l':List α}:l'∈Xn C ok fin d l↔∃ t,t.length=d∧l'=l++t∧vN C ok l t∧fin l'=true:=by
 induction d generalizing l with
 | zero=>
  simp only[Xn];cases h:fin l with
  | true=>
   simp only[cond_true,List.mem_singleton];constructor
   ·rintro rfl;exact⟨[],rfl,by simp,trivial,h⟩
   ·rintro⟨t,ht,rfl,_,_⟩;rw[List.length_eq_zero_iff]at ht;subst ht;simp
  | false=>
   simp only[cond_false,List.not_mem_nil,false_iff];rintro⟨t,ht,rfl,_,hf⟩;rw[List.length_eq_zero_iff]at ht;subst ht;rw[List.append_nil,h]at hf;cases hf
 | succ d ih=>
  simp only[Xn,List.mem_flatMap];constructor
  ·rintro⟨c,hc,hm⟩;cases ho:ok l c with
   | false=>rw[ho]at hm;cases hm
   | true=>
    rw[ho]at hm;obtain⟨t,h1,h2,h3,h4⟩:=ih.1 hm;exact⟨c::t,by simp[h1],by rw[h2];simp,⟨hc,ho,h3⟩,h4⟩
  ·rintro⟨t,h1,h2,h3,h4⟩
   match t,h1,h2,h3 with
   | c::t,h1,h2,h3=>
    refine⟨c,h3.1,?_⟩;rw[h3.2.1];exact ih.2 ⟨t,by simpa using h1,by rw[h2];simp,h3.2.2,h4⟩
theorem QJ7{l t:List α}:vN C ok l t↔∀ i (h:i<t.length),t[i]∈C (l++t.take i)∧ok (l++t.take i) t[i]=true:=by
 induction t generalizing l with
 | nil=>simp[vN]
 | cons c t ih=>
  simp only[vN,ih];constructor
  ·rintro⟨h1,h2,h3⟩ i hi;cases i with
   | zero=>simpa using ⟨h1,h2⟩
   | succ i=>
    have:=h3 i (by simpa using hi)
    simpa[List.append_assoc]using this
  ·intro h;have h0:=h 0 (by simp)
   refine⟨by simpa using h0.1,by simpa using h0.2,fun i hi => ?_⟩
   have:=h (i+1) (by simpa using hi)
   simpa[List.append_assoc]using this
theorem QKT{B:Nat}(hC:∀ l,(C l).length≤B):∀(d:Nat) (l:List α),(Xn C ok fin d l).length≤B^d
 | 0,l=>by
  simp only[Xn];cases fin l<;>simp
 | d+1,l=>by
  simp only[Xn]
  have key:∀ cs:List α,(cs.flatMap fun c=>cond (ok l c) (Xn C ok fin d (l++[c])) []).length≤cs.length*B^d:=by
   intro cs
   induction cs with
   | nil=>simp
   | cons c cs ih=>
    rw[List.flatMap_cons,List.length_append,List.length_cons,Nat.succ_mul]
    have:(cond (ok l c) (Xn C ok fin d (l++[c])) []).length≤B^d:=by
     cases ok l c
     ·exact Nat.zero_le _
     ·exact QKT hC d _
    omega
  refine Nat.le_trans (key (C l)) ?_;rw[Nat.pow_succ,Nat.mul_comm];exact Nat.mul_le_mul_left _ (hC l)
def Jg(Y:σ→List α→σ×Bool):List (List α)→σ→σ×Bool
 | [],s=>(s,true)
 | l::ls,s=>match Y s l with
  | (s',true)=>Jg Y ls s'
  | (s',false)=>(s',false)
theorem QMY(Y:σ→List α→σ×Bool):∀(a b:List (List α)) (s:σ),Jg Y (a++b) s=match Jg Y a s with
  | (s',true)=>Jg Y b s'
  | (s',false)=>(s',false)
 | [],b,s=>rfl
 | l::a,b,s=>by
  simp only[List.cons_append,Jg];cases h:Y s l with
  | mk s' q=>
   cases q with
   | true=>simpa using QMY Y a b s'
   | false=>rfl
theorem QJK{Y:σ→List α→σ×Bool}(hY:∀ s l,(Y s l).2=true):∀(ls:List (List α)) (s:σ),Jg Y ls s=(ls.foldl (fun s l=>(Y s l).1) s,true)
 | [],s=>rfl
 | l::ls,s=>by
  have h:=hY s l;simp only[Jg,List.foldl_cons];rw[←QJK hY ls];cases e:Y s l with
  | mk s' q=>
   rw[e]at h;simp only at h;subst h;rfl
end
end Go.SX
namespace Go.SX
open Go
def Ki(s:Int)(k:Nat):Bool:=(BitVec.ofInt 64 s).getLsbD k
theorem zV(n:Int):i64.wrap n=(BitVec.ofInt 64 n).toInt:=by
 rw[BitVec.toInt_ofInt];simp only[IntKind.wrap,IntKind.bits,IntKind.signed,Int.bmod,Bool.true_and];split<;>rename_i h<;>simp at h<;>split<;>rename_i h2<;>first|rfl|omega
theorem QR2(v:BitVec 64):i64.wrap (v.toNat:Int)=v.toInt:=by
 rw[zV];congr 1;simp
theorem QPj(n:Int):BitVec.ofInt 64 (i64.wrap n)=BitVec.ofInt 64 n:=by
 rw[zV,BitVec.ofInt_toInt]
theorem QGK(k:Nat):Ki 0 k=false:=by simp[Ki]
theorem QUl(c:Nat):BitVec.ofInt 64 (1*2^min c 64)=BitVec.twoPow 64 c:=by
 rw[Int.one_mul];have e:((2:Int)^min c 64)=((2^min c 64:Nat):Int):=by simp
 rw[e,BitVec.ofInt_natCast];apply BitVec.eq_of_toNat_eq;rw[BitVec.toNat_ofNat,BitVec.toNat_twoPow];rcases Nat.lt_or_ge c 64 with h|h
 ·rw[Nat.min_eq_left (by omega)]
 ·rw[Nat.min_eq_right h];rw[Nat.mod_self,Nat.mod_eq_zero_of_dvd (Nat.pow_dvd_pow 2 h)]
theorem QTP(a b:Int)(k:Nat):Ki (i64.wrap ((BitVec.ofInt 64 a ||| BitVec.ofInt 64 b).toNat:Nat)) k=(Ki a k||Ki b k):=by
 rw[QR2];unfold Ki;rw[BitVec.ofInt_toInt,BitVec.getLsbD_or]
theorem QQe(c k:Nat):Ki (i64.wrap (1*2^min c 64)) k=(decide (k<64)&&decide (c=k)):=by
 unfold Ki;rw[QPj,QUl,BitVec.getLsbD_twoPow]
 by_cases h:k<64<;>by_cases h2:c=k<;>simp[h,h2]
def Xk(n:Int):Prop := -9223372036854775808≤n∧n≤9223372036854775807
theorem QMk(n:Int):Xk (i64.wrap n):=by
 rw[zV];have h1:=BitVec.le_toInt (BitVec.ofInt 64 n);have h2:=BitVec.toInt_le (x:=BitVec.ofInt 64 n);exact⟨by simpa using h1,by have:=BitVec.toInt_lt (x:=BitVec.ofInt 64 n);simp at this;omega⟩
theorem QAF{n:Int}(h:Xk n):i64.wrap n=n:=by
 obtain⟨h1,h2⟩:=h;simp only[IntKind.wrap,IntKind.bits,IntKind.signed,Bool.true_and];split<;>rename_i h<;>simp at h<;>omega
def QLh(s:Int)(k:Nat):Int:=i64.wrap (((BitVec.ofInt 64 (s.fdiv (2^min k 64)) &&& BitVec.ofInt 64 1).toNat:Nat):Int)
theorem QQI{s:Int}(hs:Xk s){k:Nat}(hk:k<64):QLh s k=if Ki s k=true then 1 else 0:=by
 unfold QLh
 have e:BitVec.ofInt 64 (s.fdiv (2^min k 64))=(BitVec.ofInt 64 s).sshiftRight k:=by
  rw[Nat.min_eq_left (by omega)]
  apply BitVec.eq_of_toInt_eq;rw[BitVec.toInt_sshiftRight,Int.shiftRight_eq_div_pow,←zV,←zV,QAF hs,Int.fdiv_eq_ediv_of_nonneg _ (Int.le_of_lt (Int.pow_pos (by omega)))]
  have e2:(((2^k:Nat):Int))=(2:Int)^k:=by simp
  rw[e2];refine QAF ⟨?_,?_⟩
  ·obtain⟨h1,_⟩:=hs;have hp:(1:Int)≤2^k:=Int.pow_pos (by omega)
   refine(Int.le_ediv_iff_mul_le (by omega)).2 ?_
   have:(-9223372036854775808:Int)*2^k ≤ -9223372036854775808*1:=Int.mul_le_mul_of_nonpos_left (by omega) hp
   omega
  ·obtain⟨_,h2⟩:=hs;have hp:(1:Int)≤2^k:=Int.pow_pos (by omega)
   refine Int.le_of_lt_add_one ?_;refine(Int.ediv_lt_iff_lt_mul (by omega)).2 ?_
   have:(9223372036854775807+1:Int)*1≤(9223372036854775807+1)*2^k:=Int.mul_le_mul_of_nonneg_left hp (by omega)
   omega
 rw[e]
 have h0:((BitVec.ofInt 64 s).sshiftRight k &&& BitVec.ofInt 64 1)=if Ki s k=true then 1#64 else 0#64:=by
  apply BitVec.eq_of_getLsbD_eq;intro i hi;have e1:BitVec.ofInt 64 1=1#64:=rfl;rw[BitVec.getLsbD_and,e1,BitVec.getLsbD_one]
  by_cases h:i=0
  ·subst h;rw[BitVec.getLsbD_sshiftRight];have:k+0<64:=by omega
   simp only[this,if_true];unfold Ki;cases (BitVec.ofInt 64 s).getLsbD k<;>simp
  ·have:decide (i=0)=false:=by simpa using h
   rw[this];split
   ·rw[BitVec.getLsbD_one];simp[this]
   ·simp
 rw[h0];split<;>decide
theorem QFW{s c:Int}(hc:0≤c)(k:Nat):Ki (i64.wrap ((BitVec.ofInt 64 s ||| BitVec.ofInt 64 (i64.wrap (1*2^min c.toNat 64))).toNat:Nat)) k=(Ki s k||(decide (k<64)&&decide (c=k))):=by
 rw[QTP,QQe];congr 2;apply decide_eq_decide.2;omega
end Go.SX
