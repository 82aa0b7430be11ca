/- - -/
import Derived.Test.YtbpffdkemeoajaaGreatMpzm
namespace Go.SX
open Go
def HT(s:Int)(n:Nat):Bool:=(s.tdiv (2^n)).tmod 2==1
def YL(s:Int)(n:Nat):Int:=cond (HT s n) s (s+2^n)
variable {s:Int}{m:Nat}
theorem QU9(h0:0<=s)(hi:Kh s)(n:Nat):HT s n=Ql s n:=by
 rw[QEo h0 hi];obtain⟨a,rfl⟩:=Int.eq_ofNat_of_zero_le h0;unfold HT;have e2:((2:Int)^n)=((2^n:Nat):Int):=by simp
 rw[e2]
 have e3:((a:Int).tdiv ((2^n:Nat):Int))=((a / 2^n:Nat):Int):=by
  rw[Int.tdiv_eq_ediv_of_nonneg (Int.natCast_nonneg _)];simp
 have e4:(((a / 2^n:Nat):Int)).tmod 2=((a / 2^n % 2:Nat):Int):=by
  rw[Int.tmod_eq_emod_of_nonneg (Int.natCast_nonneg _)];simp
 rw[e3,e4,Int.toNat_natCast,Nat.testBit_eq_decide_div_mod_eq];rw[Bool.eq_iff_iff,beq_iff_eq,qdE];omega
theorem QEC(n m:Nat)(h:n<=m):(2:Int)^n<=2^m:=by
 have e:∀ k,((2:Int)^k)=((2^k:Nat):Int):=λk=>by simp
 rw[e,e];exact Int.ofNat_le.2 (Nat.pow_le_pow_right (by omega) h)
theorem QJb(h0:0<=s)(h1:s<2^m)(hm:m<=62):Kh s:=by
 have:=QEC m 62 hm;have e:(2:Int)^62=4611686018427387904:=by decide
 exact⟨by omega,by omega⟩
theorem QUj(h0:0<=s)(h1:s<2^m)(hm:m<=62){k:Nat}(hk:m<=k):Ql s k=false:=by
 rw[QEo h0 (QJb h0 h1 hm)];apply Nat.testBit_lt_two_pow;have e:((2:Int)^m)=((2^m:Nat):Int):=by simp
 rw[e]at h1;have:2^m<=2^k:=Nat.pow_le_pow_right (by omega) hk
 omega
theorem QVR{n:Nat}(hn:n<64)(h:Ql s n=false)(k:Nat):Ql (s+2^n) k=(Ql s k||decide (n=k)):=by
 have e:BitVec.ofInt 64 ((2:Int)^n)=BitVec.twoPow 64 n:=by
  have:=QN8 n
  rwa [Nat.min_eq_left (by omega),Int.one_mul]at this
 have hz:BitVec.ofInt 64 s &&& BitVec.twoPow 64 n=0#64:=by
  apply BitVec.eq_of_getLsbD_eq;intro i hi;rw[BitVec.getLsbD_and,BitVec.getLsbD_twoPow]
  by_cases q:n=i
  .subst q;have:(BitVec.ofInt 64 s).getLsbD n=false:=h;rw[this];simp
  .simp[q]
 unfold Ql;rw[BitVec.ofInt_add,e,BitVec.add_eq_or_of_and_eq_zero _ _ hz,BitVec.getLsbD_or,BitVec.getLsbD_twoPow]
 by_cases hk:k<64
 .by_cases q:n=k
  .subst q;simp[hn]
  .simp[q]
 .have:¬ n=k:=by omega
  simp[this]
structure Qes (s:Int) (n m:Nat):Prop where
 lo:0<=YL s n
 hi:YL s n<2^m
 b:∀ k,Ql (YL s n) k=(Ql s k||decide (n=k))
theorem vy{n:Nat}(h0:0<=s)(h1:s<2^m)(hm:m<=62)(hn:n<m):Qes s n m:=by
 have hi:=QJb h0 h1 hm;have hb:=QU9 h0 hi n;cases e:HT s n with
 | true=>
  have ew:YL s n=s:=by unfold YL;rw[e];rfl
  rw[e]at hb;refine⟨by rw[ew];exact h0,by rw[ew];exact h1,λk=>?_⟩
  rw[ew]
  by_cases q:n=k
  .subst q;rw[<-hb];simp
  .simp[q]
 | false=>
  have ew:YL s n=s+2^n:=by unfold YL;rw[e];rfl
  rw[e]at hb;have hbits:∀ k,Ql (s+2^n) k=(Ql s k||decide (n=k)):=QVR (by omega) hb.symm
  have p0:(0:Int)<2^n:=Int.pow_pos (by omega)
  have p1:=QEC n 61 (by omega)
  have p2:=QEC m 62 hm;have e61:(2:Int)^61=2305843009213693952:=by decide
  have e62:(2:Int)^62=4611686018427387904:=by decide
  have hin:Kh (s+2^n):=⟨by omega,by omega⟩
  have hl:=Qgz hin (n:=m) (by omega) λk hk=>by
   rw[hbits,QUj h0 h1 hm hk];have:¬ n=k:=by omega
   simp[this]
  exact⟨by rw[ew];exact hl.1,by rw[ew];exact hl.2,λk=>by rw[ew];exact hbits k⟩
