/- - -/
import Derived.Test.YtekbmehgcofnkaaGreatMzv
import Derived.Test.YtekbmehgcofnkaaGreatMy
open Go.Proofs.Tryz
open Go.IntKind (i64)
set_option maxRecDepth 100000
namespace Go.Proofs.YtekbmehgcofnkaaGreat
open Go.SX
variable (a b:Rw Jn)
def sjQ(i:Nat):Bool := !((a.get i).a==(b.get i).a&&((a.get i).i==(b.get i).i&&((a.get i).b==(b.get i).b&&((a.get i).j==(b.get i).j&&true))))
def jG:Bool:=((a.n:Int)==b.n)&&(QP (sjQ a b) a.n 0).isNone
theorem QiW(k:Nat)(g:Nat->Value):exec (mkE prog Jp) (hnd (mkE prog Jp) 0) (QH f45 0) (JSt.inst (smJ a b k) g) (Q9 [] QQC)=QC.br (decide ((↑k:Int)<(↑a.n:Int))) (QC.need (decide ((0:Int)<=(↑k:Int)/\(↑k:Int)<(↑a.n:Int))&&decide (a.n<=a.n)) (QC.need (decide (k<a.n)) (QC.need (decide ((0:Int)<=(↑k:Int)/\(↑k:Int)<(↑b.n:Int))&&decide (b.n<=b.n)) (QC.need (decide (k<b.n)) (QC.br (!((a.get k).a==(b.get k).a&&((a.get k).i==(b.get k).i&&((a.get k).b==(b.get k).b&&((a.get k).j==(b.get k).j&&true))))) (QC.leaf (AV.tup [AV.nili,AV.ptr (26:Nat) (0:Nat) (0:Nat),AV.bool true false]) ([])) (QC.leaf (AV.tup [AV.nilp,AV.ptr (26:Nat) (0:Nat) (0:Nat),AV.slz (0:Nat) (0:Nat) a.n cO,AV.slz (1:Nat) (0:Nat) b.n cO,vi (i64.wrap ((↑k:Int)+(1:Int)))]) ([((0:Nat),Blk.frz [CK.int i64,CK.int i64,CK.int i64,CK.int i64] a.n λi=>QA.enc (a.get i)),((1:Nat),Blk.frz [CK.int i64,CK.int i64,CK.int i64,CK.int i64] b.n λi=>QA.enc (b.get i))]))))))) (QC.leaf (AV.tup [AV.ptr (0:Nat) (0:Nat) (0:Nat),AV.ptr (26:Nat) (0:Nat) (0:Nat)]) ([])):=by kernel_rfl
theorem Qbw :QF 8 [AV.bool true false] ([]) QJG=( some [false=false]):=by kernel_rfl
theorem QdM(k k':Nat):QF 8 [AV.slz (0:Nat) (0:Nat) a.n cO,AV.slz (1:Nat) (0:Nat) b.n cO,vi (i64.wrap ((↑k:Int)+(1:Int)))] ([((0:Nat),Blk.frz [CK.int i64,CK.int i64,CK.int i64,CK.int i64] a.n λi=>QA.enc (a.get i)),((1:Nat),Blk.frz [CK.int i64,CK.int i64,CK.int i64,CK.int i64] b.n λi=>QA.enc (b.get i))]) (smJ a b k')=( some [0=0,a.n=a.n,cO=cO,0=0,b.n=b.n,cO=cO,i64.wrap ((↑k:Int)+(1:Int))=(↑k':Int),a.n<=a.n,QB (4:Nat) a.n (λi=>QA.enc (a.get i)) λi=>QA.enc (a.get i),b.n<=b.n,QB (4:Nat) b.n (λi=>QA.enc (b.get i)) λi=>QA.enc (b.get i)]):=by kernel_rfl
theorem QbQ :QF 8 [] ([]) QJR=( some []):=by kernel_rfl
theorem QYJ(hl:a.n=b.n/\a.n<=1000000):JP (smJ a b) (λk=>k<=a.n) (λk=>a.n-k) (smR (sjQ a b) a.n) 8 QQC [] (mkE prog Jp) (λ_=>hnd (mkE prog Jp) 0) (QH f45 0):=by
 obtain⟨hab,hl⟩:=hl;refine⟨λk g hk=>Qf (QiW a b k g) ?_⟩;refine QE ?_ ?_<;>intro h
 .have h:k<a.n:=by have:=qdt h;omega
  have hf:=JK (p:=sjQ a b) h;have hw:i64.wrap ((k:Int)+1)=((k+1:Nat):Int):=(w64 (by omega) (by omega)).trans (by omega)
  repeat' refine QG (by simp;omega) ?_
  refine QE ?_ ?_<;>intro hb
  .exact⟨_,.inl ⟨rfl,by rw[hf.1 hb];rfl,rfl⟩,rfl,rfl,_,Qbw,⟨rfl,trivial⟩⟩
  .refine⟨k+1,by omega,by show a.n-(k+1)<a.n-k;omega,λe J h=>by unfold smR at h ⊢;rw[hf.2 hb];exact h,rfl,rfl,_,QdM _ _ _ (k+1),?_⟩
   repeat' first|with_reducible refine QL ?_ ?_|exact tv|exact qRr|exact hw|refine aI ?_ ?_
 .have h:a.n<=k:=by have:=qdf h;omega
  exact⟨_,.inr ⟨rfl,by rw[show a.n-k=0 by omega];rfl,rfl⟩,rfl,rfl,_,QbQ,trivial⟩
abbrev sjH(P:Program)(a b:Rw Jn):Hnd:={ hnd (mkE P Jp) 1 with loop:=λ_=>JT (a.n=b.n/\a.n<=1000000) (KC 8 [] (smJ a b 0) (smX (sjQ a b) a.n)) }
theorem Qbb(G:Ctx)(hrd:G.rd=none)(hG:G.n=8):Qw (mkE prog Jp) G (sjH prog a b) (Qk f45):=by
 refine KN (body:=QH f45 0) (QO ZN) hrd (by kernel_rfl) ?_
 refine Jh λhl=>?_;refine Jq (n0:=8) (QO ZN) (by omega) (λs hs=>Qv (QO ZN) 0 G _ hrd) (λs hs=>qlr _) ?_ (QYJ a b hl) (s0:=0) (Nat.zero_le _) ?_
 .rintro s e J (⟨_,_,rfl⟩|⟨_,_,rfl⟩)<;>exact qlr _
 .rintro e J (⟨rfl,h,rfl⟩|⟨rfl,h,rfl⟩)
  .exact⟨_,qmc,h,rfl,rfl⟩
  .exact⟨_,List.mem_cons_of_mem _ qmc,h,rfl,rfl⟩
def sjF:WF ((Rw Jn)×(Rw Jn)×Unit):=λ|(a,(b,_))=>(decide (a.n<=1000000/\b.n<=1000000),.bool false (jG a b),[])
def sjC:FC:=wFC sjF
theorem Qbn(a:(Rw Jn))(b:(Rw Jn)):Kd (mkE prog Jp) (sjH prog a b) f45 (Qb.vals 0 ((a,b,()):(Rw Jn)×(Rw Jn)×Unit)) (Qb.blks 0 ((a,b,()):(Rw Jn)×(Rw Jn)×Unit)) 8=QC.br ((↑a.n:Int) != (↑b.n:Int)) (QC.leaf (AV.bool true false) ([])) (QC.ask (a.n=b.n/\a.n<=(1000000:Nat)) (QC.ask (0=0) (QC.ask (a.n=a.n) (QC.ask (cO=cO) (QC.ask (0=0) (QC.ask (b.n=b.n) (QC.ask (cO=cO) (QC.ask ((0:Int)=(0:Int)) (QC.ask (a.n<=a.n) (QC.ask (QB (4:Nat) a.n (λi=>QA.enc (a.get i)) λi=>QA.enc (a.get i)) (QC.ask (b.n<=b.n) (QC.ask (QB (4:Nat) b.n (λi=>QA.enc (b.get i)) λi=>QA.enc (b.get i)) (QC.both (QC.asm ((QP (sjQ a b) a.n (0:Nat)).isNone=false) (QC.all (λ(g0:Nat->Value)=>QC.leaf (AV.bool false false) ([])))) (QC.asm ((QP (sjQ a b) a.n (0:Nat)).isNone=true) (QC.all (λ(g1:Nat->Value)=>QC.leaf (AV.bool true true) ([]))))))))))))))))):=by kernel_rfl
theorem QgW:JA (mkE prog Jp) (Qk f45) 8 sjF (λx_=>(sjH prog x_.1 x_.2.1)):=by
 refine⟨?_⟩;rintro⟨a,⟨b,⟨⟩⟩⟩ hp G h1 h2;exact Qbb a b G h1 h2
theorem QYd:JB (mkE prog Jp) f45 8 sjF (λx_=>(sjH prog x_.1 x_.2.1)):=by
 refine⟨?_⟩;rintro⟨a,⟨b,⟨⟩⟩⟩ hp;refine⟨⟨rfl,by simp[sjF],rfl⟩,⟨?_⟩⟩
 rw[Qbn a b];simp only[sjF]at hp;have hp:=qdt hp;refine QE (λh=>KE ?_ rfl) (λh=>?_)
 .have:((a.n:Int)==b.n)=false:=by simpa using h
  show false=jG a b;simp only[jG,this];rfl
 .have hab:a.n=b.n:=by simp only[bne_eq_false_iff_eq]at h;omega
  have e:((a.n:Int)==b.n)=true:=by rw[hab];simp
  refine Qu ⟨hab,hp.1⟩ ?_
  repeat' first|refine Qu (show _=_ by with_reducible rfl) ?_|refine Qu (show _<=_ from qlr _) ?_|refine Qu (show QB _ _ _ _ from qRr) ?_
  refine Kh (Qg λh=>Qj λg=>?_) (Qg λh=>Qj λg=>?_)
  .exact KE (show _=jG a b by simp only[jG,e,h];rfl) rfl
  .exact KE (show _=jG a b by simp only[jG,e,h];rfl) rfl
theorem QZq:QR prog 45 sjC:=
 JL (QO ZN) func45 (by kernel_rfl) (by kernel_rfl) (by decide) QgW QYd
def VK:Tab:=Qa Jp 45 sjC
theorem zq:Qc VK:=ZN.add QZq
