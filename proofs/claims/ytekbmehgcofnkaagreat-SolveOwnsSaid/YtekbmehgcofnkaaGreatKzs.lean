/- - -/
import Derived.Test.YtekbmehgcofnkaaGreatKzq
import Derived.Test.YtekbmehgcofnkaaGreatKx
import Derived.Test.YtekbmehgcofnkaaGreatKy
set_option linter.all false
open Go.Proofs.Tryz
open Go.IntKind (i64)
set_option maxRecDepth 100000
namespace Go.Proofs.YtekbmehgcofnkaaGreat
open Go.SX
def smJ{α:Type}[QA α](a b:Rw α)(k:Nat):JSt:=⟨26,[(0,.slz 0 0 a.n (.of 0)),(1,.slz 1 0 b.n (.of 0)),(5,.int false .i64 k)],Qi.blk 0 a++Qi.blk 1 b,8⟩
def QCX:Ex->List Nat
 | .normal=>[0,1,5]
 | .exit _=>[]
 | .ret=>[4]
def QDU:JSt:=⟨26,[(4,.bool false false)],[],8⟩
def QCU:JSt:=⟨26,[],[],8⟩
def smR(p:Nat->Bool)(n k:Nat)(e:Ex)(J:JSt):Prop:=(e = .ret/\(QU p (n-k) k).isNone=false/\J=QDU)∨(e = .exit 0/\(QU p (n-k) k).isNone=true/\J=QCU)
def smX(p:Nat->Bool)(n:Nat):List (Prop×Ex×JSt):=[((QU p n 0).isNone=false,.ret,QDU),((QU p n 0).isNone=true,.exit 0,QCU)]
variable (a b:Rw Lay)
def lyQ(i:Nat):Bool := !((a.get i).piece==(b.get i).piece&&((a.get i).turn==(b.get i).turn&&true))
def VS:Bool:=((a.n:Int)==b.n)&&(QU (lyQ a b) a.n 0).isNone
theorem Qcn(k:Nat)(g:Nat->Value):exec (mkE prog K8) (hnd (mkE prog K8) 0) (QH f29 0) (JSt.inst (smJ a b k) g) (Q8 [] QCX)=QC.br (decide ((↑k:Int)<(↑a.n:Int))) (QC.need (decide ((0:Int)<=(↑k:Int)/\(↑k:Int)<(↑a.n:Int))&&decide (a.n<=a.n)) (QC.need (decide (k<a.n)) (QC.need (decide ((0:Int)<=(↑k:Int)/\(↑k:Int)<(↑b.n:Int))&&decide (b.n<=b.n)) (QC.need (decide (k<b.n)) (QC.br (!((a.get k).piece==(b.get k).piece&&((a.get k).turn==(b.get k).turn&&true))) (QC.leaf (AV.tup [AV.nili,AV.ptr (26:Nat) (0:Nat) (0:Nat),AV.bool true false]) ([])) (QC.leaf (AV.tup [AV.nilp,AV.ptr (26:Nat) (0:Nat) (0:Nat),AV.slz (0:Nat) (0:Nat) a.n cO,AV.slz (1:Nat) (0:Nat) b.n cO,vi (i64.wrap ((↑k:Int)+(1:Int)))]) ([((0:Nat),Blk.frz [CK.int i64,CK.int i64] a.n λi=>QA.enc (a.get i)),((1:Nat),Blk.frz [CK.int i64,CK.int i64] b.n λi=>QA.enc (b.get i))]))))))) (QC.leaf (AV.tup [AV.ptr (0:Nat) (0:Nat) (0:Nat),AV.ptr (26:Nat) (0:Nat) (0:Nat)]) ([])):=by kernel_rfl
theorem QXN :QE 8 [AV.bool true false] ([]) QDU=( some [false=false]):=by kernel_rfl
theorem Qak(k k':Nat):QE 8 [AV.slz (0:Nat) (0:Nat) a.n cO,AV.slz (1:Nat) (0:Nat) b.n cO,vi (i64.wrap ((↑k:Int)+(1:Int)))] ([((0:Nat),Blk.frz [CK.int i64,CK.int i64] a.n λi=>QA.enc (a.get i)),((1:Nat),Blk.frz [CK.int i64,CK.int i64] b.n λi=>QA.enc (b.get i))]) (smJ a b k')=( some [0=0,a.n=a.n,cO=cO,0=0,b.n=b.n,cO=cO,i64.wrap ((↑k:Int)+(1:Int))=(↑k':Int),a.n<=a.n,QB (2:Nat) a.n (λi=>QA.enc (a.get i)) λi=>QA.enc (a.get i),b.n<=b.n,QB (2:Nat) b.n (λi=>QA.enc (b.get i)) λi=>QA.enc (b.get i)]):=by kernel_rfl
theorem Qff :QE 8 [] ([]) QCU=( some []):=by kernel_rfl
theorem QSW(hl:a.n=b.n/\a.n<=1000000):JL (smJ a b) (λk=>k<=a.n) (λk=>a.n-k) (smR (lyQ a b) a.n) 8 QCX [] (mkE prog K8) (λ_=>hnd (mkE prog K8) 0) (QH f29 0):=by
 obtain⟨hab,hl⟩:=hl;refine⟨λk g hk=>Qe (Qcn a b k g) ?_⟩;refine QF ?_ ?_<;>intro h
 .have h:k<a.n:=by have:=qdt h;omega
  have hf:=J4 (p:=lyQ a b) h;have hw:i64.wrap ((k:Int)+1)=((k+1:Nat):Int):=(w64 (by omega) (by omega)).trans (by omega)
  repeat' refine QG (by simp;omega) ?_
  refine QF ?_ ?_<;>intro hb
  .exact⟨_,.inl ⟨rfl,by rw[hf.1 hb];rfl,rfl⟩,rfl,rfl,_,QXN,⟨rfl,trivial⟩⟩
  .refine⟨k+1,by omega,by show a.n-(k+1)<a.n-k;omega,λe J h=>by unfold smR at h ⊢;rw[hf.2 hb];exact h,rfl,rfl,_,Qak _ _ _ (k+1),?_⟩
   repeat' first|with_reducible refine QO ?_ ?_|exact tv|exact qRr|exact hw|refine aI ?_ ?_
 .have h:a.n<=k:=by have:=qdf h;omega
  exact⟨_,.inr ⟨rfl,by rw[show a.n-k=0 by omega];rfl,rfl⟩,rfl,rfl,_,Qff,trivial⟩
abbrev lyH(P:Program)(a b:Rw Lay):Hnd:={ hnd (mkE P K8) 1 with loop:=λ_=>Kr (a.n=b.n/\a.n<=1000000) (Q4 8 [] (smJ a b 0) (smX (lyQ a b) a.n)) }
theorem QdX(G:Ctx)(hrd:G.rd=none)(hG:G.n=8):Qx (mkE prog K8) G (lyH prog a b) (Qk f29):=by
 refine KR (body:=QH f29 0) (QN Yo) hrd (by kernel_rfl) ?_
 refine JK λhl=>?_;refine Jt (n0:=8) (QN Yo) (by omega) (λs hs=>Qu (QN Yo) 0 G _ hrd) (λs hs=>qlr _) ?_ (QSW a b hl) (s0:=0) (Nat.zero_le _) ?_
 .rintro s e J (⟨_,_,rfl⟩|⟨_,_,rfl⟩)<;>exact qlr _
 .rintro e J (⟨rfl,h,rfl⟩|⟨rfl,h,rfl⟩)
  .exact⟨_,qmc,h,rfl,rfl⟩
  .exact⟨_,List.mem_cons_of_mem _ qmc,h,rfl,rfl⟩
def lyF:WF ((Rw Lay)×(Rw Lay)×Unit):=λ|(a,(b,_))=>(decide (a.n<=1000000/\b.n<=1000000),.bool false (VS a b),[])
def lyC:FC:=wFC lyF
theorem QZ0(a:(Rw Lay))(b:(Rw Lay)):Kl (mkE prog K8) (lyH prog a b) f29 (Qd.vals 0 ((a,b,()):(Rw Lay)×(Rw Lay)×Unit)) (Qd.blks 0 ((a,b,()):(Rw Lay)×(Rw Lay)×Unit)) 8=QC.br ((↑a.n:Int) != (↑b.n:Int)) (QC.leaf (AV.bool true false) ([])) (QC.ask (a.n=b.n/\a.n<=(1000000:Nat)) (QC.ask (0=0) (QC.ask (a.n=a.n) (QC.ask (cO=cO) (QC.ask (0=0) (QC.ask (b.n=b.n) (QC.ask (cO=cO) (QC.ask ((0:Int)=(0:Int)) (QC.ask (a.n<=a.n) (QC.ask (QB (2:Nat) a.n (λi=>QA.enc (a.get i)) λi=>QA.enc (a.get i)) (QC.ask (b.n<=b.n) (QC.ask (QB (2:Nat) b.n (λi=>QA.enc (b.get i)) λi=>QA.enc (b.get i)) (QC.both (QC.asm ((QU (lyQ a b) a.n (0:Nat)).isNone=false) (QC.all (λ(g0:Nat->Value)=>QC.leaf (AV.bool false false) ([])))) (QC.asm ((QU (lyQ a b) a.n (0:Nat)).isNone=true) (QC.all (λ(g1:Nat->Value)=>QC.leaf (AV.bool true true) ([]))))))))))))))))):=by kernel_rfl
theorem QVC:JP (mkE prog K8) (Qk f29) 8 lyF (λx_=>(lyH prog x_.1 x_.2.1)):=by
 refine⟨?_⟩;rintro⟨a,⟨b,⟨⟩⟩⟩ hp G h1 h2;exact QdX a b G h1 h2
theorem Qet:JQ (mkE prog K8) f29 8 lyF (λx_=>(lyH prog x_.1 x_.2.1)):=by
 refine⟨?_⟩;rintro⟨a,⟨b,⟨⟩⟩⟩ hp;refine⟨⟨rfl,by simp[lyF],rfl⟩,⟨?_⟩⟩
 rw[QZ0 a b];simp only[lyF]at hp;have hp:=qdt hp;refine QF (λh=>Kd ?_ rfl) (λh=>?_)
 .have:((a.n:Int)==b.n)=false:=by simpa using h
  show false=VS a b;simp only[VS,this];rfl
 .have hab:a.n=b.n:=by simp only[bne_eq_false_iff_eq]at h;omega
  have e:((a.n:Int)==b.n)=true:=by rw[hab];simp
  refine Qp ⟨hab,hp.1⟩ ?_
  repeat' first|refine Qp (show _=_ by with_reducible rfl) ?_|refine Qp (show _<=_ from qlr _) ?_|refine Qp (show QB _ _ _ _ from qRr) ?_
  refine Kb (Qf λh=>Qh λg=>?_) (Qf λh=>Qh λg=>?_)
  .exact Kd (show _=VS a b by simp only[VS,e,h];rfl) rfl
  .exact Kd (show _=VS a b by simp only[VS,e,h];rfl) rfl
theorem QS0:QR prog 29 lyC:=
 Ji (QN Yo) func29 (by kernel_rfl) (by kernel_rfl) (by decide) QVC Qet
def sjQ(a b:Rw Jn)(i:Nat):Bool := !((a.get i).a==(b.get i).a&&((a.get i).i==(b.get i).i&&((a.get i).b==(b.get i).b&&((a.get i).j==(b.get i).j&&true))))
def ZJ(a b:Rw Jn):Bool:=((a.n:Int)==b.n)&&(QU (sjQ a b) a.n 0).isNone
theorem QXZ(a b:Rw Jn)(k:Nat)(g:Nat->Value):exec (mkE prog K8) (hnd (mkE prog K8) 0) (QH f45 0) (JSt.inst (smJ a b k) g) (Q8 [] QCX)=QC.br (decide ((↑k:Int)<(↑a.n:Int))) (QC.need (decide ((0:Int)<=(↑k:Int)/\(↑k:Int)<(↑a.n:Int))&&decide (a.n<=a.n)) (QC.need (decide (k<a.n)) (QC.need (decide ((0:Int)<=(↑k:Int)/\(↑k:Int)<(↑b.n:Int))&&decide (b.n<=b.n)) (QC.need (decide (k<b.n)) (QC.br (!((a.get k).a==(b.get k).a&&((a.get k).i==(b.get k).i&&((a.get k).b==(b.get k).b&&((a.get k).j==(b.get k).j&&true))))) (QC.leaf (AV.tup [AV.nili,AV.ptr (26:Nat) (0:Nat) (0:Nat),AV.bool true false]) ([])) (QC.leaf (AV.tup [AV.nilp,AV.ptr (26:Nat) (0:Nat) (0:Nat),AV.slz (0:Nat) (0:Nat) a.n cO,AV.slz (1:Nat) (0:Nat) b.n cO,vi (i64.wrap ((↑k:Int)+(1:Int)))]) ([((0:Nat),Blk.frz [CK.int i64,CK.int i64,CK.int i64,CK.int i64] a.n λi=>QA.enc (a.get i)),((1:Nat),Blk.frz [CK.int i64,CK.int i64,CK.int i64,CK.int i64] b.n λi=>QA.enc (b.get i))]))))))) (QC.leaf (AV.tup [AV.ptr (0:Nat) (0:Nat) (0:Nat),AV.ptr (26:Nat) (0:Nat) (0:Nat)]) ([])):=by kernel_rfl
theorem QVm :QE 8 [AV.bool true false] ([]) QDU=( some [false=false]):=by kernel_rfl
theorem QeD(a b:Rw Jn)(k k':Nat):QE 8 [AV.slz (0:Nat) (0:Nat) a.n cO,AV.slz (1:Nat) (0:Nat) b.n cO,vi (i64.wrap ((↑k:Int)+(1:Int)))] ([((0:Nat),Blk.frz [CK.int i64,CK.int i64,CK.int i64,CK.int i64] a.n λi=>QA.enc (a.get i)),((1:Nat),Blk.frz [CK.int i64,CK.int i64,CK.int i64,CK.int i64] b.n λi=>QA.enc (b.get i))]) (smJ a b k')=( some [0=0,a.n=a.n,cO=cO,0=0,b.n=b.n,cO=cO,i64.wrap ((↑k:Int)+(1:Int))=(↑k':Int),a.n<=a.n,QB (4:Nat) a.n (λi=>QA.enc (a.get i)) λi=>QA.enc (a.get i),b.n<=b.n,QB (4:Nat) b.n (λi=>QA.enc (b.get i)) λi=>QA.enc (b.get i)]):=by kernel_rfl
theorem QT2 :QE 8 [] ([]) QCU=( some []):=by kernel_rfl
theorem QYD(a b:Rw Jn)(hl:a.n=b.n/\a.n<=1000000):JL (smJ a b) (λk=>k<=a.n) (λk=>a.n-k) (smR (sjQ a b) a.n) 8 QCX [] (mkE prog K8) (λ_=>hnd (mkE prog K8) 0) (QH f45 0):=by
 obtain⟨hab,hl⟩:=hl;refine⟨λk g hk=>Qe (QXZ a b k g) ?_⟩;refine QF ?_ ?_<;>intro h
 .have h:k<a.n:=by have:=qdt h;omega
  have hf:=J4 (p:=sjQ a b) h;have hw:i64.wrap ((k:Int)+1)=((k+1:Nat):Int):=(w64 (by omega) (by omega)).trans (by omega)
  repeat' refine QG (by simp;omega) ?_
  refine QF ?_ ?_<;>intro hb
  .exact⟨_,.inl ⟨rfl,by rw[hf.1 hb];rfl,rfl⟩,rfl,rfl,_,QVm,⟨rfl,trivial⟩⟩
  .refine⟨k+1,by omega,by show a.n-(k+1)<a.n-k;omega,λe J h=>by unfold smR at h ⊢;rw[hf.2 hb];exact h,rfl,rfl,_,QeD _ _ _ (k+1),?_⟩
   repeat' first|with_reducible refine QO ?_ ?_|exact tv|exact qRr|exact hw|refine aI ?_ ?_
 .have h:a.n<=k:=by have:=qdf h;omega
  exact⟨_,.inr ⟨rfl,by rw[show a.n-k=0 by omega];rfl,rfl⟩,rfl,rfl,_,QT2,trivial⟩
abbrev sjH(P:Program)(a b:Rw Jn):Hnd:={ hnd (mkE P K8) 1 with loop:=λ_=>Kr (a.n=b.n/\a.n<=1000000) (Q4 8 [] (smJ a b 0) (smX (sjQ a b) a.n)) }
theorem QUd(a b:Rw Jn)(G:Ctx)(hrd:G.rd=none)(hG:G.n=8):Qx (mkE prog K8) G (sjH prog a b) (Qk f45):=by
 refine KR (body:=QH f45 0) (QN Yo) hrd (by kernel_rfl) ?_
 refine JK λhl=>?_;refine Jt (n0:=8) (QN Yo) (by omega) (λs hs=>Qu (QN Yo) 0 G _ hrd) (λs hs=>qlr _) ?_ (QYD a b hl) (s0:=0) (Nat.zero_le _) ?_
 .rintro s e J (⟨_,_,rfl⟩|⟨_,_,rfl⟩)<;>exact qlr _
 .rintro e J (⟨rfl,h,rfl⟩|⟨rfl,h,rfl⟩)
  .exact⟨_,qmc,h,rfl,rfl⟩
  .exact⟨_,List.mem_cons_of_mem _ qmc,h,rfl,rfl⟩
def sjF:WF ((Rw Jn)×(Rw Jn)×Unit):=λ|(a,(b,_))=>(decide (a.n<=1000000/\b.n<=1000000),.bool false (ZJ a b),[])
def sjC:FC:=wFC sjF
theorem QaS(a:(Rw Jn))(b:(Rw Jn)):Kl (mkE prog K8) (sjH prog a b) f45 (Qd.vals 0 ((a,b,()):(Rw Jn)×(Rw Jn)×Unit)) (Qd.blks 0 ((a,b,()):(Rw Jn)×(Rw Jn)×Unit)) 8=QC.br ((↑a.n:Int) != (↑b.n:Int)) (QC.leaf (AV.bool true false) ([])) (QC.ask (a.n=b.n/\a.n<=(1000000:Nat)) (QC.ask (0=0) (QC.ask (a.n=a.n) (QC.ask (cO=cO) (QC.ask (0=0) (QC.ask (b.n=b.n) (QC.ask (cO=cO) (QC.ask ((0:Int)=(0:Int)) (QC.ask (a.n<=a.n) (QC.ask (QB (4:Nat) a.n (λi=>QA.enc (a.get i)) λi=>QA.enc (a.get i)) (QC.ask (b.n<=b.n) (QC.ask (QB (4:Nat) b.n (λi=>QA.enc (b.get i)) λi=>QA.enc (b.get i)) (QC.both (QC.asm ((QU (sjQ a b) a.n (0:Nat)).isNone=false) (QC.all (λ(g0:Nat->Value)=>QC.leaf (AV.bool false false) ([])))) (QC.asm ((QU (sjQ a b) a.n (0:Nat)).isNone=true) (QC.all (λ(g1:Nat->Value)=>QC.leaf (AV.bool true true) ([]))))))))))))))))):=by kernel_rfl
theorem QWK:JP (mkE prog K8) (Qk f45) 8 sjF (λx_=>(sjH prog x_.1 x_.2.1)):=by
 refine⟨?_⟩;rintro⟨a,⟨b,⟨⟩⟩⟩ hp G h1 h2;exact QUd a b G h1 h2
theorem QYH:JQ (mkE prog K8) f45 8 sjF (λx_=>(sjH prog x_.1 x_.2.1)):=by
 refine⟨?_⟩;rintro⟨a,⟨b,⟨⟩⟩⟩ hp;refine⟨⟨rfl,by simp[sjF],rfl⟩,⟨?_⟩⟩
 rw[QaS a b];simp only[sjF]at hp;have hp:=qdt hp;refine QF (λh=>Kd ?_ rfl) (λh=>?_)
 .have:((a.n:Int)==b.n)=false:=by simpa using h
  show false=ZJ a b;simp only[ZJ,this];rfl
 .have hab:a.n=b.n:=by simp only[bne_eq_false_iff_eq]at h;omega
  have e:((a.n:Int)==b.n)=true:=by rw[hab];simp
  refine Qp ⟨hab,hp.1⟩ ?_
  repeat' first|refine Qp (show _=_ by with_reducible rfl) ?_|refine Qp (show _<=_ from qlr _) ?_|refine Qp (show QB _ _ _ _ from qRr) ?_
  refine Kb (Qf λh=>Qh λg=>?_) (Qf λh=>Qh λg=>?_)
  .exact Kd (show _=ZJ a b by simp only[ZJ,e,h];rfl) rfl
  .exact Kd (show _=ZJ a b by simp only[ZJ,e,h];rfl) rfl
theorem Qca:QR prog 45 sjC:=
 Ji (QN Yo) func45 (by kernel_rfl) (by kernel_rfl) (by decide) QWK QYH
