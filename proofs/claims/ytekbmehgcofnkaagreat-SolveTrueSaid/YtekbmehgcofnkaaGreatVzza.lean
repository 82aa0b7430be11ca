/- - -/
import Derived.Test.YtekbmehgcofnkaaGreatVzq
set_option linter.all false
open Go.Proofs.Tryz
open Go.IntKind (i64)
set_option maxRecDepth 100000
namespace Go.Proofs.YtekbmehgcofnkaaGreat
open Go.SX
def smJ{α:Type}[QA α](a b:Rw α)(k:Nat):JSt:=⟨26,[(0,.slz 0 0 a.n (.of 0)),(1,.slz 1 0 b.n (.of 0)),(5,.int false .i64 k)],Qg.blk 0 a++Qg.blk 1 b,8⟩
def QD2:Ex->List Nat
 | .normal=>[0,1,5]
 | .exit _=>[]
 | .ret=>[4]
def QEN:JSt:=⟨26,[(4,.bool false false)],[],8⟩
def QGA:JSt:=⟨26,[],[],8⟩
def smR(p:Nat->Bool)(n k:Nat)(e:Ex)(J:JSt):Prop:=(e = .ret/\(QR p (n-k) k).isNone=false/\J=QEN)∨(e = .exit 0/\(QR p (n-k) k).isNone=true/\J=QGA)
def smX(p:Nat->Bool)(n:Nat):List (Prop×Ex×JSt):=[((QR p n 0).isNone=false,.ret,QEN),((QR p n 0).isNone=true,.exit 0,QGA)]
variable (a b:Rw Lay)
def lyQ(i:Nat):Bool := !((a.get i).piece==(b.get i).piece&&((a.get i).turn==(b.get i).turn&&true))
def X0:Bool:=((a.n:Int)==b.n)&&(QR (lyQ a b) a.n 0).isNone
theorem Qdk(k:Nat)(g:Nat->Value):exec (mkE prog K7) (hnd (mkE prog K7) 0) (QI f29 0) (JSt.inst (smJ a b k) g) (Q5 [] QD2)=QC.br (decide ((↑k:Int)<(↑a.n:Int))) (QC.need (decide ((0:Int)<=(↑k:Int)/\(↑k:Int)<(↑a.n:Int))&&decide (a.n<=a.n)) (QC.need (decide (k<a.n)) (QC.need (decide ((0:Int)<=(↑k:Int)/\(↑k:Int)<(↑b.n:Int))&&decide (b.n<=b.n)) (QC.need (decide (k<b.n)) (QC.br (!((a.get k).piece==(b.get k).piece&&((a.get k).turn==(b.get k).turn&&true))) (QC.leaf (AV.tup [AV.nili,AV.ptr (26:Nat) (0:Nat) (0:Nat),AV.bool true false]) ([])) (QC.leaf (AV.tup [AV.nilp,AV.ptr (26:Nat) (0:Nat) (0:Nat),AV.slz (0:Nat) (0:Nat) a.n cO,AV.slz (1:Nat) (0:Nat) b.n cO,vi (i64.wrap ((↑k:Int)+(1:Int)))]) ([((0:Nat),Blk.frz [CK.int i64,CK.int i64] a.n λi=>QA.enc (a.get i)),((1:Nat),Blk.frz [CK.int i64,CK.int i64] b.n λi=>QA.enc (b.get i))]))))))) (QC.leaf (AV.tup [AV.ptr (0:Nat) (0:Nat) (0:Nat),AV.ptr (26:Nat) (0:Nat) (0:Nat)]) ([])):=by kernel_rfl
theorem Qfq :QF 8 [AV.bool true false] ([]) QEN=( some [false=false]):=by kernel_rfl
theorem Qfo(k k':Nat):QF 8 [AV.slz (0:Nat) (0:Nat) a.n cO,AV.slz (1:Nat) (0:Nat) b.n cO,vi (i64.wrap ((↑k:Int)+(1:Int)))] ([((0:Nat),Blk.frz [CK.int i64,CK.int i64] a.n λi=>QA.enc (a.get i)),((1:Nat),Blk.frz [CK.int i64,CK.int i64] b.n λi=>QA.enc (b.get i))]) (smJ a b k')=( some [0=0,a.n=a.n,cO=cO,0=0,b.n=b.n,cO=cO,i64.wrap ((↑k:Int)+(1:Int))=(↑k':Int),a.n<=a.n,QB (2:Nat) a.n (λi=>QA.enc (a.get i)) λi=>QA.enc (a.get i),b.n<=b.n,QB (2:Nat) b.n (λi=>QA.enc (b.get i)) λi=>QA.enc (b.get i)]):=by kernel_rfl
theorem QXl :QF 8 [] ([]) QGA=( some []):=by kernel_rfl
theorem Qj3(hl:a.n=b.n/\a.n<=1000000):VH (smJ a b) (λk=>k<=a.n) (λk=>a.n-k) (smR (lyQ a b) a.n) 8 QD2 [] (mkE prog K7) (λ_=>hnd (mkE prog K7) 0) (QI f29 0):=by
 obtain⟨hab,hl⟩:=hl;refine⟨λk g hk=>Qh (Qdk a b k g) ?_⟩;refine QE ?_ ?_<;>intro h
 .have h:k<a.n:=by have:=qdt h;omega
  have hf:=VC (p:=lyQ a b) h;have hw:i64.wrap ((k:Int)+1)=((k+1:Nat):Int):=(w64 (by omega) (by omega)).trans (by omega)
  repeat' refine QG (by simp;omega) ?_
  refine QE ?_ ?_<;>intro hb
  .exact⟨_,.inl ⟨rfl,by rw[hf.1 hb];rfl,rfl⟩,rfl,rfl,_,Qfq,⟨rfl,trivial⟩⟩
  .refine⟨k+1,by omega,by show a.n-(k+1)<a.n-k;omega,λe J h=>by unfold smR at h ⊢;rw[hf.2 hb];exact h,rfl,rfl,_,Qfo _ _ _ (k+1),?_⟩
   repeat' first|with_reducible refine QM ?_ ?_|exact tv|exact qRr|exact hw|refine aI ?_ ?_
 .have h:a.n<=k:=by have:=qdf h;omega
  exact⟨_,.inr ⟨rfl,by rw[show a.n-k=0 by omega];rfl,rfl⟩,rfl,rfl,_,QXl,trivial⟩
abbrev lyH(P:Program)(a b:Rw Lay):Hnd:={ hnd (mkE P K7) 1 with loop:=λ_=>Ks (a.n=b.n/\a.n<=1000000) (KF 8 [] (smJ a b 0) (smX (lyQ a b) a.n)) }
theorem Qfr(G:Ctx)(hrd:G.rd=none)(hG:G.n=8):Q0 (mkE prog K7) G (lyH prog a b) (Qn f29):=by
 refine KO (body:=QI f29 0) (QP XW) hrd (by kernel_rfl) ?_
 refine JJ λhl=>?_;refine XP (n0:=8) (QP XW) (by omega) (λs hs=>Qz (QP XW) 0 G _ hrd) (λs hs=>qlr _) ?_ (Qj3 a b hl) (s0:=0) (Nat.zero_le _) ?_
 .rintro s e J (⟨_,_,rfl⟩|⟨_,_,rfl⟩)<;>exact qlr _
 .rintro e J (⟨rfl,h,rfl⟩|⟨rfl,h,rfl⟩)
  .exact⟨_,qmc,h,rfl,rfl⟩
  .exact⟨_,List.mem_cons_of_mem _ qmc,h,rfl,rfl⟩
def lyF:WF ((Rw Lay)×(Rw Lay)×Unit):=λ|(a,(b,_))=>(decide (a.n<=1000000/\b.n<=1000000),.bool false (X0 a b),[])
def lyC:FC:=wFC lyF
theorem Qbw(a:(Rw Lay))(b:(Rw Lay)):Kg (mkE prog K7) (lyH prog a b) f29 (QZ.vals 0 ((a,b,()):(Rw Lay)×(Rw Lay)×Unit)) (QZ.blks 0 ((a,b,()):(Rw Lay)×(Rw Lay)×Unit)) 8=QC.br ((↑a.n:Int) != (↑b.n:Int)) (QC.leaf (AV.bool true false) ([])) (QC.ask (a.n=b.n/\a.n<=(1000000:Nat)) (QC.ask (0=0) (QC.ask (a.n=a.n) (QC.ask (cO=cO) (QC.ask (0=0) (QC.ask (b.n=b.n) (QC.ask (cO=cO) (QC.ask ((0:Int)=(0:Int)) (QC.ask (a.n<=a.n) (QC.ask (QB (2:Nat) a.n (λi=>QA.enc (a.get i)) λi=>QA.enc (a.get i)) (QC.ask (b.n<=b.n) (QC.ask (QB (2:Nat) b.n (λi=>QA.enc (b.get i)) λi=>QA.enc (b.get i)) (QC.both (QC.asm ((QR (lyQ a b) a.n (0:Nat)).isNone=false) (QC.all (λ(g0:Nat->Value)=>QC.leaf (AV.bool false false) ([])))) (QC.asm ((QR (lyQ a b) a.n (0:Nat)).isNone=true) (QC.all (λ(g1:Nat->Value)=>QC.leaf (AV.bool true true) ([]))))))))))))))))):=by kernel_rfl
theorem QYJ:JL (mkE prog K7) (Qn f29) 8 lyF (λx_=>(lyH prog x_.1 x_.2.1)):=by
 refine⟨?_⟩;rintro⟨a,⟨b,⟨⟩⟩⟩ hp G h1 h2;exact Qfr a b G h1 h2
theorem QlD:JH (mkE prog K7) f29 8 lyF (λx_=>(lyH prog x_.1 x_.2.1)):=by
 refine⟨?_⟩;rintro⟨a,⟨b,⟨⟩⟩⟩ hp;refine⟨⟨rfl,by simp[lyF],rfl⟩,⟨?_⟩⟩
 rw[Qbw a b];simp only[lyF]at hp;have hp:=qdt hp;refine QE (λh=>KN ?_ rfl) (λh=>?_)
 .have:((a.n:Int)==b.n)=false:=by simpa using h
  show false=X0 a b;simp only[X0,this];rfl
 .have hab:a.n=b.n:=by simp only[bne_eq_false_iff_eq]at h;omega
  have e:((a.n:Int)==b.n)=true:=by rw[hab];simp
  refine Qt ⟨hab,hp.1⟩ ?_
  repeat' first|refine Qt (show _=_ by with_reducible rfl) ?_|refine Qt (show _<=_ from qlr _) ?_|refine Qt (show QB _ _ _ _ from qRr) ?_
  refine Kq (Qk λh=>Ql λg=>?_) (Qk λh=>Ql λg=>?_)
  .exact KN (show _=X0 a b by simp only[X0,e,h];rfl) rfl
  .exact KN (show _=X0 a b by simp only[X0,e,h];rfl) rfl
theorem QcO:QS prog 29 lyC:=
 JY (QP XW) func29 (by kernel_rfl) (by kernel_rfl) (by decide) QYJ QlD
def sjQ(a b:Rw Jn)(i:Nat):Bool := !((a.get i).a==(b.get i).a&&((a.get i).i==(b.get i).i&&((a.get i).b==(b.get i).b&&((a.get i).j==(b.get i).j&&true))))
def vR(a b:Rw Jn):Bool:=((a.n:Int)==b.n)&&(QR (sjQ a b) a.n 0).isNone
theorem QeB(a b:Rw Jn)(k:Nat)(g:Nat->Value):exec (mkE prog K7) (hnd (mkE prog K7) 0) (QI f45 0) (JSt.inst (smJ a b k) g) (Q5 [] QD2)=QC.br (decide ((↑k:Int)<(↑a.n:Int))) (QC.need (decide ((0:Int)<=(↑k:Int)/\(↑k:Int)<(↑a.n:Int))&&decide (a.n<=a.n)) (QC.need (decide (k<a.n)) (QC.need (decide ((0:Int)<=(↑k:Int)/\(↑k:Int)<(↑b.n:Int))&&decide (b.n<=b.n)) (QC.need (decide (k<b.n)) (QC.br (!((a.get k).a==(b.get k).a&&((a.get k).i==(b.get k).i&&((a.get k).b==(b.get k).b&&((a.get k).j==(b.get k).j&&true))))) (QC.leaf (AV.tup [AV.nili,AV.ptr (26:Nat) (0:Nat) (0:Nat),AV.bool true false]) ([])) (QC.leaf (AV.tup [AV.nilp,AV.ptr (26:Nat) (0:Nat) (0:Nat),AV.slz (0:Nat) (0:Nat) a.n cO,AV.slz (1:Nat) (0:Nat) b.n cO,vi (i64.wrap ((↑k:Int)+(1:Int)))]) ([((0:Nat),Blk.frz [CK.int i64,CK.int i64,CK.int i64,CK.int i64] a.n λi=>QA.enc (a.get i)),((1:Nat),Blk.frz [CK.int i64,CK.int i64,CK.int i64,CK.int i64] b.n λi=>QA.enc (b.get i))]))))))) (QC.leaf (AV.tup [AV.ptr (0:Nat) (0:Nat) (0:Nat),AV.ptr (26:Nat) (0:Nat) (0:Nat)]) ([])):=by kernel_rfl
theorem QWh :QF 8 [AV.bool true false] ([]) QEN=( some [false=false]):=by kernel_rfl
theorem Qdb(a b:Rw Jn)(k k':Nat):QF 8 [AV.slz (0:Nat) (0:Nat) a.n cO,AV.slz (1:Nat) (0:Nat) b.n cO,vi (i64.wrap ((↑k:Int)+(1:Int)))] ([((0:Nat),Blk.frz [CK.int i64,CK.int i64,CK.int i64,CK.int i64] a.n λi=>QA.enc (a.get i)),((1:Nat),Blk.frz [CK.int i64,CK.int i64,CK.int i64,CK.int i64] b.n λi=>QA.enc (b.get i))]) (smJ a b k')=( some [0=0,a.n=a.n,cO=cO,0=0,b.n=b.n,cO=cO,i64.wrap ((↑k:Int)+(1:Int))=(↑k':Int),a.n<=a.n,QB (4:Nat) a.n (λi=>QA.enc (a.get i)) λi=>QA.enc (a.get i),b.n<=b.n,QB (4:Nat) b.n (λi=>QA.enc (b.get i)) λi=>QA.enc (b.get i)]):=by kernel_rfl
theorem QY2 :QF 8 [] ([]) QGA=( some []):=by kernel_rfl
theorem QdF(a b:Rw Jn)(hl:a.n=b.n/\a.n<=1000000):VH (smJ a b) (λk=>k<=a.n) (λk=>a.n-k) (smR (sjQ a b) a.n) 8 QD2 [] (mkE prog K7) (λ_=>hnd (mkE prog K7) 0) (QI f45 0):=by
 obtain⟨hab,hl⟩:=hl;refine⟨λk g hk=>Qh (QeB a b k g) ?_⟩;refine QE ?_ ?_<;>intro h
 .have h:k<a.n:=by have:=qdt h;omega
  have hf:=VC (p:=sjQ a b) h;have hw:i64.wrap ((k:Int)+1)=((k+1:Nat):Int):=(w64 (by omega) (by omega)).trans (by omega)
  repeat' refine QG (by simp;omega) ?_
  refine QE ?_ ?_<;>intro hb
  .exact⟨_,.inl ⟨rfl,by rw[hf.1 hb];rfl,rfl⟩,rfl,rfl,_,QWh,⟨rfl,trivial⟩⟩
  .refine⟨k+1,by omega,by show a.n-(k+1)<a.n-k;omega,λe J h=>by unfold smR at h ⊢;rw[hf.2 hb];exact h,rfl,rfl,_,Qdb _ _ _ (k+1),?_⟩
   repeat' first|with_reducible refine QM ?_ ?_|exact tv|exact qRr|exact hw|refine aI ?_ ?_
 .have h:a.n<=k:=by have:=qdf h;omega
  exact⟨_,.inr ⟨rfl,by rw[show a.n-k=0 by omega];rfl,rfl⟩,rfl,rfl,_,QY2,trivial⟩
abbrev sjH(P:Program)(a b:Rw Jn):Hnd:={ hnd (mkE P K7) 1 with loop:=λ_=>Ks (a.n=b.n/\a.n<=1000000) (KF 8 [] (smJ a b 0) (smX (sjQ a b) a.n)) }
theorem QlZ(a b:Rw Jn)(G:Ctx)(hrd:G.rd=none)(hG:G.n=8):Q0 (mkE prog K7) G (sjH prog a b) (Qn f45):=by
 refine KO (body:=QI f45 0) (QP XW) hrd (by kernel_rfl) ?_
 refine JJ λhl=>?_;refine XP (n0:=8) (QP XW) (by omega) (λs hs=>Qz (QP XW) 0 G _ hrd) (λs hs=>qlr _) ?_ (QdF a b hl) (s0:=0) (Nat.zero_le _) ?_
 .rintro s e J (⟨_,_,rfl⟩|⟨_,_,rfl⟩)<;>exact qlr _
 .rintro e J (⟨rfl,h,rfl⟩|⟨rfl,h,rfl⟩)
  .exact⟨_,qmc,h,rfl,rfl⟩
  .exact⟨_,List.mem_cons_of_mem _ qmc,h,rfl,rfl⟩
def sjF:WF ((Rw Jn)×(Rw Jn)×Unit):=λ|(a,(b,_))=>(decide (a.n<=1000000/\b.n<=1000000),.bool false (vR a b),[])
def sjC:FC:=wFC sjF
theorem QeG(a:(Rw Jn))(b:(Rw Jn)):Kg (mkE prog K7) (sjH prog a b) f45 (QZ.vals 0 ((a,b,()):(Rw Jn)×(Rw Jn)×Unit)) (QZ.blks 0 ((a,b,()):(Rw Jn)×(Rw Jn)×Unit)) 8=QC.br ((↑a.n:Int) != (↑b.n:Int)) (QC.leaf (AV.bool true false) ([])) (QC.ask (a.n=b.n/\a.n<=(1000000:Nat)) (QC.ask (0=0) (QC.ask (a.n=a.n) (QC.ask (cO=cO) (QC.ask (0=0) (QC.ask (b.n=b.n) (QC.ask (cO=cO) (QC.ask ((0:Int)=(0:Int)) (QC.ask (a.n<=a.n) (QC.ask (QB (4:Nat) a.n (λi=>QA.enc (a.get i)) λi=>QA.enc (a.get i)) (QC.ask (b.n<=b.n) (QC.ask (QB (4:Nat) b.n (λi=>QA.enc (b.get i)) λi=>QA.enc (b.get i)) (QC.both (QC.asm ((QR (sjQ a b) a.n (0:Nat)).isNone=false) (QC.all (λ(g0:Nat->Value)=>QC.leaf (AV.bool false false) ([])))) (QC.asm ((QR (sjQ a b) a.n (0:Nat)).isNone=true) (QC.all (λ(g1:Nat->Value)=>QC.leaf (AV.bool true true) ([]))))))))))))))))):=by kernel_rfl
theorem Qgl:JL (mkE prog K7) (Qn f45) 8 sjF (λx_=>(sjH prog x_.1 x_.2.1)):=by
 refine⟨?_⟩;rintro⟨a,⟨b,⟨⟩⟩⟩ hp G h1 h2;exact QlZ a b G h1 h2
theorem Qgh:JH (mkE prog K7) f45 8 sjF (λx_=>(sjH prog x_.1 x_.2.1)):=by
 refine⟨?_⟩;rintro⟨a,⟨b,⟨⟩⟩⟩ hp;refine⟨⟨rfl,by simp[sjF],rfl⟩,⟨?_⟩⟩
 rw[QeG a b];simp only[sjF]at hp;have hp:=qdt hp;refine QE (λh=>KN ?_ rfl) (λh=>?_)
 .have:((a.n:Int)==b.n)=false:=by simpa using h
  show false=vR a b;simp only[vR,this];rfl
 .have hab:a.n=b.n:=by simp only[bne_eq_false_iff_eq]at h;omega
  have e:((a.n:Int)==b.n)=true:=by rw[hab];simp
  refine Qt ⟨hab,hp.1⟩ ?_
  repeat' first|refine Qt (show _=_ by with_reducible rfl) ?_|refine Qt (show _<=_ from qlr _) ?_|refine Qt (show QB _ _ _ _ from qRr) ?_
  refine Kq (Qk λh=>Ql λg=>?_) (Qk λh=>Ql λg=>?_)
  .exact KN (show _=vR a b by simp only[vR,e,h];rfl) rfl
  .exact KN (show _=vR a b by simp only[vR,e,h];rfl) rfl
theorem QaU:QS prog 45 sjC:=
 JY (QP XW) func45 (by kernel_rfl) (by kernel_rfl) (by decide) Qgl Qgh
def VN:Tab:=Qc K7 45 sjC
theorem He:Qf VN:=XW.add QaU
