/- - -/
import Derived.Test.YtekbmehgcofnkaaGreatKx
set_option linter.all false
open Go.Proofs.Tryz
open Go.IntKind (i64)
set_option maxRecDepth 100000
namespace Go.Proofs.YtekbmehgcofnkaaGreat
open Go.SX Go.SX.Told
structure Jn where
 a:Int
 i:Int
 b:Int
 j:Int
instance : QA Jn where
  ks := [.int .i64,.int .i64,.int .i64,.int .i64]
  enc p j := match j with
    | 0 => p.a
    | 1 => p.i
    | 2 => p.b
    | _ => p.j
  dec f := ⟨f 0,f 1,f 2,f 3⟩
  ok _ := rfl
instance : Enc Jn where
  enc x := .agg [.int false .i64 x.a,.int false .i64 x.i,.int false .i64 x.b,.int false .i64 x.j]
  dec | .agg [.int _ .i64 a0,.int _ .i64 a1,.int _ .i64 a2,.int _ .i64 a3] => some ⟨a0,a1,a2,a3⟩ | _ => none
  ok v x h := by
    split at h <;> (try (cases h; done))
    simp only[qsI]at h; subst h; exact⟨λ_=>rfl,rfl⟩
def JN(x y:Int):Int:=cond (decide (x<y)) (-1) (cond (decide (y<x)) 1 0)
def orI(x y:Int):Int:=cond (x != 0) x y
def Vl(x y:Jn):Int:=orI (JN x.a y.a) (orI (JN x.i y.i) (orI (JN x.b y.b) (JN x.j y.j)))
def QAS:WF (Int×Int×Unit):=λ|(x,(y,_))=>(true,.int false .i64 (JN x y),[])
def QLj:FC:=wFC QAS
theorem QVn(x:Int)(y:Int):Kl (mkE prog QS) (hnd (mkE prog QS) 3) f108 (Qd.vals 0 ((x,y,()):Int×Int×Unit)) (Qd.blks 0 ((x,y,()):Int×Int×Unit)) 8=QC.br (x != x) (QC.br (y != y) (QC.leaf (vj (0:Int)) ([])) (QC.leaf (vj (-1:Int)) ([]))) (QC.br (y != y) (QC.leaf (vj (1:Int)) ([])) (QC.br (decide (x<y)) (QC.leaf (vj (-1:Int)) ([])) (QC.br (decide (x>y)) (QC.leaf (vj (1:Int)) ([])) (QC.leaf (vj (0:Int)) ([]))))):=by kernel_rfl
theorem QfU:JP (mkE prog QS) (Qk f108) 8 QAS (λx_=>(hnd (mkE prog QS) 3)):=by
 refine⟨?_⟩;rintro⟨x,⟨y,⟨⟩⟩⟩ hp G h1 h2;exact Qu (QN Qb) 3 G _ h1
theorem QXM:JQ (mkE prog QS) f108 8 QAS (λx_=>(hnd (mkE prog QS) 3)):=by
 refine⟨?_⟩;rintro⟨x,⟨y,⟨⟩⟩⟩ hp;refine⟨⟨rfl,by simp[QAS],rfl⟩,⟨?_⟩⟩
 rw[QVn x y];simp only[QAS]at hp;refine QF ?_ ?_<;>intro b0
 .simp at b0
 refine QF ?_ ?_<;>intro b2
 .simp at b2
 refine QF ?_ ?_<;>intro b3
 .refine Kd ⟨rfl,?_⟩ rfl;rw[JN,b3];rfl
 refine QF ?_ ?_<;>intro b4
 .refine Kd ⟨rfl,?_⟩ rfl;rw[JN,b3,show decide (y<x)=true from b4];rfl
 .refine Kd ⟨rfl,?_⟩ rfl;rw[JN,b3,show decide (y<x)=false from b4];rfl
theorem QT9:QR prog 108 QLj:=
 Ji (QN Qb) func108 (by kernel_rfl) (by kernel_rfl) (by decide) QfU QXM
def VJ:Tab:=Qa QS 108 QLj
theorem jN:Qc VJ:=Qb.add QT9
variable (K:Rw Int)
def nzI(k:Nat):Bool:=K.get k != 0
def orV:Int:=(QU (nzI K) K.n 0).elim 0 K.get
def orJ(k:Nat):JSt:=⟨18,[(3,.int false .i64 0),(6,.slz 0 0 K.n (.of 0)),(7,.int false .i64 K.n),(8,.int false .i64 k)],Qi.blk 0 K,8⟩
def QDw(v:Int):JSt:=⟨18,[(2,.int false .i64 v)],[],8⟩
def QGe:JSt:=⟨18,[(3,.int false .i64 0)],[],8⟩
def QLm:Ex->List Nat
 | .normal=>[3,6,7,8]
 | .exit _=>[3]
 | .ret=>[2]
theorem QU7(k:Nat)(g:Nat->Value):exec (mkE prog VJ) (hnd (mkE prog VJ) 1) (QH f154 0) (JSt.inst (orJ K k) g) (Q8 [] QLm)=QC.br (decide ((↑k:Int)<(↑K.n:Int))) (QC.need (decide ((0:Int)<=(↑k:Int)/\(↑k:Int)<(↑K.n:Int))&&decide (K.n<=K.n)) (QC.need (decide (k<K.n)) (QC.br (K.get k != (0:Int)) (QC.leaf (AV.tup [AV.nili,AV.ptr (18:Nat) (0:Nat) (0:Nat),vi (K.get k)]) ([])) (QC.leaf (AV.tup [AV.nilp,AV.ptr (18:Nat) (0:Nat) (0:Nat),vi (0:Int),AV.slz (0:Nat) (0:Nat) K.n cO,vi (↑K.n:Int),vi (i64.wrap ((↑k:Int)+(1:Int)))]) ([((0:Nat),Blk.frz [CK.int i64] K.n λi=>QA.enc (K.get i))]))))) (QC.leaf (AV.tup [AV.ptr (0:Nat) (0:Nat) (0:Nat),AV.ptr (18:Nat) (0:Nat) (0:Nat),vi (0:Int)]) ([])):=by kernel_rfl
theorem QYT(k:Nat)(v:Int):QE 8 [vi (K.get k)] ([]) (QDw v)=( some [K.get k=v]):=by kernel_rfl
theorem QdH(k k':Nat):QE 8 [vi (0:Int),AV.slz (0:Nat) (0:Nat) K.n cO,vi (↑K.n:Int),vi (i64.wrap ((↑k:Int)+(1:Int)))] ([((0:Nat),Blk.frz [CK.int i64] K.n λi=>QA.enc (K.get i))]) (orJ K k')=( some [(0:Int)=(0:Int),0=0,K.n=K.n,cO=cO,(↑K.n:Int)=(↑K.n:Int),i64.wrap ((↑k:Int)+(1:Int))=(↑k':Int),K.n<=K.n,QB (1:Nat) K.n (λi=>QA.enc (K.get i)) λi=>QA.enc (K.get i)]):=by kernel_rfl
theorem Qal :QE 8 [vi (0:Int)] ([]) QGe=( some [(0:Int)=(0:Int)]):=by kernel_rfl
def orR(k:Nat)(e:Ex)(J:JSt):Prop:=(e = .ret/\∃ i,QU (nzI K) (K.n-k) k=some i/\J=QDw (K.get i))∨(e = .exit 0/\QU (nzI K) (K.n-k) k=none/\J=QGe)
theorem QUw(hn:K.n<=1000):JL (orJ K) (λk=>k<=K.n) (λk=>K.n-k) (orR K) 8 QLm [] (mkE prog VJ) (λ_=>hnd (mkE prog VJ) 1) (QH f154 0):=by
 refine⟨λk g0 hk=>Qe (QU7 K k g0) ?_⟩;have hk:k<=K.n:=hk;refine QF (λb0=>?_) (λb0=>?_);have h:k<K.n:=by have:=qdt b0;omega
 have hf:=J4 (p:=nzI K) h
 iterate 2 (refine QG ?_ ?_;rotate_left)
 refine QF ?_ ?_<;>intro b1
 .exact⟨_,.inl ⟨rfl,k,hf.1 b1,rfl⟩,rfl,rfl,_,QYT K k (K.get k),⟨rfl,trivial⟩⟩
 refine⟨k+1,h,by show K.n-(k+1)<K.n-k;omega,λe J h=>by unfold orR at h ⊢;rw[hf.2 b1];exact h,rfl,rfl,_,QdH K k (k+1),?_⟩
 rotate_left
 .have h:K.n<=k:=by have:=qdf b0;omega
  exact⟨_,.inr ⟨rfl,by rw[show K.n-k=0 by omega];rfl,rfl⟩,rfl,rfl,_,Qal,⟨rfl,trivial⟩⟩
 all_goals first|((with_reducible show _=true);(simp at b0 ⊢;omega))|(repeat' first|with_reducible refine QO ?_ ?_|exact tv|exact qRr|exact Vj h hn|refine aI ?_ ?_)
def orX:List (Prop×Ex×JSt):=[((QU (nzI K) K.n 0).isSome=true,.ret,QDw (orV K)),(QU (nzI K) K.n 0=none,.exit 0,QGe)]
abbrev orH(P:Program)(K:Rw Int):Hnd:={ hnd (mkE P VJ) 1 with loop:=λ_=>Kr (K.n<=1000) (Q4 8 [] (orJ K (0:Nat)) (orX K)) }
theorem Qdm(G:Ctx)(hrd:G.rd=none)(hG:G.n=8):Qx (mkE prog VJ) G (orH prog K) (Qk f154):=by
 refine KR (body:=QH f154 0) (QN jN) hrd (by kernel_rfl) ?_
 refine JK λhl=>?_;refine Jt (n0:=8) (QN jN) (by omega) (λs hs=>Qu (QN jN) 1 G _ hrd) (λs hs=>(by decide:8<=8)) ?_ (QUw K hl) (s0:=0) (Nat.zero_le _) ?_
 .rintro s e J (⟨_,_,_,rfl⟩|⟨_,_,rfl⟩)<;>exact(by decide:8<=8)
 .rintro e J (⟨rfl,i,h,rfl⟩|⟨rfl,h,rfl⟩)
  .exact⟨_,qmc,congrArg Option.isSome h,rfl,congrArg QDw (show(QU (nzI K) K.n 0).elim 0 K.get=_ by rw[show QU (nzI K) K.n 0=some i from h];rfl)⟩
  .exact⟨_,List.mem_cons_of_mem _ qmc,h,rfl,rfl⟩
def QAf:WF ((Rw Int)×Unit):=λ|(K,_)=>(decide (K.n<=1000),.int false .i64 (orV K),[])
def QRA:FC:=wFC QAf
theorem QTW(K:(Rw Int)):Kl (mkE prog VJ) (orH prog K) f154 (Qd.vals 0 ((K,()):(Rw Int)×Unit)) (Qd.blks 0 ((K,()):(Rw Int)×Unit)) 8=QC.ask (K.n<=(1000:Nat)) (QC.ask ((0:Int)=(0:Int)) (QC.ask (0=0) (QC.ask (K.n=K.n) (QC.ask (cO=cO) (QC.ask ((↑K.n:Int)=(↑K.n:Int)) (QC.ask ((0:Int)=(0:Int)) (QC.ask (K.n<=K.n) (QC.ask (QB (1:Nat) K.n (λi=>QA.enc (K.get i)) λi=>QA.enc (K.get i)) (QC.both (QC.asm ((QU (nzI K) K.n (0:Nat)).isSome=true) (QC.all (λ(g0:Nat->Value)=>QC.leaf (vi (orV K)) ([])))) (QC.asm (QU (nzI K) K.n (0:Nat)=none) (QC.all (λ(g1:Nat->Value)=>QC.leaf (vi (0:Int)) ([]))))))))))))):=by kernel_rfl
theorem QU2:JP (mkE prog VJ) (Qk f154) 8 QAf (λx_=>(orH prog x_.1)):=by
 refine⟨?_⟩;rintro⟨K,⟨⟩⟩ hp G h1 h2;exact Qdm K G h1 h2
theorem QUL:JQ (mkE prog VJ) f154 8 QAf (λx_=>(orH prog x_.1)):=by
 refine⟨?_⟩;rintro⟨K,⟨⟩⟩ hp;refine⟨⟨rfl,by simp[QAf],rfl⟩,⟨?_⟩⟩
 rw[QTW K];simp only[QAf]at hp;have hp:=qdt hp
 iterate 9 refine Qp (by first|exact tv|exact hp|exact qRr) ?_
 refine Kb ?_ ?_;refine Qf λa0=>?_;refine Qh λg0=>?_
 .exact Kd ⟨rfl,rfl⟩ rfl
 refine Qf λa1=>?_;refine Qh λg1=>?_
 .refine Kd ⟨rfl,?_⟩ rfl;rw[orV,a1];rfl
theorem QeZ:QR prog 154 QRA:=
 Ji (QN jN) func154 (by kernel_rfl) (by kernel_rfl) (by decide) QU2 QUL
def vL:Tab:=Qa VJ 154 QRA
theorem QQ8:Qc vL:=jN.add QeZ
theorem or4(hn:K.n=4):orV K=orI (K.get 0) (orI (K.get 1) (orI (K.get 2) (K.get 3))):=by
 have e:∀ i,nzI K i=(K.get i != 0):=λ_=>rfl;unfold orV orI;rw[hn];simp only[QU,e];cases h0:K.get 0 != 0 with
 | true=>rfl
 | false=>
  cases h1:K.get 1 != 0 with
  | true=>simp[h1]
  | false=>
   cases h2:K.get 2 != 0 with
   | true=>simp[h1,h2]
   | false=>
    cases h3:K.get 3 != 0 with
    | true=>simp[h1,h2,h3]
    | false=>
     have:K.get 3=0:=by simpa using h3
     simp[h1,h2,h3,this]
def HS:WF (Jn×Jn×Unit):=λ|(x,(y,_))=>(true,.int false .i64 (Vl x y),[])
def QVd:FC:=wFC HS
theorem QbV(x:Jn)(y:Jn):Kl (mkE prog vL) (hnd (mkE prog vL) 1) f131 (Qd.vals 0 ((x,y,()):Jn×Jn×Unit)) (Qd.blks 0 ((x,y,()):Jn×Jn×Unit)) 8=QC.need (true) (QC.need (true) (QC.need (true) (QC.need (true) (QC.need (true&&true&&decide ((4:Nat)<=(1000:Nat))) (QC.leaf (vi (orV (Rw.mk (4:Nat) λi=>Kg [[vi (JN x.a y.a)],[vi (JN x.i y.i)],[vi (JN x.b y.b)],[vi (JN x.j y.j)]] (0:Nat) i (0:Nat)))) ([])))))):=by kernel_rfl
theorem QSY:JP (mkE prog vL) (Qk f131) 8 HS (λx_=>(hnd (mkE prog vL) 1)):=by
 refine⟨?_⟩;rintro⟨x,⟨y,⟨⟩⟩⟩ hp G h1 h2;exact Qu (QN QQ8) 1 G _ h1
theorem QUP:JQ (mkE prog vL) f131 8 HS (λx_=>(hnd (mkE prog vL) 1)):=by
 refine⟨?_⟩;rintro⟨x,⟨y,⟨⟩⟩⟩ hp;refine⟨⟨rfl,by simp[HS],rfl⟩,⟨?_⟩⟩
 rw[QbV x y];simp only[HS]at hp
 iterate 5 (refine QG ?_ ?_;rotate_left)
 .refine Kd ⟨rfl,?_⟩ rfl;rw[or4 _ rfl];rfl
 all_goals rfl
theorem Qac:QR prog 131 QVd:=
 Ji (QN QQ8) func131 (by kernel_rfl) (by kernel_rfl) (by decide) QSY QUP
