/- - -/
import Derived.Test.YtekbmehgcofnkaaGreatMx
open Go.Proofs.Tryz
open Go.IntKind (i64)
set_option maxRecDepth 100000
namespace Go.Proofs.YtekbmehgcofnkaaGreat
open Go.SX Go.SX.Told
structure Jn where
 a:Int
 i:Int
 b:Int
 j:Int
instance : QA Jn where
  ks := [.int .i64,.int .i64,.int .i64,.int .i64]
  enc p j := match j with
    | 0 => p.a
    | 1 => p.i
    | 2 => p.b
    | _ => p.j
  dec f := ⟨f 0,f 1,f 2,f 3⟩
  ok _ := rfl
instance : Enc Jn where
  enc x := .agg [.int false .i64 x.a,.int false .i64 x.i,.int false .i64 x.b,.int false .i64 x.j]
  dec | .agg [.int _ .i64 a0,.int _ .i64 a1,.int _ .i64 a2,.int _ .i64 a3] => some ⟨a0,a1,a2,a3⟩ | _ => none
  ok v x h := by
    split at h <;> (try (cases h; done))
    simp only[qsI]at h; subst h; exact⟨λ_=>rfl,rfl⟩
def JX(x y:Int):Int:=cond (decide (x<y)) (-1) (cond (decide (y<x)) 1 0)
def orI(x y:Int):Int:=cond (x != 0) x y
def Vq(x y:Jn):Int:=orI (JX x.a y.a) (orI (JX x.i y.i) (orI (JX x.b y.b) (JX x.j y.j)))
def QBi:WF (Int×Int×Unit):=λ|(x,(y,_))=>(true,.int false .i64 (JX x y),[])
def QO2:FC:=wFC QBi
theorem Qdn(x:Int)(y:Int):Kd (mkE prog QT) (hnd (mkE prog QT) 3) f108 (Qb.vals 0 ((x,y,()):Int×Int×Unit)) (Qb.blks 0 ((x,y,()):Int×Int×Unit)) 8=QC.br (x != x) (QC.br (y != y) (QC.leaf (vj (0:Int)) ([])) (QC.leaf (vj (-1:Int)) ([]))) (QC.br (y != y) (QC.leaf (vj (1:Int)) ([])) (QC.br (decide (x<y)) (QC.leaf (vj (-1:Int)) ([])) (QC.br (decide (x>y)) (QC.leaf (vj (1:Int)) ([])) (QC.leaf (vj (0:Int)) ([]))))):=by kernel_rfl
theorem QhN:JA (mkE prog QT) (Qk f108) 8 QBi (λx_=>(hnd (mkE prog QT) 3)):=by
 refine⟨?_⟩;rintro⟨x,⟨y,⟨⟩⟩⟩ hp G h1 h2;exact Qv (QO Qh) 3 G _ h1
theorem Qcq:JB (mkE prog QT) f108 8 QBi (λx_=>(hnd (mkE prog QT) 3)):=by
 refine⟨?_⟩;rintro⟨x,⟨y,⟨⟩⟩⟩ hp;refine⟨⟨rfl,by simp[QBi],rfl⟩,⟨?_⟩⟩
 rw[Qdn x y];simp only[QBi]at hp;refine QE ?_ ?_<;>intro b0
 .simp at b0
 refine QE ?_ ?_<;>intro b2
 .simp at b2
 refine QE ?_ ?_<;>intro b3
 .refine KE ⟨rfl,?_⟩ rfl;rw[JX,b3];rfl
 refine QE ?_ ?_<;>intro b4
 .refine KE ⟨rfl,?_⟩ rfl;rw[JX,b3,show decide (y<x)=true from b4];rfl
 .refine KE ⟨rfl,?_⟩ rfl;rw[JX,b3,show decide (y<x)=false from b4];rfl
theorem QXk:QR prog 108 QO2:=
 JL (QO Qh) func108 (by kernel_rfl) (by kernel_rfl) (by decide) QhN Qcq
def VT:Tab:=Qa QT 108 QO2
theorem vI:Qc VT:=Qh.add QXk
variable (K:Rw Int)
def nzI(k:Nat):Bool:=K.get k != 0
def orV:Int:=(QP (nzI K) K.n 0).elim 0 K.get
def orJ(k:Nat):JSt:=⟨18,[(3,.int false .i64 0),(6,.slz 0 0 K.n (.of 0)),(7,.int false .i64 K.n),(8,.int false .i64 k)],Qi.blk 0 K,8⟩
def QFW(v:Int):JSt:=⟨18,[(2,.int false .i64 v)],[],8⟩
def QH5:JSt:=⟨18,[(3,.int false .i64 0)],[],8⟩
def QNA:Ex->List Nat
 | .normal=>[3,6,7,8]
 | .exit _=>[3]
 | .ret=>[2]
theorem QfX(k:Nat)(g:Nat->Value):exec (mkE prog VT) (hnd (mkE prog VT) 1) (QH f154 0) (JSt.inst (orJ K k) g) (Q9 [] QNA)=QC.br (decide ((↑k:Int)<(↑K.n:Int))) (QC.need (decide ((0:Int)<=(↑k:Int)/\(↑k:Int)<(↑K.n:Int))&&decide (K.n<=K.n)) (QC.need (decide (k<K.n)) (QC.br (K.get k != (0:Int)) (QC.leaf (AV.tup [AV.nili,AV.ptr (18:Nat) (0:Nat) (0:Nat),vi (K.get k)]) ([])) (QC.leaf (AV.tup [AV.nilp,AV.ptr (18:Nat) (0:Nat) (0:Nat),vi (0:Int),AV.slz (0:Nat) (0:Nat) K.n cO,vi (↑K.n:Int),vi (i64.wrap ((↑k:Int)+(1:Int)))]) ([((0:Nat),Blk.frz [CK.int i64] K.n λi=>QA.enc (K.get i))]))))) (QC.leaf (AV.tup [AV.ptr (0:Nat) (0:Nat) (0:Nat),AV.ptr (18:Nat) (0:Nat) (0:Nat),vi (0:Int)]) ([])):=by kernel_rfl
theorem QVq(k:Nat)(v:Int):QF 8 [vi (K.get k)] ([]) (QFW v)=( some [K.get k=v]):=by kernel_rfl
theorem Qho(k k':Nat):QF 8 [vi (0:Int),AV.slz (0:Nat) (0:Nat) K.n cO,vi (↑K.n:Int),vi (i64.wrap ((↑k:Int)+(1:Int)))] ([((0:Nat),Blk.frz [CK.int i64] K.n λi=>QA.enc (K.get i))]) (orJ K k')=( some [(0:Int)=(0:Int),0=0,K.n=K.n,cO=cO,(↑K.n:Int)=(↑K.n:Int),i64.wrap ((↑k:Int)+(1:Int))=(↑k':Int),K.n<=K.n,QB (1:Nat) K.n (λi=>QA.enc (K.get i)) λi=>QA.enc (K.get i)]):=by kernel_rfl
theorem QhI :QF 8 [vi (0:Int)] ([]) QH5=( some [(0:Int)=(0:Int)]):=by kernel_rfl
def orR(k:Nat)(e:Ex)(J:JSt):Prop:=(e = .ret/\∃ i,QP (nzI K) (K.n-k) k=some i/\J=QFW (K.get i))∨(e = .exit 0/\QP (nzI K) (K.n-k) k=none/\J=QH5)
theorem Qib(hn:K.n<=1000):JP (orJ K) (λk=>k<=K.n) (λk=>K.n-k) (orR K) 8 QNA [] (mkE prog VT) (λ_=>hnd (mkE prog VT) 1) (QH f154 0):=by
 refine⟨λk g0 hk=>Qf (QfX K k g0) ?_⟩;have hk:k<=K.n:=hk;refine QE (λb0=>?_) (λb0=>?_);have h:k<K.n:=by have:=qdt b0;omega
 have hf:=JK (p:=nzI K) h
 iterate 2 (refine QG ?_ ?_;rotate_left)
 refine QE ?_ ?_<;>intro b1
 .exact⟨_,.inl ⟨rfl,k,hf.1 b1,rfl⟩,rfl,rfl,_,QVq K k (K.get k),⟨rfl,trivial⟩⟩
 refine⟨k+1,h,by show K.n-(k+1)<K.n-k;omega,λe J h=>by unfold orR at h ⊢;rw[hf.2 b1];exact h,rfl,rfl,_,Qho K k (k+1),?_⟩
 rotate_left
 .have h:K.n<=k:=by have:=qdf b0;omega
  exact⟨_,.inr ⟨rfl,by rw[show K.n-k=0 by omega];rfl,rfl⟩,rfl,rfl,_,QhI,⟨rfl,trivial⟩⟩
 all_goals first|((with_reducible show _=true);(simp at b0 ⊢;omega))|(repeat' first|with_reducible refine QL ?_ ?_|exact tv|exact qRr|exact Ja h hn|refine aI ?_ ?_)
def orX:List (Prop×Ex×JSt):=[((QP (nzI K) K.n 0).isSome=true,.ret,QFW (orV K)),(QP (nzI K) K.n 0=none,.exit 0,QH5)]
abbrev orH(P:Program)(K:Rw Int):Hnd:={ hnd (mkE P VT) 1 with loop:=λ_=>JT (K.n<=1000) (KC 8 [] (orJ K (0:Nat)) (orX K)) }
theorem Qgx(G:Ctx)(hrd:G.rd=none)(hG:G.n=8):Qw (mkE prog VT) G (orH prog K) (Qk f154):=by
 refine KN (body:=QH f154 0) (QO vI) hrd (by kernel_rfl) ?_
 refine Jh λhl=>?_;refine Jq (n0:=8) (QO vI) (by omega) (λs hs=>Qv (QO vI) 1 G _ hrd) (λs hs=>(by decide:8<=8)) ?_ (Qib K hl) (s0:=0) (Nat.zero_le _) ?_
 .rintro s e J (⟨_,_,_,rfl⟩|⟨_,_,rfl⟩)<;>exact(by decide:8<=8)
 .rintro e J (⟨rfl,i,h,rfl⟩|⟨rfl,h,rfl⟩)
  .exact⟨_,qmc,congrArg Option.isSome h,rfl,congrArg QFW (show(QP (nzI K) K.n 0).elim 0 K.get=_ by rw[show QP (nzI K) K.n 0=some i from h];rfl)⟩
  .exact⟨_,List.mem_cons_of_mem _ qmc,h,rfl,rfl⟩
def QAq:WF ((Rw Int)×Unit):=λ|(K,_)=>(decide (K.n<=1000),.int false .i64 (orV K),[])
def QRA:FC:=wFC QAq
theorem QbV(K:(Rw Int)):Kd (mkE prog VT) (orH prog K) f154 (Qb.vals 0 ((K,()):(Rw Int)×Unit)) (Qb.blks 0 ((K,()):(Rw Int)×Unit)) 8=QC.ask (K.n<=(1000:Nat)) (QC.ask ((0:Int)=(0:Int)) (QC.ask (0=0) (QC.ask (K.n=K.n) (QC.ask (cO=cO) (QC.ask ((↑K.n:Int)=(↑K.n:Int)) (QC.ask ((0:Int)=(0:Int)) (QC.ask (K.n<=K.n) (QC.ask (QB (1:Nat) K.n (λi=>QA.enc (K.get i)) λi=>QA.enc (K.get i)) (QC.both (QC.asm ((QP (nzI K) K.n (0:Nat)).isSome=true) (QC.all (λ(g0:Nat->Value)=>QC.leaf (vi (orV K)) ([])))) (QC.asm (QP (nzI K) K.n (0:Nat)=none) (QC.all (λ(g1:Nat->Value)=>QC.leaf (vi (0:Int)) ([]))))))))))))):=by kernel_rfl
theorem QdP:JA (mkE prog VT) (Qk f154) 8 QAq (λx_=>(orH prog x_.1)):=by
 refine⟨?_⟩;rintro⟨K,⟨⟩⟩ hp G h1 h2;exact Qgx K G h1 h2
theorem QVg:JB (mkE prog VT) f154 8 QAq (λx_=>(orH prog x_.1)):=by
 refine⟨?_⟩;rintro⟨K,⟨⟩⟩ hp;refine⟨⟨rfl,by simp[QAq],rfl⟩,⟨?_⟩⟩
 rw[QbV K];simp only[QAq]at hp;have hp:=qdt hp
 iterate 9 refine Qu (by first|exact tv|exact hp|exact qRr) ?_
 refine Kh ?_ ?_;refine Qg λa0=>?_;refine Qj λg0=>?_
 .exact KE ⟨rfl,rfl⟩ rfl
 refine Qg λa1=>?_;refine Qj λg1=>?_
 .refine KE ⟨rfl,?_⟩ rfl;rw[orV,a1];rfl
theorem QZZ:QR prog 154 QRA:=
 JL (QO vI) func154 (by kernel_rfl) (by kernel_rfl) (by decide) QdP QVg
def vN:Tab:=Qa VT 154 QRA
theorem QLV:Qc vN:=vI.add QZZ
theorem or4(hn:K.n=4):orV K=orI (K.get 0) (orI (K.get 1) (orI (K.get 2) (K.get 3))):=by
 have e:∀ i,nzI K i=(K.get i != 0):=λ_=>rfl;unfold orV orI;rw[hn];simp only[QP,e];cases h0:K.get 0 != 0 with
 | true=>rfl
 | false=>
  cases h1:K.get 1 != 0 with
  | true=>simp[h1]
  | false=>
   cases h2:K.get 2 != 0 with
   | true=>simp[h1,h2]
   | false=>
    cases h3:K.get 3 != 0 with
    | true=>simp[h1,h2,h3]
    | false=>
     have:K.get 3=0:=by simpa using h3
     simp[h1,h2,h3,this]
def QAl:WF (Jn×Jn×Unit):=λ|(x,(y,_))=>(true,.int false .i64 (Vq x y),[])
def Qa5:FC:=wFC QAl
theorem Qco(x:Jn)(y:Jn):Kd (mkE prog vN) (hnd (mkE prog vN) 1) f131 (Qb.vals 0 ((x,y,()):Jn×Jn×Unit)) (Qb.blks 0 ((x,y,()):Jn×Jn×Unit)) 8=QC.need (true) (QC.need (true) (QC.need (true) (QC.need (true) (QC.need (true&&true&&decide ((4:Nat)<=(1000:Nat))) (QC.leaf (vi (orV (Rw.mk (4:Nat) λi=>Ke [[vi (JX x.a y.a)],[vi (JX x.i y.i)],[vi (JX x.b y.b)],[vi (JX x.j y.j)]] (0:Nat) i (0:Nat)))) ([])))))):=by kernel_rfl
theorem Qff:JA (mkE prog vN) (Qk f131) 8 QAl (λx_=>(hnd (mkE prog vN) 1)):=by
 refine⟨?_⟩;rintro⟨x,⟨y,⟨⟩⟩⟩ hp G h1 h2;exact Qv (QO QLV) 1 G _ h1
theorem Qb1:JB (mkE prog vN) f131 8 QAl (λx_=>(hnd (mkE prog vN) 1)):=by
 refine⟨?_⟩;rintro⟨x,⟨y,⟨⟩⟩⟩ hp;refine⟨⟨rfl,by simp[QAl],rfl⟩,⟨?_⟩⟩
 rw[Qco x y];simp only[QAl]at hp
 iterate 5 (refine QG ?_ ?_;rotate_left)
 .refine KE ⟨rfl,?_⟩ rfl;rw[or4 _ rfl];rfl
 all_goals rfl
theorem QWt:QR prog 131 Qa5:=
 JL (QO QLV) func131 (by kernel_rfl) (by kernel_rfl) (by decide) Qff Qb1
