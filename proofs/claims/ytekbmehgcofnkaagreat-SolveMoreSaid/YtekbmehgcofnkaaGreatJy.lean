/- - -/
import Derived.Test.YtekbmehgcofnkaaGreatJx
set_option linter.all false
open Go.Proofs.Tryz
open Go.IntKind (i64)
set_option maxRecDepth 100000
namespace Go.Proofs.YtekbmehgcofnkaaGreat
open Go.SX Go.SX.Told
structure Jn where
 a:Int
 i:Int
 b:Int
 j:Int
instance : QA Jn where
  ks := [.int .i64,.int .i64,.int .i64,.int .i64]
  enc p j := match j with
    | 0 => p.a
    | 1 => p.i
    | 2 => p.b
    | _ => p.j
  dec f := ⟨f 0,f 1,f 2,f 3⟩
  ok _ := rfl
instance : Enc Jn where
  enc x := .agg [.int false .i64 x.a,.int false .i64 x.i,.int false .i64 x.b,.int false .i64 x.j]
  dec | .agg [.int _ .i64 a0,.int _ .i64 a1,.int _ .i64 a2,.int _ .i64 a3] => some ⟨a0,a1,a2,a3⟩ | _ => none
  ok v x h := by
    split at h <;> (try (cases h; done))
    simp only[qsI]at h; subst h; exact⟨λ_=>rfl,rfl⟩
def JS(x y:Int):Int:=cond (decide (x<y)) (-1) (cond (decide (y<x)) 1 0)
def orI(x y:Int):Int:=cond (x != 0) x y
def Vm(x y:Jn):Int:=orI (JS x.a y.a) (orI (JS x.i y.i) (orI (JS x.b y.b) (JS x.j y.j)))
def QBQ:WF (Int×Int×Unit):=λ|(x,(y,_))=>(true,.int false .i64 (JS x y),[])
def QTj:FC:=wFC QBQ
theorem QgF(x:Int)(y:Int):Kf (mkE prog QU) (hnd (mkE prog QU) 3) f108 (QX.vals 0 ((x,y,()):Int×Int×Unit)) (QX.blks 0 ((x,y,()):Int×Int×Unit)) 8=QC.br (x != x) (QC.br (y != y) (QC.leaf (vj (0:Int)) ([])) (QC.leaf (vj (-1:Int)) ([]))) (QC.br (y != y) (QC.leaf (vj (1:Int)) ([])) (QC.br (decide (x<y)) (QC.leaf (vj (-1:Int)) ([])) (QC.br (decide (x>y)) (QC.leaf (vj (1:Int)) ([])) (QC.leaf (vj (0:Int)) ([]))))):=by kernel_rfl
theorem QWz:JP (mkE prog QU) (Qk f108) 8 QBQ (λx_=>(hnd (mkE prog QU) 3)):=by
 refine⟨?_⟩;rintro⟨x,⟨y,⟨⟩⟩⟩ hp G h1 h2;exact Qw (QP Qd) 3 G _ h1
theorem QZb:JN (mkE prog QU) f108 8 QBQ (λx_=>(hnd (mkE prog QU) 3)):=by
 refine⟨?_⟩;rintro⟨x,⟨y,⟨⟩⟩⟩ hp;refine⟨⟨rfl,by simp[QBQ],rfl⟩,⟨?_⟩⟩
 rw[QgF x y];simp only[QBQ]at hp;refine QE ?_ ?_<;>intro b0
 .simp at b0
 refine QE ?_ ?_<;>intro b2
 .simp at b2
 refine QE ?_ ?_<;>intro b3
 .refine KY ⟨rfl,?_⟩ rfl;rw[JS,b3];rfl
 refine QE ?_ ?_<;>intro b4
 .refine KY ⟨rfl,?_⟩ rfl;rw[JS,b3,show decide (y<x)=true from b4];rfl
 .refine KY ⟨rfl,?_⟩ rfl;rw[JS,b3,show decide (y<x)=false from b4];rfl
theorem Qf1:QQ prog 108 QTj:=
 JW (QP Qd) func108 (by kernel_rfl) (by kernel_rfl) (by decide) QWz QZb
def VS:Tab:=QZ QU 108 QTj
theorem jh:Qc VS:=Qd.add Qf1
variable (K:Rw Int)
def nzI(k:Nat):Bool:=K.get k != 0
def orV:Int:=(QR (nzI K) K.n 0).elim 0 K.get
def orJ(k:Nat):JSt:=⟨18,[(3,.int false .i64 0),(6,.slz 0 0 K.n (.of 0)),(7,.int false .i64 K.n),(8,.int false .i64 k)],Qo.blk 0 K,8⟩
def QEO(v:Int):JSt:=⟨18,[(2,.int false .i64 v)],[],8⟩
def QGK:JSt:=⟨18,[(3,.int false .i64 0)],[],8⟩
def QRf:Ex->List Nat
 | .normal=>[3,6,7,8]
 | .exit _=>[3]
 | .ret=>[2]
theorem Qe5(k:Nat)(g:Nat->Value):exec (mkE prog VS) (hnd (mkE prog VS) 1) (QJ f154 0) (JSt.inst (orJ K k) g) (KD [] QRf)=QC.br (decide ((↑k:Int)<(↑K.n:Int))) (QC.need (decide ((0:Int)<=(↑k:Int)/\(↑k:Int)<(↑K.n:Int))&&decide (K.n<=K.n)) (QC.need (decide (k<K.n)) (QC.br (K.get k != (0:Int)) (QC.leaf (AV.tup [AV.nili,AV.ptr (18:Nat) (0:Nat) (0:Nat),vi (K.get k)]) ([])) (QC.leaf (AV.tup [AV.nilp,AV.ptr (18:Nat) (0:Nat) (0:Nat),vi (0:Int),AV.slz (0:Nat) (0:Nat) K.n cO,vi (↑K.n:Int),vi (i64.wrap ((↑k:Int)+(1:Int)))]) ([((0:Nat),Blk.frz [CK.int i64] K.n λi=>QA.enc (K.get i))]))))) (QC.leaf (AV.tup [AV.ptr (0:Nat) (0:Nat) (0:Nat),AV.ptr (18:Nat) (0:Nat) (0:Nat),vi (0:Int)]) ([])):=by kernel_rfl
theorem QWj(k:Nat)(v:Int):QF 8 [vi (K.get k)] ([]) (QEO v)=( some [K.get k=v]):=by kernel_rfl
theorem Qg3(k k':Nat):QF 8 [vi (0:Int),AV.slz (0:Nat) (0:Nat) K.n cO,vi (↑K.n:Int),vi (i64.wrap ((↑k:Int)+(1:Int)))] ([((0:Nat),Blk.frz [CK.int i64] K.n λi=>QA.enc (K.get i))]) (orJ K k')=( some [(0:Int)=(0:Int),0=0,K.n=K.n,cO=cO,(↑K.n:Int)=(↑K.n:Int),i64.wrap ((↑k:Int)+(1:Int))=(↑k':Int),K.n<=K.n,QB (1:Nat) K.n (λi=>QA.enc (K.get i)) λi=>QA.enc (K.get i)]):=by kernel_rfl
theorem QYQ :QF 8 [vi (0:Int)] ([]) QGK=( some [(0:Int)=(0:Int)]):=by kernel_rfl
def orR(k:Nat)(e:Ex)(J:JSt):Prop:=(e = .ret/\∃ i,QR (nzI K) (K.n-k) k=some i/\J=QEO (K.get i))∨(e = .exit 0/\QR (nzI K) (K.n-k) k=none/\J=QGK)
theorem QVt(hn:K.n<=1000):J1 (orJ K) (λk=>k<=K.n) (λk=>K.n-k) (orR K) 8 QRf [] (mkE prog VS) (λ_=>hnd (mkE prog VS) 1) (QJ f154 0):=by
 refine⟨λk g0 hk=>Qe (Qe5 K k g0) ?_⟩;have hk:k<=K.n:=hk;refine QE (λb0=>?_) (λb0=>?_);have h:k<K.n:=by have:=qdt b0;omega
 have hf:=JU (p:=nzI K) h
 iterate 2 (refine QG ?_ ?_;rotate_left)
 refine QE ?_ ?_<;>intro b1
 .exact⟨_,.inl ⟨rfl,k,hf.1 b1,rfl⟩,rfl,rfl,_,QWj K k (K.get k),⟨rfl,trivial⟩⟩
 refine⟨k+1,h,by show K.n-(k+1)<K.n-k;omega,λe J h=>by unfold orR at h ⊢;rw[hf.2 b1];exact h,rfl,rfl,_,Qg3 K k (k+1),?_⟩
 rotate_left
 .have h:K.n<=k:=by have:=qdf b0;omega
  exact⟨_,.inr ⟨rfl,by rw[show K.n-k=0 by omega];rfl,rfl⟩,rfl,rfl,_,QYQ,⟨rfl,trivial⟩⟩
 all_goals first|((with_reducible show _=true);(simp at b0 ⊢;omega))|(repeat' first|with_reducible refine QN ?_ ?_|exact tv|exact qRr|exact VJ h hn|refine aI ?_ ?_)
def orX:List (Prop×Ex×JSt):=[((QR (nzI K) K.n 0).isSome=true,.ret,QEO (orV K)),(QR (nzI K) K.n 0=none,.exit 0,QGK)]
abbrev orH(P:Program)(K:Rw Int):Hnd:={ hnd (mkE P VS) 1 with loop:=λ_=>J9 (K.n<=1000) (KJ 8 [] (orJ K (0:Nat)) (orX K)) }
theorem QaX(G:Ctx)(hrd:G.rd=none)(hG:G.n=8):Q1 (mkE prog VS) G (orH prog K) (Qk f154):=by
 refine Kk (body:=QJ f154 0) (QP jh) hrd (by kernel_rfl) ?_
 refine Vy λhl=>?_;refine V7 (n0:=8) (QP jh) (by omega) (λs hs=>Qw (QP jh) 1 G _ hrd) (λs hs=>(by decide:8<=8)) ?_ (QVt K hl) (s0:=0) (Nat.zero_le _) ?_
 .rintro s e J (⟨_,_,_,rfl⟩|⟨_,_,rfl⟩)<;>exact(by decide:8<=8)
 .rintro e J (⟨rfl,i,h,rfl⟩|⟨rfl,h,rfl⟩)
  .exact⟨_,qmc,congrArg Option.isSome h,rfl,congrArg QEO (show(QR (nzI K) K.n 0).elim 0 K.get=_ by rw[show QR (nzI K) K.n 0=some i from h];rfl)⟩
  .exact⟨_,List.mem_cons_of_mem _ qmc,h,rfl,rfl⟩
def QAA:WF ((Rw Int)×Unit):=λ|(K,_)=>(decide (K.n<=1000),.int false .i64 (orV K),[])
def QOb:FC:=wFC QAA
theorem Qdh(K:(Rw Int)):Kf (mkE prog VS) (orH prog K) f154 (QX.vals 0 ((K,()):(Rw Int)×Unit)) (QX.blks 0 ((K,()):(Rw Int)×Unit)) 8=QC.ask (K.n<=(1000:Nat)) (QC.ask ((0:Int)=(0:Int)) (QC.ask (0=0) (QC.ask (K.n=K.n) (QC.ask (cO=cO) (QC.ask ((↑K.n:Int)=(↑K.n:Int)) (QC.ask ((0:Int)=(0:Int)) (QC.ask (K.n<=K.n) (QC.ask (QB (1:Nat) K.n (λi=>QA.enc (K.get i)) λi=>QA.enc (K.get i)) (QC.both (QC.asm ((QR (nzI K) K.n (0:Nat)).isSome=true) (QC.all (λ(g0:Nat->Value)=>QC.leaf (vi (orV K)) ([])))) (QC.asm (QR (nzI K) K.n (0:Nat)=none) (QC.all (λ(g1:Nat->Value)=>QC.leaf (vi (0:Int)) ([]))))))))))))):=by kernel_rfl
theorem QYK:JP (mkE prog VS) (Qk f154) 8 QAA (λx_=>(orH prog x_.1)):=by
 refine⟨?_⟩;rintro⟨K,⟨⟩⟩ hp G h1 h2;exact QaX K G h1 h2
theorem QY6:JN (mkE prog VS) f154 8 QAA (λx_=>(orH prog x_.1)):=by
 refine⟨?_⟩;rintro⟨K,⟨⟩⟩ hp;refine⟨⟨rfl,by simp[QAA],rfl⟩,⟨?_⟩⟩
 rw[Qdh K];simp only[QAA]at hp;have hp:=qdt hp
 iterate 9 refine Q2 (by first|exact tv|exact hp|exact qRr) ?_
 refine Km ?_ ?_;refine Qh λa0=>?_;refine Qj λg0=>?_
 .exact KY ⟨rfl,rfl⟩ rfl
 refine Qh λa1=>?_;refine Qj λg1=>?_
 .refine KY ⟨rfl,?_⟩ rfl;rw[orV,a1];rfl
theorem Qei:QQ prog 154 QOb:=
 JW (QP jh) func154 (by kernel_rfl) (by kernel_rfl) (by decide) QYK QY6
def jW:Tab:=QZ VS 154 QOb
theorem QT0:Qc jW:=jh.add Qei
theorem or4(hn:K.n=4):orV K=orI (K.get 0) (orI (K.get 1) (orI (K.get 2) (K.get 3))):=by
 have e:∀ i,nzI K i=(K.get i != 0):=λ_=>rfl;unfold orV orI;rw[hn];simp only[QR,e];cases h0:K.get 0 != 0 with
 | true=>rfl
 | false=>
  cases h1:K.get 1 != 0 with
  | true=>simp[h1]
  | false=>
   cases h2:K.get 2 != 0 with
   | true=>simp[h1,h2]
   | false=>
    cases h3:K.get 3 != 0 with
    | true=>simp[h1,h2,h3]
    | false=>
     have:K.get 3=0:=by simpa using h3
     simp[h1,h2,h3,this]
def Hq:WF (Jn×Jn×Unit):=λ|(x,(y,_))=>(true,.int false .i64 (Vm x y),[])
def Qb3:FC:=wFC Hq
theorem Qdb(x:Jn)(y:Jn):Kf (mkE prog jW) (hnd (mkE prog jW) 1) f131 (QX.vals 0 ((x,y,()):Jn×Jn×Unit)) (QX.blks 0 ((x,y,()):Jn×Jn×Unit)) 8=QC.need (true) (QC.need (true) (QC.need (true) (QC.need (true) (QC.need (true&&true&&decide ((4:Nat)<=(1000:Nat))) (QC.leaf (vi (orV (Rw.mk (4:Nat) λi=>Kt [[vi (JS x.a y.a)],[vi (JS x.i y.i)],[vi (JS x.b y.b)],[vi (JS x.j y.j)]] (0:Nat) i (0:Nat)))) ([])))))):=by kernel_rfl
theorem Qds:JP (mkE prog jW) (Qk f131) 8 Hq (λx_=>(hnd (mkE prog jW) 1)):=by
 refine⟨?_⟩;rintro⟨x,⟨y,⟨⟩⟩⟩ hp G h1 h2;exact Qw (QP QT0) 1 G _ h1
theorem QWQ:JN (mkE prog jW) f131 8 Hq (λx_=>(hnd (mkE prog jW) 1)):=by
 refine⟨?_⟩;rintro⟨x,⟨y,⟨⟩⟩⟩ hp;refine⟨⟨rfl,by simp[Hq],rfl⟩,⟨?_⟩⟩
 rw[Qdb x y];simp only[Hq]at hp
 iterate 5 (refine QG ?_ ?_;rotate_left)
 .refine KY ⟨rfl,?_⟩ rfl;rw[or4 _ rfl];rfl
 all_goals rfl
theorem QZW:QQ prog 131 Qb3:=
 JW (QP QT0) func131 (by kernel_rfl) (by kernel_rfl) (by decide) Qds QWQ
