/- - -/
import Derived.Test.YtekbmehgcofnkaaGreatVx
open Go.Proofs.Tryz
open Go.IntKind (i64)
set_option maxRecDepth 100000
namespace Go.Proofs.YtekbmehgcofnkaaGreat
open Go.SX Go.SX.Told
structure Jn where
 a:Int
 i:Int
 b:Int
 j:Int
instance : QA Jn where
  ks := [.int .i64,.int .i64,.int .i64,.int .i64]
  enc p j := match j with
    | 0 => p.a
    | 1 => p.i
    | 2 => p.b
    | _ => p.j
  dec f := ⟨f 0,f 1,f 2,f 3⟩
  ok _ := rfl
instance : Enc Jn where
  enc x := .agg [.int false .i64 x.a,.int false .i64 x.i,.int false .i64 x.b,.int false .i64 x.j]
  dec | .agg [.int _ .i64 a0,.int _ .i64 a1,.int _ .i64 a2,.int _ .i64 a3] => some ⟨a0,a1,a2,a3⟩ | _ => none
  ok v x h := by
    split at h <;> (try (cases h; done))
    simp only[qsI]at h; subst h; exact⟨λ_=>rfl,rfl⟩
def Jh(x y:Int):Int:=cond (decide (x<y)) (-1) (cond (decide (y<x)) 1 0)
def orI(x y:Int):Int:=cond (x != 0) x y
def Vx(x y:Jn):Int:=orI (Jh x.a y.a) (orI (Jh x.i y.i) (orI (Jh x.b y.b) (Jh x.j y.j)))
def QAw:WF (Int×Int×Unit):=λ|(x,(y,_))=>(true,.int false .i64 (Jh x y),[])
def QSR:FC:=wFC QAw
theorem QgN(x:Int)(y:Int):Kg (mkE prog QV) (hnd (mkE prog QV) 3) f108 (QZ.vals 0 ((x,y,()):Int×Int×Unit)) (QZ.blks 0 ((x,y,()):Int×Int×Unit)) 8=QC.br (x != x) (QC.br (y != y) (QC.leaf (vj (0:Int)) ([])) (QC.leaf (vj (-1:Int)) ([]))) (QC.br (y != y) (QC.leaf (vj (1:Int)) ([])) (QC.br (decide (x<y)) (QC.leaf (vj (-1:Int)) ([])) (QC.br (decide (x>y)) (QC.leaf (vj (1:Int)) ([])) (QC.leaf (vj (0:Int)) ([]))))):=by kernel_rfl
theorem QXm:JL (mkE prog QV) (Qn f108) 8 QAw (λx_=>(hnd (mkE prog QV) 3)):=by
 refine⟨?_⟩;rintro⟨x,⟨y,⟨⟩⟩⟩ hp G h1 h2;exact Qz (QP Qm) 3 G _ h1
theorem Qfw:JH (mkE prog QV) f108 8 QAw (λx_=>(hnd (mkE prog QV) 3)):=by
 refine⟨?_⟩;rintro⟨x,⟨y,⟨⟩⟩⟩ hp;refine⟨⟨rfl,by simp[QAw],rfl⟩,⟨?_⟩⟩
 rw[QgN x y];simp only[QAw]at hp;refine QE ?_ ?_<;>intro b0
 .simp at b0
 refine QE ?_ ?_<;>intro b2
 .simp at b2
 refine QE ?_ ?_<;>intro b3
 .refine KN ⟨rfl,?_⟩ rfl;rw[Jh,b3];rfl
 refine QE ?_ ?_<;>intro b4
 .refine KN ⟨rfl,?_⟩ rfl;rw[Jh,b3,show decide (y<x)=true from b4];rfl
 .refine KN ⟨rfl,?_⟩ rfl;rw[Jh,b3,show decide (y<x)=false from b4];rfl
theorem Qj1:QS prog 108 QSR:=
 JY (QP Qm) func108 (by kernel_rfl) (by kernel_rfl) (by decide) QXm Qfw
def Vf:Tab:=Qc QV 108 QSR
theorem ve:Qf Vf:=Qm.add Qj1
variable (K:Rw Int)
def nzI(k:Nat):Bool:=K.get k != 0
def orV:Int:=(QR (nzI K) K.n 0).elim 0 K.get
def orJ(k:Nat):JSt:=⟨18,[(3,.int false .i64 0),(6,.slz 0 0 K.n (.of 0)),(7,.int false .i64 K.n),(8,.int false .i64 k)],Qg.blk 0 K,8⟩
def QDK(v:Int):JSt:=⟨18,[(2,.int false .i64 v)],[],8⟩
def QJz:JSt:=⟨18,[(3,.int false .i64 0)],[],8⟩
def QLb:Ex->List Nat
 | .normal=>[3,6,7,8]
 | .exit _=>[3]
 | .ret=>[2]
theorem QjN(k:Nat)(g:Nat->Value):exec (mkE prog Vf) (hnd (mkE prog Vf) 1) (QI f154 0) (JSt.inst (orJ K k) g) (Q5 [] QLb)=QC.br (decide ((↑k:Int)<(↑K.n:Int))) (QC.need (decide ((0:Int)<=(↑k:Int)/\(↑k:Int)<(↑K.n:Int))&&decide (K.n<=K.n)) (QC.need (decide (k<K.n)) (QC.br (K.get k != (0:Int)) (QC.leaf (AV.tup [AV.nili,AV.ptr (18:Nat) (0:Nat) (0:Nat),vi (K.get k)]) ([])) (QC.leaf (AV.tup [AV.nilp,AV.ptr (18:Nat) (0:Nat) (0:Nat),vi (0:Int),AV.slz (0:Nat) (0:Nat) K.n cO,vi (↑K.n:Int),vi (i64.wrap ((↑k:Int)+(1:Int)))]) ([((0:Nat),Blk.frz [CK.int i64] K.n λi=>QA.enc (K.get i))]))))) (QC.leaf (AV.tup [AV.ptr (0:Nat) (0:Nat) (0:Nat),AV.ptr (18:Nat) (0:Nat) (0:Nat),vi (0:Int)]) ([])):=by kernel_rfl
theorem QYZ(k:Nat)(v:Int):QF 8 [vi (K.get k)] ([]) (QDK v)=( some [K.get k=v]):=by kernel_rfl
theorem Qij(k k':Nat):QF 8 [vi (0:Int),AV.slz (0:Nat) (0:Nat) K.n cO,vi (↑K.n:Int),vi (i64.wrap ((↑k:Int)+(1:Int)))] ([((0:Nat),Blk.frz [CK.int i64] K.n λi=>QA.enc (K.get i))]) (orJ K k')=( some [(0:Int)=(0:Int),0=0,K.n=K.n,cO=cO,(↑K.n:Int)=(↑K.n:Int),i64.wrap ((↑k:Int)+(1:Int))=(↑k':Int),K.n<=K.n,QB (1:Nat) K.n (λi=>QA.enc (K.get i)) λi=>QA.enc (K.get i)]):=by kernel_rfl
theorem QaH :QF 8 [vi (0:Int)] ([]) QJz=( some [(0:Int)=(0:Int)]):=by kernel_rfl
def orR(k:Nat)(e:Ex)(J:JSt):Prop:=(e = .ret/\∃ i,QR (nzI K) (K.n-k) k=some i/\J=QDK (K.get i))∨(e = .exit 0/\QR (nzI K) (K.n-k) k=none/\J=QJz)
theorem Qim(hn:K.n<=1000):VH (orJ K) (λk=>k<=K.n) (λk=>K.n-k) (orR K) 8 QLb [] (mkE prog Vf) (λ_=>hnd (mkE prog Vf) 1) (QI f154 0):=by
 refine⟨λk g0 hk=>Qh (QjN K k g0) ?_⟩;have hk:k<=K.n:=hk;refine QE (λb0=>?_) (λb0=>?_);have h:k<K.n:=by have:=qdt b0;omega
 have hf:=VC (p:=nzI K) h
 iterate 2 (refine QG ?_ ?_;rotate_left)
 refine QE ?_ ?_<;>intro b1
 .exact⟨_,.inl ⟨rfl,k,hf.1 b1,rfl⟩,rfl,rfl,_,QYZ K k (K.get k),⟨rfl,trivial⟩⟩
 refine⟨k+1,h,by show K.n-(k+1)<K.n-k;omega,λe J h=>by unfold orR at h ⊢;rw[hf.2 b1];exact h,rfl,rfl,_,Qij K k (k+1),?_⟩
 rotate_left
 .have h:K.n<=k:=by have:=qdf b0;omega
  exact⟨_,.inr ⟨rfl,by rw[show K.n-k=0 by omega];rfl,rfl⟩,rfl,rfl,_,QaH,⟨rfl,trivial⟩⟩
 all_goals first|((with_reducible show _=true);(simp at b0 ⊢;omega))|(repeat' first|with_reducible refine QM ?_ ?_|exact tv|exact qRr|exact Vo h hn|refine aI ?_ ?_)
def orX:List (Prop×Ex×JSt):=[((QR (nzI K) K.n 0).isSome=true,.ret,QDK (orV K)),(QR (nzI K) K.n 0=none,.exit 0,QJz)]
abbrev orH(P:Program)(K:Rw Int):Hnd:={ hnd (mkE P Vf) 1 with loop:=λ_=>Ks (K.n<=1000) (KF 8 [] (orJ K (0:Nat)) (orX K)) }
theorem QYK(G:Ctx)(hrd:G.rd=none)(hG:G.n=8):Q0 (mkE prog Vf) G (orH prog K) (Qn f154):=by
 refine KO (body:=QI f154 0) (QP ve) hrd (by kernel_rfl) ?_
 refine JJ λhl=>?_;refine XP (n0:=8) (QP ve) (by omega) (λs hs=>Qz (QP ve) 1 G _ hrd) (λs hs=>(by decide:8<=8)) ?_ (Qim K hl) (s0:=0) (Nat.zero_le _) ?_
 .rintro s e J (⟨_,_,_,rfl⟩|⟨_,_,rfl⟩)<;>exact(by decide:8<=8)
 .rintro e J (⟨rfl,i,h,rfl⟩|⟨rfl,h,rfl⟩)
  .exact⟨_,qmc,congrArg Option.isSome h,rfl,congrArg QDK (show(QR (nzI K) K.n 0).elim 0 K.get=_ by rw[show QR (nzI K) K.n 0=some i from h];rfl)⟩
  .exact⟨_,List.mem_cons_of_mem _ qmc,h,rfl,rfl⟩
def QCn:WF ((Rw Int)×Unit):=λ|(K,_)=>(decide (K.n<=1000),.int false .i64 (orV K),[])
def QM3:FC:=wFC QCn
theorem Qeu(K:(Rw Int)):Kg (mkE prog Vf) (orH prog K) f154 (QZ.vals 0 ((K,()):(Rw Int)×Unit)) (QZ.blks 0 ((K,()):(Rw Int)×Unit)) 8=QC.ask (K.n<=(1000:Nat)) (QC.ask ((0:Int)=(0:Int)) (QC.ask (0=0) (QC.ask (K.n=K.n) (QC.ask (cO=cO) (QC.ask ((↑K.n:Int)=(↑K.n:Int)) (QC.ask ((0:Int)=(0:Int)) (QC.ask (K.n<=K.n) (QC.ask (QB (1:Nat) K.n (λi=>QA.enc (K.get i)) λi=>QA.enc (K.get i)) (QC.both (QC.asm ((QR (nzI K) K.n (0:Nat)).isSome=true) (QC.all (λ(g0:Nat->Value)=>QC.leaf (vi (orV K)) ([])))) (QC.asm (QR (nzI K) K.n (0:Nat)=none) (QC.all (λ(g1:Nat->Value)=>QC.leaf (vi (0:Int)) ([]))))))))))))):=by kernel_rfl
theorem Qfk:JL (mkE prog Vf) (Qn f154) 8 QCn (λx_=>(orH prog x_.1)):=by
 refine⟨?_⟩;rintro⟨K,⟨⟩⟩ hp G h1 h2;exact QYK K G h1 h2
theorem QgQ:JH (mkE prog Vf) f154 8 QCn (λx_=>(orH prog x_.1)):=by
 refine⟨?_⟩;rintro⟨K,⟨⟩⟩ hp;refine⟨⟨rfl,by simp[QCn],rfl⟩,⟨?_⟩⟩
 rw[Qeu K];simp only[QCn]at hp;have hp:=qdt hp
 iterate 9 refine Qt (by first|exact tv|exact hp|exact qRr) ?_
 refine Kq ?_ ?_;refine Qk λa0=>?_;refine Ql λg0=>?_
 .exact KN ⟨rfl,rfl⟩ rfl
 refine Qk λa1=>?_;refine Ql λg1=>?_
 .refine KN ⟨rfl,?_⟩ rfl;rw[orV,a1];rfl
theorem QiD:QS prog 154 QM3:=
 JY (QP ve) func154 (by kernel_rfl) (by kernel_rfl) (by decide) Qfk QgQ
def zX:Tab:=Qc Vf 154 QM3
theorem QPz:Qf zX:=ve.add QiD
theorem or4(hn:K.n=4):orV K=orI (K.get 0) (orI (K.get 1) (orI (K.get 2) (K.get 3))):=by
 have e:∀ i,nzI K i=(K.get i != 0):=λ_=>rfl;unfold orV orI;rw[hn];simp only[QR,e];cases h0:K.get 0 != 0 with
 | true=>rfl
 | false=>
  cases h1:K.get 1 != 0 with
  | true=>simp[h1]
  | false=>
   cases h2:K.get 2 != 0 with
   | true=>simp[h1,h2]
   | false=>
    cases h3:K.get 3 != 0 with
    | true=>simp[h1,h2,h3]
    | false=>
     have:K.get 3=0:=by simpa using h3
     simp[h1,h2,h3,this]
def QB0:WF (Jn×Jn×Unit):=λ|(x,(y,_))=>(true,.int false .i64 (Vx x y),[])
def Qht:FC:=wFC QB0
theorem QdW(x:Jn)(y:Jn):Kg (mkE prog zX) (hnd (mkE prog zX) 1) f131 (QZ.vals 0 ((x,y,()):Jn×Jn×Unit)) (QZ.blks 0 ((x,y,()):Jn×Jn×Unit)) 8=QC.need (true) (QC.need (true) (QC.need (true) (QC.need (true) (QC.need (true&&true&&decide ((4:Nat)<=(1000:Nat))) (QC.leaf (vi (orV (Rw.mk (4:Nat) λi=>KD [[vi (Jh x.a y.a)],[vi (Jh x.i y.i)],[vi (Jh x.b y.b)],[vi (Jh x.j y.j)]] (0:Nat) i (0:Nat)))) ([])))))):=by kernel_rfl
theorem Qke:JL (mkE prog zX) (Qn f131) 8 QB0 (λx_=>(hnd (mkE prog zX) 1)):=by
 refine⟨?_⟩;rintro⟨x,⟨y,⟨⟩⟩⟩ hp G h1 h2;exact Qz (QP QPz) 1 G _ h1
theorem Qd4:JH (mkE prog zX) f131 8 QB0 (λx_=>(hnd (mkE prog zX) 1)):=by
 refine⟨?_⟩;rintro⟨x,⟨y,⟨⟩⟩⟩ hp;refine⟨⟨rfl,by simp[QB0],rfl⟩,⟨?_⟩⟩
 rw[QdW x y];simp only[QB0]at hp
 iterate 5 (refine QG ?_ ?_;rotate_left)
 .refine KN ⟨rfl,?_⟩ rfl;rw[or4 _ rfl];rfl
 all_goals rfl
theorem Qh1:QS prog 131 Qht:=
 JY (QP QPz) func131 (by kernel_rfl) (by kernel_rfl) (by decide) Qke Qd4
