/- - -/
import Derived.Test.YtbpffdkemeoajaaMfze
import Derived.Test.YtbpffdkemeoajaaMft
import Derived.Test.YtbpffdkemeoajaaMfp
open Go.IntKind (i64)
set_option maxRecDepth 100000
namespace Go.Proofs.Ytbpffdkemeoajaa
open Go.SX
def QLe(b:Nat)(f:Nat→Int)(k:Nat):Nat×Blk:=(b,.rowz true 3 [.int .i64] k fun i _=>f i)
variable (f:Nat→Int)(x:QE)(k k' n:Nat)
def Vp(k:Nat):JSt:=⟨42,[(2,.slz 440 0 k (.of 0)),(6,.ptr 368 0 0),(27,.int false .i64 n),(28,.int false .i64 k)],[(368,.cells 1 95 (jA f)),QLe 440 f k],448⟩
def QGr:JSt:=⟨42,[(2,.slz 440 0 n (.of 0)),(6,.ptr 368 0 0)],[(368,.cells 1 95 (jA f)),QLe 440 f n],448⟩
def QO9:Ex→List Nat
 | .normal=>[2,6,27,28]
 | .exit _=>[2,6]
 | .ret=>[]
def QB0(f:List Int)(a e:Int):AV := .tup [.slz 0 0 f.length (.of 0),.int false .i64 a,.int false .i64 e]
noncomputable abbrev Xs:List AV:=
  [.nilp,.ptr 42 0 0,.slz 520 0 (k+1) cO,.ptr 368 0 0,vi (n:Int),vi (i64.wrap ((k:Int)+1))]
noncomputable abbrev JY:Nat×Blk:=
  (368,.cells 1 95 [vi (f 0),vi (f 1),vi (f 2),vi (f 3),vi (f 4),vi (f 5),vi (f 6),
  .int false .i64 (f 7),vi (f 8),vi (f 9),vi (f 10),vi (f 11),vi (f 12)])
noncomputable abbrev QPD:List (Nat×Blk):=
  [(520,.rowz true 3 [.int .i64] (k+1) (Qi k (fun i x=>f i) (QU [[vi (f 10)]] 0))),(JY f)]
noncomputable abbrev QOZ:List (Nat×Blk):=
  [(520,.rowz true 3 [.int .i64] (k+1) (Qi k (fun i x=>f i) (QU [[vi (f 11)]] 0))),(JY f)]
theorem QWQ(n k:Nat)(g:Nat→Value):exec (mkF Try.prog Qu) (hnd (mkF Try.prog Qu) 3) (QX Try.f20 0) (JSt.inst (Vp f n k) g) (KT [] QO9) = .br (decide ((k:Int)<(n:Int))) (.need (decide ((0 :
  Int)≤(k:Int)∧(k:Int)<12)) (.br (decide ((k:Int)=0)) (.need (decide (k≤k)&&(true&&decide ((k+1+(k+1) / 4+192)*8≤281474976710656∧k+1 ≤
  9223372036854775807))) (.leaf (.tup (Xs k n)) ([(520,.rowz true 3 [.int .i64] (k+1) (Qi k (fun i x=>f i) (QU [[vi (f 0)]] 0))),(JY f)]))) (.br (decide
  ((k:Int)=1)) (.need (decide (k≤k)&&(true&&decide ((k+1+(k+1) / 4+192)*8≤281474976710656∧k+1≤9223372036854775807))) (.leaf (.tup (Xs k n)) ([(520,.rowz
  true 3 [.int .i64] (k+1) (Qi k (fun i x=>f i) (QU [[vi (f 1)]] 0))),(JY f)]))) (.br (decide ((k:Int)=2)) (.need (decide (k≤k)&&(true&&decide ((k +
  1+(k+1) / 4+192)*8≤281474976710656∧k+1≤9223372036854775807))) (.leaf (.tup (Xs k n)) ([(520,.rowz true 3 [.int .i64] (k+1) (Qi k (fun i x=>f i) (QU
  [[vi (f 2)]] 0))),(JY f)]))) (.br (decide ((k:Int)=3)) (.need (decide (k≤k)&&(true&&decide ((k+1+(k+1) / 4+192)*8≤281474976710656∧k+1 ≤
  9223372036854775807))) (.leaf (.tup (Xs k n)) ([(520,.rowz true 3 [.int .i64] (k+1) (Qi k (fun i x=>f i) (QU [[vi (f 3)]] 0))),(JY f)]))) (.br (decide
  ((k:Int)=4)) (.need (decide (k≤k)&&(true&&decide ((k+1+(k+1) / 4+192)*8≤281474976710656∧k+1≤9223372036854775807))) (.leaf (.tup (Xs k n)) ([(520,.rowz
  true 3 [.int .i64] (k+1) (Qi k (fun i x=>f i) (QU [[vi (f 4)]] 0))),(JY f)]))) (.br (decide ((k:Int)=5)) (.need (decide (k≤k)&&(true&&decide ((k +
  1+(k+1) / 4+192)*8≤281474976710656∧k+1≤9223372036854775807))) (.leaf (.tup (Xs k n)) ([(520,.rowz true 3 [.int .i64] (k+1) (Qi k (fun i x=>f i) (QU
  [[vi (f 5)]] 0))),(JY f)]))) (.br (decide ((k:Int)=6)) (.need (decide (k≤k)&&(true&&decide ((k+1+(k+1) / 4+192)*8≤281474976710656∧k+1 ≤
  9223372036854775807))) (.leaf (.tup (Xs k n)) ([(520,.rowz true 3 [.int .i64] (k+1) (Qi k (fun i x=>f i) (QU [[vi (f 6)]] 0))),(JY f)]))) (.br (decide
  ((k:Int)=7)) (.need (decide (k≤k)&&(true&&decide ((k+1+(k+1) / 4+192)*8≤281474976710656∧k+1≤9223372036854775807))) (.leaf (.tup (Xs k n)) ([(520,.rowz
  true 3 [.int .i64] (k+1) (Qi k (fun i x=>f i) (QU [[vi (f 7)]] 0))),(JY f)]))) (.br (decide ((k:Int)=8)) (.need (decide (k≤k)&&(true&&decide ((k +
  1+(k+1) / 4+192)*8≤281474976710656∧k+1≤9223372036854775807))) (.leaf (.tup (Xs k n)) ([(520,.rowz true 3 [.int .i64] (k+1) (Qi k (fun i x=>f i) (QU
  [[vi (f 8)]] 0))),(JY f)]))) (.br (decide ((k:Int)=9)) (.need (decide (k≤k)&&(true&&decide ((k+1+(k+1) / 4+192)*8≤281474976710656∧k+1 ≤
  9223372036854775807))) (.leaf (.tup (Xs k n)) ([(520,.rowz true 3 [.int .i64] (k+1) (Qi k (fun i x=>f i) (QU [[vi (f 9)]] 0))),(JY f)]))) (.br (decide
  ((k:Int)=10)) (.need (decide (k≤k)&&(true&&decide ((k+1+(k+1) / 4+192)*8≤281474976710656∧k+1≤9223372036854775807))) (.leaf (.tup (Xs k n)) ((QPD f
  k)))) (.need (decide (k≤k)&&(true&&decide ((k+1+(k+1) / 4+192)*8≤281474976710656∧k+1≤9223372036854775807))) (.leaf (.tup (Xs k n)) ((QOZ f
  k)))))))))))))))) (.leaf (.tup [.ptr 0 0 0,.ptr 42 0 0,.slz 440 0 k cO,.ptr 368 0 0]) ([(440,.rowz true 3 [.int .i64] k fun i x=>f i),(JY f)])):=by kernel_rfl
theorem QW3(pb:List Prop→Bool)(x:QE)(e:Int):KO (mkE Try.prog (K3 pb (opE x e))) (hnd (mkE Try.prog (K3 pb (opE x e))) 1) Try.f20 (QV.vals 0 ((x,()):QE×Unit)) (QV.blks 0 ((x,()):QE×Unit)) 8 =
  QD.need (pb ([x.d.play.length = x.d.play.length, x.d.play.slack = x.d.play.slack, x.d.play.loose = x.d.play.loose, x.d.play.damp.lo = x.d.play.damp.lo, x.d.play.damp.hi = x.d.play.damp.hi, x.d.wide = x.d.wide, x.d.high = x.d.high, x.d.turn = x.d.turn, (0 : Nat) = (0 : Nat), x.d.ps.n = x.d.ps.n, Cap.of (0 : Nat) = Cap.of (0 : Nat), (0 : Nat) = (0 : Nat), x.scans.n = x.scans.n, Cap.of (0 : Nat) = Cap.of (0 : Nat), (0 : Nat) = (0 : Nat), x.hang.n = x.hang.n, Cap.of (0 : Nat) = Cap.of (0 : Nat), x.lost = x.lost, x.foreign = x.foreign, x.d.ps.n ≤ x.d.ps.n, QC (28 : Nat) x.d.ps.n (fun i => QA.enc (x.d.ps.get i)) fun i => QA.enc (x.d.ps.get i), x.scans.n ≤ x.scans.n, QC (28 : Nat) x.scans.n (fun i => QA.enc (x.scans.get i)) fun i => QA.enc (x.scans.get i), x.hang.n ≤ x.hang.n, QC (4 : Nat) x.hang.n (fun i => QA.enc (x.hang.get i)) fun i => QA.enc (x.hang.get i)])) (QD.br (e != (0 : Int)) (QD.leaf (AV.tup [AV.nils, AV.int true i64 (0 : Int), AV.int false i64 e]) ([])) (QD.fail ("a call without a contract"))) := by kernel_rfl
def HG(pb:List Prop→Bool)(x:QE)(C:List (List QB))(U:UC):Tab:=Qg (K3 pb (opO x C)) 77 (VH pb U)
abbrev QDN(P:Program)(T:Tab)(f:Nat→Int)(n:Nat):Hnd:={ hnd (mkE P T) 8 with loop:=fun _=>KD 8 [] (Vp f n (0:Nat)) [(True,.exit 0,QGr f n)] }
theorem QW2(pb:List Prop→Bool)(x:QE)(C:List (List QB))(has':Int→Bool)(many':Int)(f':Nat→Int):KO (mkE Try.prog (HG pb x C (plU x C (QR Try.f50 0).1 (QR Try.f50 0).2 [] noH 0 (fun _=>0) has' many' f'))) (QDN Try.prog (HG pb x C (plU x C (QR Try.f50
  0).1 (QR Try.f50 0).2 [] noH 0 (fun _=>0) has' many' f')) f' x.scans.n) Try.f20 (QV.vals 0 ((x,()):QE×Unit)) (QV.blks 0 ((x,()):QE×Unit)) 8 = .need (pb
  ([x.d.play.length=x.d.play.length,x.d.play.slack=x.d.play.slack,x.d.play.loose=x.d.play.loose,x.d.play.damp.lo=x.d.play.damp.lo,x.d.play.damp.hi=x.d.play.damp.hi,
  x.d.wide=x.d.wide,x.d.high=x.d.high,x.d.turn=x.d.turn,0=0,x.d.ps.n=x.d.ps.n,cO=cO,0=0,x.scans.n=x.scans.n,cO=cO,0=0,x.hang.n =
  x.hang.n,cO=cO,x.lost=x.lost,x.foreign=x.foreign,x.d.ps.n≤x.d.ps.n,QC 28 x.d.ps.n (fun i=>QA.enc (x.d.ps.get i)) fun i=>QA.enc (x.d.ps.get i),
  x.scans.n≤x.scans.n,QC 28 x.scans.n (fun i=>QA.enc (x.scans.get i)) fun i=>QA.enc (x.scans.get i),x.hang.n≤x.hang.n,QC 4 x.hang.n (fun i=>QA.enc
  (x.hang.get i)) fun i=>QA.enc (x.hang.get i)])) (.need (pb ([0=0,0=0,0=0,0=0,0=0,0=0,0=0,0=0,0=0,0=0,0=0,0=0,([]:List MapEntry)=[],
  zV (.int true .i64 0) noH fun i => .int false .i64 (QH [] i),LoopState.ready=LoopState.ready,(none:Option Code)=none,Array.mk [12]=Array.mk [12],(QR Try.f50
  0).1=(QR Try.f50 0).1,(QR Try.f50 0).2=(QR Try.f50 0).2,0=0,0=0,(0:Int)=0,(0:Int)=0,(0:Int)=0,(0:Int)=0,(0:Int)=0,(0:Int)=0,(0
  : Int)=0,(0:Int)=0,(0:Int)=0,(0:Int)=0,(0:Int)=0,(0:Int)=0,(0:Int)=0,Fn.func 51=Fn.func 51,0=0,0=0,0=0,0=0,0=0,0=0,false =
  false,0=0,0=0,0=0,0=0,Fn.func 76=Fn.func 76,0=0,0=0,(0:Int)=0,(0:Int)=0,(0:Int)=0,(0:Int)=0,(0:Int)=0,(0:Int)=0,(0:Int)=0,(0
  : Int)=0,(0:Int)=0,(0:Int)=0,(0:Int)=0,(0:Int)=0,(0:Int)=0,(0:Int)=0,Fn.func 77=Fn.func 77,0=0,0=0,0=0,0=0,0=0,0=0,0=0,0 =
  0,0=0,0=0,0=0,0=0,Fn.func 51=Fn.func 51,x.d.play.length=x.d.play.length,x.d.play.slack=x.d.play.slack,x.d.play.loose=x.d.play.loose,x.d.play.damp.lo =
  x.d.play.damp.lo,x.d.play.damp.hi=x.d.play.damp.hi,x.d.wide=x.d.wide,x.d.high=x.d.high,x.d.turn=x.d.turn,0=0,x.d.ps.n=x.d.ps.n,cO=cO,0=0,
  x.scans.n=x.scans.n,cO=cO,0=0,x.hang.n=x.hang.n,cO=cO,x.lost=x.lost,x.foreign=x.foreign,0=0,C.length=C.length,cO=cO,
  C.length=C.length,Kj 2 C.length (fun i=>(QK C i).length) (fun i=>(QK C i).length) (fun i j=>QA.enc ((QK C i).getD j ⟨0,0⟩)) fun i j=>QA.enc ((QK C
  i).getD j ⟨0,0⟩),x.d.ps.n≤x.d.ps.n,QC 28 x.d.ps.n (fun i=>QA.enc (x.d.ps.get i)) fun i=>QA.enc (x.d.ps.get i),x.scans.n≤x.scans.n,QC 28 x.scans.n (fun i=>
  QA.enc (x.scans.get i)) fun i=>QA.enc (x.scans.get i),x.hang.n≤x.hang.n,QC 4 x.hang.n (fun i=>QA.enc (x.hang.get i)) fun i=>QA.enc (x.hang.get i)])) (.br
  (!decide (many'>0)) (.leaf (.tup [.nils,vj 0,vj 6]) ([])) (.ask (0=0) (.ask (0=0) (.ask (0=0) (.ask ((x.scans.n:Int)=(x.scans.n:Int)) (.ask
  ((0:Int)=0) (.ask (f' 0=f' 0) (.ask (f' 1=f' 1) (.ask (f' 2=f' 2) (.ask (f' 3=f' 3) (.ask (f' 4=f' 4) (.ask (f' 5=f' 5) (.ask (f' 6=f' 6) (.ask (f' 7=f' 7) (.ask
  (f' 8=f' 8) (.ask (f' 9=f' 9) (.ask (f' 10=f' 10) (.ask (f' 11=f' 11) (.ask (f' 12=f' 12) (.ask (0=0) (.asm (True) (.all (fun(g0:Nat→Value) => .leaf (.tup [.slz 440
  0 x.scans.n cO,vi (f' 12),vj 0]) ([(440,.rowz true 3 [.int .i64] x.scans.n fun i x=>f' i)]))))))))))))))))))))))))):=by kernel_rfl
noncomputable abbrev Xx:List AV:=
  [.slz 520 0 (k+1) cO,.ptr 368 0 0,vi (n:Int),vi (i64.wrap ((k:Int)+1))]
abbrev Xt:List Prop:=
  [0=0,k+1=k',cO=cO,0=0,0=0,(n:Int)=(n:Int),i64.wrap ((k:Int)+1)=(k':Int),f 0=f 0,f 1=f 1,f 2=f 2,f 3=f 3,f 4=f 4,f
  5=f 5,f 6=f 6,f 7=f 7,f 8=f 8,f 9=f 9,f 10=f 10,f 11=f 11,f 12=f 12]
theorem QYd(n k k':Nat):QL 8 (Xx k n) ([(520,.rowz true 3 [.int .i64] (k+1) (Qi k (fun i x=>f i) (QU [[vi (f 0)]] 0))),(JY f)]) (Vp f n k')=(some ((Xt f k k' n)++[k'
  ≤ k+1,QC 1 k' (Qi k (fun i x=>f i) (QU [[vi (f 0)]] 0)) fun i x=>f i])):=by kernel_rfl
theorem QW9(n k k':Nat):QL 8 (Xx k n) ([(520,.rowz true 3 [.int .i64] (k+1) (Qi k (fun i x=>f i) (QU [[vi (f 1)]] 0))),(JY f)]) (Vp f n k')=(some ((Xt f k k' n)++[k'
  ≤ k+1,QC 1 k' (Qi k (fun i x=>f i) (QU [[vi (f 1)]] 0)) fun i x=>f i])):=by kernel_rfl
theorem QWb(n k k':Nat):QL 8 (Xx k n) ([(520,.rowz true 3 [.int .i64] (k+1) (Qi k (fun i x=>f i) (QU [[vi (f 2)]] 0))),(JY f)]) (Vp f n k')=(some ((Xt f k k' n)++[k'
  ≤ k+1,QC 1 k' (Qi k (fun i x=>f i) (QU [[vi (f 2)]] 0)) fun i x=>f i])):=by kernel_rfl
theorem QYc(n k k':Nat):QL 8 (Xx k n) ([(520,.rowz true 3 [.int .i64] (k+1) (Qi k (fun i x=>f i) (QU [[vi (f 3)]] 0))),(JY f)]) (Vp f n k')=(some ((Xt f k k' n)++[k'
  ≤ k+1,QC 1 k' (Qi k (fun i x=>f i) (QU [[vi (f 3)]] 0)) fun i x=>f i])):=by kernel_rfl
theorem QZP(n k k':Nat):QL 8 (Xx k n) ([(520,.rowz true 3 [.int .i64] (k+1) (Qi k (fun i x=>f i) (QU [[vi (f 4)]] 0))),(JY f)]) (Vp f n k')=(some ((Xt f k k' n)++[k'
  ≤ k+1,QC 1 k' (Qi k (fun i x=>f i) (QU [[vi (f 4)]] 0)) fun i x=>f i])):=by kernel_rfl
theorem QWN(n k k':Nat):QL 8 (Xx k n) ([(520,.rowz true 3 [.int .i64] (k+1) (Qi k (fun i x=>f i) (QU [[vi (f 5)]] 0))),(JY f)]) (Vp f n k')=(some ((Xt f k k' n)++[k'
  ≤ k+1,QC 1 k' (Qi k (fun i x=>f i) (QU [[vi (f 5)]] 0)) fun i x=>f i])):=by kernel_rfl
theorem QQD(n k k':Nat):QL 8 (Xx k n) ([(520,.rowz true 3 [.int .i64] (k+1) (Qi k (fun i x=>f i) (QU [[vi (f 6)]] 0))),(JY f)]) (Vp f n k')=(some ((Xt f k k' n)++[k'
  ≤ k+1,QC 1 k' (Qi k (fun i x=>f i) (QU [[vi (f 6)]] 0)) fun i x=>f i])):=by kernel_rfl
theorem QYw(n k k':Nat):QL 8 (Xx k n) ([(520,.rowz true 3 [.int .i64] (k+1) (Qi k (fun i x=>f i) (QU [[vi (f 7)]] 0))),(JY f)]) (Vp f n k')=(some ((Xt f k k' n)++[k'
  ≤ k+1,QC 1 k' (Qi k (fun i x=>f i) (QU [[vi (f 7)]] 0)) fun i x=>f i])):=by kernel_rfl
theorem QZ0(n k k':Nat):QL 8 (Xx k n) ([(520,.rowz true 3 [.int .i64] (k+1) (Qi k (fun i x=>f i) (QU [[vi (f 8)]] 0))),(JY f)]) (Vp f n k')=(some ((Xt f k k' n)++[k'
  ≤ k+1,QC 1 k' (Qi k (fun i x=>f i) (QU [[vi (f 8)]] 0)) fun i x=>f i])):=by kernel_rfl
theorem QZe(n k k':Nat):QL 8 (Xx k n) ([(520,.rowz true 3 [.int .i64] (k+1) (Qi k (fun i x=>f i) (QU [[vi (f 9)]] 0))),(JY f)]) (Vp f n k')=(some ((Xt f k k' n)++[k'
  ≤ k+1,QC 1 k' (Qi k (fun i x=>f i) (QU [[vi (f 9)]] 0)) fun i x=>f i])):=by kernel_rfl
theorem QUq(n k k':Nat):QL 8 (Xx k n) ((QPD f k)) (Vp f n k')=(some ((Xt f k k' n)++[k'≤k+1,QC 1 k' (Qi k (fun i x=>f i) (QU [[vi (f 10)]] 0)) fun i x=>f i])):=by kernel_rfl
theorem QXX(n k k':Nat):QL 8 (Xx k n) ((QOZ f k)) (Vp f n k')=(some ((Xt f k k' n)++[k'≤k+1,QC 1 k' (Qi k (fun i x=>f i) (QU [[vi (f 11)]] 0)) fun i x=>f i])):=by kernel_rfl
theorem QWW(n k:Nat):QL 8 [AV.slz (440:Nat) (0:Nat) k (Cap.of (0:Nat)),AV.ptr (368:Nat) (0:Nat) (0:Nat)] ([((440:Nat),Blk.rowz true (3:Nat) [CK.int i64] k fun i x=>f i),((368:Nat),Blk.cells (1:Nat) (95:Nat) [AV.int false i64 (f (0:Nat)),AV.int false i64 (f (1:Nat)),AV.int false i64 (f (2:Nat)),AV.int false i64 (f (3:Nat)),AV.int false i64 (f (4:Nat)),AV.int false i64 (f (5:Nat)),AV.int false i64 (f (6:Nat)),AV.int false i64 (f (7:Nat)),AV.int false i64 (f (8:Nat)),AV.int false i64 (f (9:Nat)),AV.int false i64 (f (10:Nat)),AV.int false i64 (f (11:Nat)),AV.int false i64 (f (12:Nat))])]) (QGr f n)=(
  some [(0:Nat)=(0:Nat),k=n,Cap.of (0:Nat)=Cap.of (0:Nat),(0:Nat)=(0:Nat),(0:Nat)=(0:Nat),f (0:Nat)=f (0:Nat),f (1:Nat)=f (1:Nat),f (2 :
  Nat)=f (2:Nat),f (3:Nat)=f (3:Nat),f (4:Nat)=f (4:Nat),f (5:Nat)=f (5:Nat),f (6:Nat)=f (6:Nat),f (7:Nat)=f (7:Nat),f (8:Nat)=f (8:Nat),
  f (9:Nat)=f (9:Nat),f (10:Nat)=f (10:Nat),f (11:Nat)=f (11:Nat),f (12:Nat)=f (12:Nat),n≤k,QC (1:Nat) n (fun i x=>f i) fun i x=>f i]):=by kernel_rfl
theorem QVi(e:Int)(f:List Int)(a e':Int):QL 8 [(AV.tup [AV.nils,AV.int true i64 (0:Int),AV.int false i64 e])] ([]) (Kg 8 (QB0 f a e') [KW 3 0 f 0])=(
  some [f.length=(0:Nat),(0:Int)=a,e=e',f.length=(0:Nat)]):=by kernel_rfl
theorem QXs(f:List Int)(a e':Int):QL 8 [(AV.tup [AV.nils,AV.int true i64 (0:Int),AV.int true i64 (6:Int)])] ([]) (Kg 8 (QB0 f a e') [KW 3 0 f 0])=(
  some [f.length=(0:Nat),(0:Int)=a,(6:Int)=e',f.length=(0:Nat)]):=by kernel_rfl
theorem QYP(x:QE)(f':Nat→Int)(f:List Int)(a e':Int):QL 8 [(AV.tup [AV.slz (440:Nat) (0:Nat) x.scans.n (Cap.of (0:Nat)),AV.int false i64 (f' (12:Nat)),AV.int true i64 (0:Int)])] ([((440:Nat),Blk.rowz true (3:Nat) [CK.int i64] x.scans.n fun i x=>f' i)]) (Kg 8 (QB0 f a e') [KW 3 0 f 0])=(
  some [(0:Nat)=(0:Nat),x.scans.n=f.length,Cap.of (0:Nat)=Cap.of (0:Nat),f' (12:Nat)=a,(0:Int)=e',f.length≤x.scans.n,QC (1:Nat) f.length (fun i x
  => f' i) fun i=>QA.enc (f.getD i (0:Int))]):=by kernel_rfl
theorem Xv:QC 1 (k+1) (Qi k (fun i _=>f i) (QU [[.int false .i64 (f k)]] 0)) (fun i _=>f i):=by
 intro i hi;show eqF 1 0 (Qi k (fun i _=>f i) (QU [[.int false .i64 (f k)]] 0) i) (fun _=>f i)
 by_cases h:i<k
 ·have e2:Qi k (fun i _=>f i) (QU [[.int false .i64 (f k)]] 0) i=fun _=>f i:=by funext j;rw[X8,if_pos h]
  rw[e2];exact ZP _ _ _
 ·have q:i=k:=by omega
  subst q;have e2:Qi i (fun i _=>f i) (QU [[.int false .i64 (f i)]] 0) i=QU [[.int false .i64 (f i)]] 0 0:=by funext j;rw[X8,if_neg h,Nat.sub_self]
  rw[e2];exact⟨rfl,trivial⟩
theorem QRk(hn:n≤12):JJ (fun k=>Vp f n k) (fun k=>k≤n) (fun k=>n-k) (fun _ e J=>e = .exit 0∧J=QGr f n) 8 QO9 [] (mkF Try.prog Qu) (fun _=>hnd (mkF Try.prog Qu) 3) (QX Try.f20 0):=by
 refine⟨fun k g hk=>Q2 (QWQ f n k g) ?_⟩;refine QG (fun h => ?_) (fun h => ?_)
 ·have h:k<n:=by have:=qdt h;omega
  have hw:=Kn h (by omega:n≤1000)
  refine QF (by simp;omega) ?_
  refine QG (fun q => ?_) (fun q => ?_)
  ·refine QF (by simp;omega) ⟨k+1,h,by show n-(k+1)<n-k;omega,fun _ _ h=>h,rfl,rfl,_,QYd f n k (k+1),?_⟩
   obtain rfl:k=0:=by have:=qdt q;omega
   repeat' first|with_reducible refine QQ ?_ ?_|exact trivial|with_reducible rfl|exact qlr _|exact qRr|exact QY _ _ _ _|exact hw|exact Xv f 0|refine And.intro ?_ ?_
  have q0:¬ (k:Int)=0:=of_decide_eq_false q;clear q;refine QG (fun q => ?_) (fun q => ?_)
  ·refine QF (by simp;omega) ⟨k+1,h,by show n-(k+1)<n-k;omega,fun _ _ h=>h,rfl,rfl,_,QW9 f n k (k+1),?_⟩
   obtain rfl:k=1:=by have:=qdt q;omega
   repeat' first|with_reducible refine QQ ?_ ?_|exact trivial|with_reducible rfl|exact qlr _|exact qRr|exact QY _ _ _ _|exact hw|exact Xv f 1|refine And.intro ?_ ?_
  have q1:¬ (k:Int)=1:=of_decide_eq_false q;clear q;refine QG (fun q => ?_) (fun q => ?_)
  ·refine QF (by simp;omega) ⟨k+1,h,by show n-(k+1)<n-k;omega,fun _ _ h=>h,rfl,rfl,_,QWb f n k (k+1),?_⟩
   obtain rfl:k=2:=by have:=qdt q;omega
   repeat' first|with_reducible refine QQ ?_ ?_|exact trivial|with_reducible rfl|exact qlr _|exact qRr|exact QY _ _ _ _|exact hw|exact Xv f 2|refine And.intro ?_ ?_
  have q2:¬ (k:Int)=2:=of_decide_eq_false q;clear q;refine QG (fun q => ?_) (fun q => ?_)
  ·refine QF (by simp;omega) ⟨k+1,h,by show n-(k+1)<n-k;omega,fun _ _ h=>h,rfl,rfl,_,QYc f n k (k+1),?_⟩
   obtain rfl:k=3:=by have:=qdt q;omega
   repeat' first|with_reducible refine QQ ?_ ?_|exact trivial|with_reducible rfl|exact qlr _|exact qRr|exact QY _ _ _ _|exact hw|exact Xv f 3|refine And.intro ?_ ?_
  have q3:¬ (k:Int)=3:=of_decide_eq_false q;clear q;refine QG (fun q => ?_) (fun q => ?_)
  ·refine QF (by simp;omega) ⟨k+1,h,by show n-(k+1)<n-k;omega,fun _ _ h=>h,rfl,rfl,_,QZP f n k (k+1),?_⟩
   obtain rfl:k=4:=by have:=qdt q;omega
   repeat' first|with_reducible refine QQ ?_ ?_|exact trivial|with_reducible rfl|exact qlr _|exact qRr|exact QY _ _ _ _|exact hw|exact Xv f 4|refine And.intro ?_ ?_
  have q4:¬ (k:Int)=4:=of_decide_eq_false q;clear q;refine QG (fun q => ?_) (fun q => ?_)
  ·refine QF (by simp;omega) ⟨k+1,h,by show n-(k+1)<n-k;omega,fun _ _ h=>h,rfl,rfl,_,QWN f n k (k+1),?_⟩
   obtain rfl:k=5:=by have:=qdt q;omega
   repeat' first|with_reducible refine QQ ?_ ?_|exact trivial|with_reducible rfl|exact qlr _|exact qRr|exact QY _ _ _ _|exact hw|exact Xv f 5|refine And.intro ?_ ?_
  have q5:¬ (k:Int)=5:=of_decide_eq_false q;clear q;refine QG (fun q => ?_) (fun q => ?_)
  ·refine QF (by simp;omega) ⟨k+1,h,by show n-(k+1)<n-k;omega,fun _ _ h=>h,rfl,rfl,_,QQD f n k (k+1),?_⟩
   obtain rfl:k=6:=by have:=qdt q;omega
   repeat' first|with_reducible refine QQ ?_ ?_|exact trivial|with_reducible rfl|exact qlr _|exact qRr|exact QY _ _ _ _|exact hw|exact Xv f 6|refine And.intro ?_ ?_
  have q6:¬ (k:Int)=6:=of_decide_eq_false q;clear q;refine QG (fun q => ?_) (fun q => ?_)
  ·refine QF (by simp;omega) ⟨k+1,h,by show n-(k+1)<n-k;omega,fun _ _ h=>h,rfl,rfl,_,QYw f n k (k+1),?_⟩
   obtain rfl:k=7:=by have:=qdt q;omega
   repeat' first|with_reducible refine QQ ?_ ?_|exact trivial|with_reducible rfl|exact qlr _|exact qRr|exact QY _ _ _ _|exact hw|exact Xv f 7|refine And.intro ?_ ?_
  have q7:¬ (k:Int)=7:=of_decide_eq_false q;clear q;refine QG (fun q => ?_) (fun q => ?_)
  ·refine QF (by simp;omega) ⟨k+1,h,by show n-(k+1)<n-k;omega,fun _ _ h=>h,rfl,rfl,_,QZ0 f n k (k+1),?_⟩
   obtain rfl:k=8:=by have:=qdt q;omega
   repeat' first|with_reducible refine QQ ?_ ?_|exact trivial|with_reducible rfl|exact qlr _|exact qRr|exact QY _ _ _ _|exact hw|exact Xv f 8|refine And.intro ?_ ?_
  have q8:¬ (k:Int)=8:=of_decide_eq_false q;clear q;refine QG (fun q => ?_) (fun q => ?_)
  ·refine QF (by simp;omega) ⟨k+1,h,by show n-(k+1)<n-k;omega,fun _ _ h=>h,rfl,rfl,_,QZe f n k (k+1),?_⟩
   obtain rfl:k=9:=by have:=qdt q;omega
   repeat' first|with_reducible refine QQ ?_ ?_|exact trivial|with_reducible rfl|exact qlr _|exact qRr|exact QY _ _ _ _|exact hw|exact Xv f 9|refine And.intro ?_ ?_
  have q9:¬ (k:Int)=9:=of_decide_eq_false q;clear q;refine QG (fun q => ?_) (fun q => ?_)
  ·refine QF (by simp;omega) ⟨k+1,h,by show n-(k+1)<n-k;omega,fun _ _ h=>h,rfl,rfl,_,QUq f n k (k+1),?_⟩
   obtain rfl:k=10:=by have:=qdt q;omega
   repeat' first|with_reducible refine QQ ?_ ?_|exact trivial|with_reducible rfl|exact qlr _|exact qRr|exact QY _ _ _ _|exact hw|exact Xv f 10|refine And.intro ?_ ?_
  have q10:¬ (k:Int)=10:=of_decide_eq_false q;clear q;refine QF (by simp;omega) ⟨k+1,h,by show n-(k+1)<n-k;omega,fun _ _ h=>h,rfl,rfl,_,QXX f n k (k+1),?_⟩
  obtain rfl:k=11:=by omega
  repeat' first|with_reducible refine QQ ?_ ?_|exact trivial|with_reducible rfl|exact qlr _|exact qRr|exact QY _ _ _ _|exact hw|exact Xv f 11|refine And.intro ?_ ?_
 ·have:k=n:=by have:=of_decide_eq_false h;omega
  subst this;refine⟨_,⟨rfl,rfl⟩,rfl,rfl,_,QWW f k k,?_⟩
  repeat' first|with_reducible refine QQ ?_ ?_|exact trivial|with_reducible rfl|exact qlr _|exact qRr|exact QY _ _ _ _|refine And.intro ?_ ?_
theorem QWc{T:Tab}(hT:QZ T)(f:Nat→Int)(n:Nat)(hn:n≤12)(G:Ctx)(hrd:G.rd=none)(hG:G.n=8):KC (mkE Try.prog T) G (QDN Try.prog T f n) (Qs Try.f20):=by
 refine Jj (body:=QX Try.f20 0) (QT hT) hrd (by kernel_rfl) ?_
 refine ZG (E:=mkF Try.prog Qu) rfl (JW (n0:=8) (jd KB) (by omega) (fun s hs=>Qy (jd KB) 3 G _ hrd) (fun s hs=>(by decide:8≤448)) ?_ (QRk f n hn) (s0:=0) (Nat.zero_le _) ?_)
 ·rintro s e J ⟨_,rfl⟩;exact(by decide:8≤448)
 ·rintro e J ⟨rfl,rfl⟩;exact⟨_,List.mem_cons_self,trivial,rfl,rfl⟩
def QEx:Res PlS:=onT x (Qr x x.scans.n) plY x.scans.n [] (0,fun _=>0) noH
def Q1:List Int×Int×Int:=match x.ok with
 | false=>([],0,1)
 | true=>match JU x with
  | true=>([],0,11)
  | false=>match QEx x with
   | .stop s _ | .go s _=>match decide (s.1>0)with
    | false=>([],0,6)
    | true=>((List.range x.scans.n).map s.2,s.2 12,0)
def YM:WF (QE×Unit):=fun|(x,_)=>(decide (x.d.ps.n≤1000∧x.scans.n≤1000∧x.hang.n≤1000),QB0 (Q1 x).1 (Q1 x).2.1 (Q1 x).2.2,[KW 3 0 (Q1 x).1 0])
def QIz:FC:=wFC YM
theorem QNH:WOk (YM (x,())).2.1 (YM (x,())).2.2:=⟨rfl,by simp[YM,KW,Blk.own,Blk.all],rfl⟩
theorem QG3(e:Int)(ht:QP Try.prog 49 (uFC (opE x e)))(he:e≠0)(hv:Q1 x=([],0,e)):QP Try.prog 20 (wFC (J1 YM (x,()))):=by
 have hT:QZ (K3 Qf (opE x e)):=KB.add ht;refine Ya (c:=Qs Try.f20) (E:=mkE Try.prog (K3 Qf (opE x e))) (H:=hnd (mkE Try.prog (K3 Qf (opE x e))) 1) (QT hT) Try.func20 (by kernel_rfl) (by kernel_rfl) (N:=8) (by decide) (x,()) (fun G h1 _=>Qy (QT hT) 1 G _ h1) (QNH x) ?_
 refine Q2 (QW3 Qf x e) ?_;refine QF (Ke.2 ?_) (QG (fun _ => ?_) (fun h=>by simp at h;exact absurd h he))
 ·repeat' first|with_reducible refine QQ ?_ ?_|exact trivial|with_reducible rfl|exact qlr _|exact qRr|exact QY _ _ _ _|refine And.intro ?_ ?_
 ·simp only[YM,hv];refine⟨rfl,rfl,_,QVi e [] 0 e,?_⟩
  repeat' first|with_reducible refine QQ ?_ ?_|exact trivial|with_reducible rfl|exact qlr _|exact qRr|exact QY _ _ _ _|exact rfl|refine And.intro ?_ ?_
theorem QVM:QC 1 ((List.range n).map f).length (fun i _=>f i) (fun i=>QA.enc (((List.range n).map f).getD i (0:Int))):=by
 intro i hi;show eqF 1 0 (fun _=>f i) (QA.enc (((List.range n).map f).getD i (0:Int)));have hi:i<n:=by simpa using hi
 have:((List.range n).map f).getD i (0:Int)=f i:=by simp[List.getD_eq_getElem?_getD,hi]
 rw[this];exact⟨rfl,trivial⟩
theorem QPR(hs:YH x)(hx:x.ok=true)(hr:JU x=false):QP Try.prog 20 (wFC (J1 YM (x,()))):=by
 have hg:=JM hx;have hss:=hg.s;have hC:=QGH (x:=x) hg.d.n9;have hon:=QLA hg hC x.scans.n [] (0,fun _=>0) noH (by simp) (fun c hc=>by cases hc) trivial
 obtain⟨s,h,he⟩:=W9 (C:=Qr x x.scans.n) (x:=x) (Y:=plY) (fun _ _=>rfl) x.scans.n [] (0,fun _=>0) noH;rw[he]at hon;have hT:QZ (HG Qf x (Qr x x.scans.n) (plU x (Qr x x.scans.n) YJ YE [] noH 0 (fun _=>0) h s.1 s.2)):=(KB.add (vn x hs hx hr)).add hon
 have hv:Q1 x=match decide (s.1>0)with
   | false=>([],0,6)
   | true=>((List.range x.scans.n).map s.2,s.2 12,0):=by
  simp only[Q1,hx,hr,QEx,he]
 refine Ya (c:=Qs Try.f20) (E:=mkE Try.prog (HG Qf x (Qr x x.scans.n) (plU x (Qr x x.scans.n) YJ YE [] noH 0 (fun _=>0) h s.1 s.2))) (H:=QDN Try.prog (HG Qf x (Qr x x.scans.n) (plU x (Qr x x.scans.n) YJ YE [] noH 0 (fun _=>0) h s.1 s.2)) s.2 x.scans.n) (QT hT) Try.func20 (by kernel_rfl) (by kernel_rfl) (N:=8) (by decide) (x,()) (fun G h1 h2=>QWc hT _ _ hss G h1 h2) (QNH x) ?_
 refine Q2 (QW2 Qf x (Qr x x.scans.n) h s.1 s.2) ?_;refine QF (Ke.2 ?_) (QF (Ke.2 ?_) (QG (fun q => ?_) (fun q => ?_)))
 ·repeat' first|with_reducible refine QQ ?_ ?_|exact trivial|with_reducible rfl|exact qlr _|exact qRr|exact QY _ _ _ _|refine And.intro ?_ ?_
 ·repeat' first|with_reducible refine QQ ?_ ?_|exact trivial|with_reducible rfl|exact qlr _|exact qRr|exact QY _ _ _ _|exact QCF _|exact rfl|refine And.intro ?_ ?_
 ·have q:decide (s.1>0)=false:=by simpa using q
  simp only[YM,hv,q];refine⟨rfl,rfl,_,QXs [] 0 6,?_⟩
  repeat' first|with_reducible refine QQ ?_ ?_|exact trivial|with_reducible rfl|exact qlr _|exact qRr|exact QY _ _ _ _|exact rfl|refine And.intro ?_ ?_
 ·have q:decide (s.1>0)=true:=by simpa using q
  repeat' first|refine Qa (p:=_=_) rfl ?_|refine Qa (p:=_≤_) (qlr _) ?_|refine Qa (p:=_≤_) (Nat.zero_le _) ?_|refine Qa (p:=QC _ _ _ _) (qRr) ?_|refine Qa (p:=QC _ _ _ _) (fun i hi=>absurd hi (Nat.not_lt_zero i)) ?_
  refine KJ fun _=>KF fun g => ?_;simp only[YM,hv,q];refine⟨rfl,rfl,_,QYP x s.2 _ _ 0,?_⟩
  repeat' first|with_reducible refine QQ ?_ ?_|exact trivial|with_reducible rfl|exact qlr _|exact qRr|exact QY _ _ _ _|exact(by simp:x.scans.n=((List.range x.scans.n).map s.2).length)|exact(by simp:((List.range x.scans.n).map s.2).length≤x.scans.n)|exact QVM _ _|exact rfl|refine And.intro ?_ ?_
theorem QXa(hx:(YM (x,())).1=true):QP Try.prog 20 (wFC (J1 YM (x,()))):=by
 obtain⟨h1,h2,h3⟩:=qdt hx;have hs:YH x:=⟨h1,h2,h3⟩;cases ho:x.ok with
 | false=>exact QG3 x 1 (QC9 x hs ho) (by decide) (by simp only[Q1,ho])
 | true=>cases hr:JU x with
  | true=>exact QG3 x 11 (QFm x hs ho hr) (by decide) (by simp only[Q1,ho,hr])
  | false=>exact QPR x hs ho hr
theorem QQh:QP Try.prog 20 QIz:=Gl (by kernel_rfl) fun|(x,()),hx=>QXa x hx
structure QLd where
 off:Sp
 wide:Sp
 deep:Sp
instance : Enc QLd where
  enc x := .agg [.int false .i64 x.off.lo,.int false .i64 x.off.hi,.int false .i64 x.wide.lo,.int false .i64 x.wide.hi,.int false .i64 x.deep.lo,.int false .i64 x.deep.hi]
  dec | .agg [.int _ .i64 a0,.int _ .i64 a1,.int _ .i64 a2,.int _ .i64 a3,.int _ .i64 a4,.int _ .i64 a5] => some ⟨⟨a0,a1⟩,⟨a2,a3⟩,⟨a4,a5⟩⟩ | _ => none
  ok v x h := by
    split at h <;> (try (cases h; done))
    simp only[qsI]at h; subst h; exact⟨fun _ => rfl,rfl⟩
theorem QXV{p:Qq}{t h:Edge}(hB:Q0.B ⟨p,t,h⟩):((-100000≤(Ql p t h).lo∧(Ql p t h).lo≤100000) ∧ -100000≤(Ql p t h).hi∧(Ql p t h).hi≤100000)∧((-100000≤(Qk t h).lo∧(Qk t h).lo≤100000) ∧ -100000≤(Qk t h).hi∧(Qk t h).hi≤100000) ∧
  ((-100000≤(Qj t h).lo∧(Qj t h).lo≤100000) ∧ -100000≤(Qj t h).hi∧(Qj t h).hi≤100000)∧(0≤p.damp.lo∧p.damp.lo≤100)∧0≤p.damp.hi∧p.damp.hi≤100:=by
 obtain⟨h1,h2,h3⟩:=hB;unfold VI at h1;unfold VJ at h2 h3;simp only[Ql,Qk,Qj]at *;omega
def V2(s:Sp)(lo hi:Int)(d:Sp):Bool:=decide ((-100000≤s.lo∧s.lo≤100000)∧(-100000≤s.hi∧s.hi≤100000)∧(-500≤lo∧lo≤500)∧(-500≤hi∧hi≤500)∧0≤d.hi∧d.hi≤100)
def QJM:Int×Int×Int×Unit→Bool×AV:=fun|(n,(a,(b,_)))=>(true,.bool false (QW n a b))
def QPB:FC:=Q8 (KA QJM)
theorem QSn(n:Int)(a:Int)(b:Int):Q5 (mkE Try.prog Wr) (hnd (mkE Try.prog Wr) 0) false Try.f79 (Qt.enc ((n,a,b,()):Int×Int×Int×Unit)) [] 0 =
  QD.br (decide (a≤n)) (QD.leaf (AV.bool false (decide (n≤b))) ([])) (QD.leaf (AV.bool true false) ([])):=by kernel_rfl
theorem QYY:QP Try.prog 79 QPB:=by
 refine KN QBv 0 Try.func79 (by kernel_rfl) (by kernel_rfl) ?_
 rintro⟨n,a,b,⟨⟩⟩ hp;rw[QSn n a b];simp only[QJM,QD.den,AV.same,AV.sameL,and_true,true_and]at hp ⊢
 (repeat' (first|(refine And.intro ?_ ?_)|(intro _)))<;>simp_all [QW]<;>omega
def QBc:Tab:=Qg Wr 79 QPB
theorem QJo:QZ QBc:=QBv.add QYY
def QMJ:Sp×Int×Int×Unit→Bool×AV:=fun|(s,(a,(b,_)))=>(true,.bool false (s.isIn a b))
def QLS:FC:=Q8 (KA QMJ)
theorem QUI(s:Sp)(a:Int)(b:Int):Q5 (mkE Try.prog QBc) (hnd (mkE Try.prog QBc) 0) false Try.f80 (Qt.enc ((s,a,b,()):Sp×Int×Int×Unit)) [] 0 =
  QD.br (decide (a≤s.lo)) (QD.br (decide (s.lo≤s.hi)) (QD.leaf (AV.bool false (decide (s.hi≤b))) ([])) (QD.leaf (AV.bool true false) ([]))) (QD.leaf (AV.bool true
  false) ([])):=by kernel_rfl
theorem QTZ:QP Try.prog 80 QLS:=by
 refine KN QJo 0 Try.func80 (by kernel_rfl) (by kernel_rfl) ?_
 rintro⟨s,a,b,⟨⟩⟩ hp;rw[QUI s a b];simp only[QMJ,QD.den,AV.same,AV.sameL,and_true,true_and]at hp ⊢
 (repeat' (first|(refine And.intro ?_ ?_)|(intro _)))<;>simp_all [Sp.isIn]<;>omega
def QBz:Tab:=Qg QBc 80 QLS
theorem QH7:QZ QBz:=QJo.add QTZ
def QNl:Edge×Unit→Bool×AV:=fun|(a,_)=>(true,.bool false a.ok)
def QMb:FC:=Q8 (KA QNl)
theorem QaA(a:Edge):Q5 (mkE Try.prog QBz) (hnd (mkE Try.prog QBz) 0) false Try.f57 (Qt.enc ((a,()):Edge×Unit)) [] 0 =
  QD.br (a.kind==(0:Int)) (QD.leaf (AV.bool true true) ([])) (QD.need (true) (QD.br (QW a.kind (1:Int) (2:Int)) (QD.need (true) (QD.br (a.at_.isIn (0:Int)
  (10000:Int)) (QD.need (true) (QD.br (a.wide.isIn (1:Int) (3000:Int)) (QD.need (true) (QD.leaf (AV.bool false (a.deep.isIn (1:Int) (3000:Int))) ([]))) (QD.leaf
  (AV.bool true false) ([])))) (QD.leaf (AV.bool true false) ([])))) (QD.leaf (AV.bool true false) ([])))):=by kernel_rfl
theorem QTC:QP Try.prog 57 QMb:=by
 refine KN QH7 0 Try.func57 (by kernel_rfl) (by kernel_rfl) ?_
 rintro⟨a,⟨⟩⟩ hp;rw[QaA a];simp only[QNl,QD.den,AV.same,AV.sameL,and_true,true_and]at hp ⊢
 have hw:QW a.kind 1 2=((a.kind==1)||(a.kind==2)):=by
  unfold QW;rw[Bool.eq_iff_iff];simp only[qdE,qbO,beq_iff_eq];omega
 simp only[hw];unfold Edge.ok;cases (a.kind==0)<;>cases ((a.kind==1)||(a.kind==2))<;>cases a.at_.isIn 0 10000<;>cases a.wide.isIn 1 3000<;>simp
def Hf:Tab:=Qg QBz 57 QMb
theorem QJh:QZ Hf:=QH7.add QTC
def QHI:Qq×Unit→Bool×AV:=fun|(p,_)=>(true,.bool false p.ok)
def QNj:FC:=Q8 (KA QHI)
theorem QRa(p:Qq):Q5 (mkE Try.prog Hf) (hnd (mkE Try.prog Hf) 0) false Try.f67 (Qt.enc ((p,()):Qq×Unit)) [] 0 =
  QD.need (true) (QD.br (QW p.length (1:Int) (10000:Int)) (QD.need (true) (QD.br (QW p.slack (0:Int) (500:Int)) (QD.need (true) (QD.br (QW p.loose (0 :
  Int) (500:Int)) (QD.need (true) (QD.leaf (AV.bool false (p.damp.isIn (0:Int) (100:Int))) ([]))) (QD.leaf (AV.bool true false) ([])))) (QD.leaf (AV.bool true false)
  ([])))) (QD.leaf (AV.bool true false) ([]))):=by kernel_rfl
theorem QWr:QP Try.prog 67 QNj:=by
 refine KN QJh 0 Try.func67 (by kernel_rfl) (by kernel_rfl) ?_
 rintro⟨p,⟨⟩⟩ hp;rw[QRa p];simp only[QHI,QD.den,AV.same,AV.sameL,and_true,true_and]at hp ⊢
 (repeat' (first|(refine And.intro ?_ ?_)|(intro _)))<;>simp_all [Qq.ok]
def QAo:Tab:=Qg Hf 67 QNj
theorem QNs:QZ QAo:=QJh.add QWr
def QHw:Qq×Edge×Edge×Unit→Bool×AV:=fun|(p,(t,(h,_)))=>(decide (Q0.B ⟨p,t,h⟩),Enc.enc (⟨Ql p t h,Qk t h,Qj t h⟩:QLd))
def QI6:FC:=Q8 (KA QHw)
theorem QT2(p:Qq)(t:Edge)(h:Edge):Q5 (mkE Try.prog QAo) (hnd (mkE Try.prog QAo) 0) false Try.f104 (Qt.enc ((p,t,h,()):Qq×Edge×Edge×Unit)) [] 0 =
  QD.leaf (AV.agg [AV.int false i64 (i64.wrap (i64.wrap (t.at_.lo+h.at_.lo)-p.length)),AV.int false i64 (i64.wrap (i64.wrap
  (t.at_.hi+h.at_.hi)-p.length)),AV.int false i64 (i64.wrap (h.wide.lo-t.wide.hi)),AV.int false i64 (i64.wrap (h.wide.hi-t.wide.lo)),AV.int
  false i64 (i64.wrap (h.deep.lo-t.deep.hi)),AV.int false i64 (i64.wrap (h.deep.hi-t.deep.lo))]) ([]):=by kernel_rfl
theorem QQk:QP Try.prog 104 QI6:=by
 refine KN QNs 0 Try.func104 (by kernel_rfl) (by kernel_rfl) ?_
 rintro⟨p,t,h,⟨⟩⟩ hp;rw[QT2 p t h];simp only[QHw,QD.den,AV.same,AV.sameL,and_true,true_and]at hp ⊢;have hq:=qdt hp;obtain⟨h1,h2,h3⟩:=hq;unfold VI at h1;unfold VJ at h2 h3;simp only at h1 h2 h3;simp only[Enc.enc,AV.same,AV.sameL,true_and,and_true,Ql,Qk,Qj];rw[w64 (n:=t.at_.lo+h.at_.lo) (by omega) (by omega),w64 (n:=t.at_.hi+h.at_.hi) (by omega) (by omega)]
 rw[w64 (by omega) (by omega),w64 (by omega) (by omega),w64 (by omega) (by omega),w64 (by omega) (by omega),w64 (by omega) (by omega),w64 (by omega) (by omega)]
 refine⟨?_,?_,?_,?_,?_,?_⟩<;>omega
def QCW:Tab:=Qg QAo 104 QI6
theorem QLy:QZ QCW:=QNs.add QQk
def QMN:Sp×Int×Int×Sp×Unit→Bool×AV:=fun|(s,(lo,(hi,(d,_))))=>(V2 s lo hi d,.bool false (Ka s.lo s.hi lo hi d.hi))
def QMC:FC:=Q8 (KA QMN)
theorem QXA(s:Sp)(lo:Int)(hi:Int)(d:Sp):Q5 (mkE Try.prog QCW) (hnd (mkE Try.prog QCW) 0) false Try.f105 (Qt.enc ((s,lo,hi,d,()):Sp×Int×Int×Sp×Unit)) [] 0 =
  QD.br (decide (i64.wrap (s.lo*i64.wrap ((1000:Int)+d.hi))≥i64.wrap ((1000:Int)*lo))) (QD.leaf (AV.bool false (decide (i64.wrap (s.hi
  * i64.wrap ((1000:Int)+d.hi))≤i64.wrap ((1000:Int)*hi)))) ([])) (QD.leaf (AV.bool true false) ([])):=by kernel_rfl
theorem QYR:QP Try.prog 105 QMC:=by
 refine KN QLy 0 Try.func105 (by kernel_rfl) (by kernel_rfl) ?_
 rintro⟨s,lo,hi,d,⟨⟩⟩ hp;rw[QXA s lo hi d];simp only[QMN,QD.den,AV.same,AV.sameL,and_true,true_and]at hp ⊢;have hq:=qdt hp;obtain⟨h1,h2,h3,h4,h5⟩:=hq;exact GE h1 h2 h3 h4 h5
def Yc:Tab:=Qg QCW 105 QMC
theorem vz:QZ Yc:=QLy.add QYR
structure KS where
 s:Sp
 d:Sp
 lo:Int
 hi:Int
 n:Int
def KS.I(x:KS):JSt:=⟨40,[(1,.int false .i64 x.lo),(2,.int false .i64 x.hi),(4,.ptr 0 0 0),(7,.ptr 8 0 0),(9,.int false .i64 x.n)],[(8,.cells 0 23 (Enc.enc x.d).cells),(0,.cells 0 23 (Enc.enc x.s).cells)],56⟩
def KS.pre(x:KS):Prop:=(-100000≤x.s.lo∧x.s.lo≤100000)∧(-100000≤x.s.hi∧x.s.hi≤100000)∧(-500≤x.lo∧x.lo≤0)∧(0≤x.hi∧x.hi≤500)∧(0≤x.d.lo∧x.d.lo≤100) ∧ -100000≤x.n∧x.n≤100001
def KS.good(x:KS)(n:Int):Prop:=n≤min x.s.hi x.hi∧1000*x.lo≤n*(1000+x.d.lo)∧n*(1000+x.d.lo)≤1000*x.hi
def KS.yes(x:KS):Prop:=∃ n,x.n≤n∧x.good n
def G1(x:KS)(e:Ex)(J:JSt):Prop:=(e = .ret∧J=⟨40,[(8,.bool true true)],[],0⟩∧x.yes)∨(e = .exit 0∧J=⟨40,[],[],0⟩∧¬ x.yes)
def Hc:Ex→List Nat
 | .normal=>[1,2,4,7,9]
 | .ret=>[8]
 | .exit _=>[]
def KS.mu(x:KS):Nat:=(min x.s.hi x.hi+1-x.n).toNat
def KS.next(x:KS):KS:={ x with n:=x.n+1 }
def Hb(x:KS):QD := .leaf (.tup [.nilp,.ptr 40 0 0,.int false .i64 x.lo,.int false .i64 x.hi,.ptr 0 0 0,.ptr 8 0 0,.int false .i64 (i64.wrap (x.n+1))]) [(8,.cells 0 23 (Enc.enc x.d).cells),(0,.cells 0 23 (Enc.enc x.s).cells)]
theorem QVA(x:KS)(g:Nat→Value):exec (mkE Try.prog Yc) (hnd (mkE Try.prog Yc) 0) (QX Try.f106 0) (JSt.inst x.I g) (QCl Hc) =
  .br (decide (x.n ≤ min x.s.hi x.hi))
    (.br (decide (i64.wrap (x.n * i64.wrap (1000 + x.d.lo)) ≥ i64.wrap (1000 * x.lo)))
      (.br (decide (i64.wrap (x.n * i64.wrap (1000 + x.d.lo)) ≤ i64.wrap (1000 * x.hi)))
        (.leaf (.tup [.nili,.ptr 40 0 0,.bool true true]) [(8,.cells 0 23 (Enc.enc x.d).cells),(0,.cells 0 23 (Enc.enc x.s).cells)])
        (Hb x)) (Hb x))
    (.leaf (.tup [.ptr 0 0 0,.ptr 40 0 0]) [(8,.cells 0 23 (Enc.enc x.d).cells),(0,.cells 0 23 (Enc.enc x.s).cells)]) := by kernel_rfl
theorem QOq{x:KS}(h:x.pre):i64.wrap (x.n*i64.wrap (1000+x.d.lo))=x.n*(1000+x.d.lo)∧i64.wrap (1000*x.lo)=1000*x.lo∧i64.wrap (1000*x.hi)=1000*x.hi∧i64.wrap (x.n+1)=x.n+1:=by
 obtain⟨h1,h2,h3,h4,h5,h6,h7⟩:=h;have e:i64.wrap (1000+x.d.lo)=1000+x.d.lo:=w64 (by omega) (by omega)
 have m:=Int.mul_le_mul_of_nonneg_right h6 (show 0≤1000+x.d.lo by omega)
 have m':=Int.mul_le_mul_of_nonneg_right h7 (show 0≤1000+x.d.lo by omega)
 rw[e];exact⟨w64 (by omega) (by omega),w64 (by omega) (by omega),w64 (by omega) (by omega),w64 (by omega) (by omega)⟩
theorem QKf{x:KS}(hp:x.pre)(hn:x.n≤min x.s.hi x.hi)(hb:¬ (1000*x.lo≤x.n*(1000+x.d.lo)∧x.n*(1000+x.d.lo)≤1000*x.hi)):(Hb x).den (j6 (QHK KS.I KS.pre KS.mu G1 0 Hc x) (Go.SX.Leaves G1 0 Hc x)):=by
 unfold Hb;rw[(QOq hp).2.2.2];refine⟨x.next,fun i=>i,?_,?_,?_,?_⟩
 ·obtain⟨h1,h2,h3,h4,h5,h6,h7⟩:=hp;refine⟨h1,h2,h3,h4,h5,?_,?_⟩<;>simp only[KS.next]<;>omega
 ·simp only[KS.mu,KS.next];omega
 ·intro e J hR
  have hy:x.next.yes↔x.yes:=by
   constructor
   ·rintro⟨n,h1,h2⟩;simp only[KS.next]at h1;exact⟨n,by omega,h2⟩
   ·rintro⟨n,h1,h2⟩;rcases(show n=x.n∨x.n+1≤n by omega)with rfl|h3
    ·exact absurd h2.2 hb
    ·exact⟨n,h3,h2⟩
  unfold G1 at *;rw[hy]at hR;exact hR
 ·refine XJ.same rfl rfl ?_ ?_ rfl rfl
  ·exact⟨⟨rfl,rfl⟩,⟨rfl,rfl⟩,⟨rfl,rfl,rfl⟩,⟨rfl,rfl,rfl⟩,⟨rfl,rfl⟩,trivial⟩
  ·exact⟨⟨_,rfl,rfl,rfl,⟨rfl,rfl⟩,⟨rfl,rfl⟩,trivial⟩,⟨_,rfl,rfl,rfl,⟨rfl,rfl⟩,⟨rfl,rfl⟩,trivial⟩,trivial⟩
theorem QXk:QDL KS.I KS.pre KS.mu G1 0 Hc (mkE Try.prog Yc) (hnd (mkE Try.prog Yc) 0) (QX Try.f106 0):=by
 intro x g hp;rw[QVA];obtain⟨e1,e2,e3,_⟩:=QOq hp;simp only[QD.den,e1,e2,e3,qdE,decide_eq_false_iff_not];refine⟨fun hn=>⟨fun h1=>⟨fun h2 => ?_,fun h2 => ?_⟩,fun h1 => ?_⟩,fun hn => ?_⟩
 ·exact⟨⟨40,[(8,.bool true true)],[],0⟩,fun i=>i,.inl ⟨rfl,rfl,x.n,Int.le_refl _,hn,h1,h2⟩,XJ.same rfl rfl ⟨rfl,trivial⟩ trivial rfl rfl⟩
 ·exact QKf hp hn (fun h=>h2 h.2)
 ·exact QKf hp hn (fun h=>h1 h.1)
 ·refine⟨⟨40,[],[],0⟩,fun i=>i,.inr ⟨rfl,rfl,?_⟩,XJ.same rfl rfl trivial trivial rfl rfl⟩;rintro⟨n,h1,h2,_⟩;omega
instance (x : KS) : Decidable x.pre := by unfold KS.pre; infer_instance
def Yy:Code→St→(Ex→St→QD)→QD:=fun _ st K=>match st.tm.length==40&&Vt st.hp,QJ st.tm 1,QJ st.tm 2,QJ st.tm 4,QJ st.tm 7,QJ st.tm 9,Go.SX.look st.hp 8,Go.SX.look st.hp 0 with
 | true,.int _ .i64 lo,.int _ .i64 hi,.ptr 0 0 0,.ptr 8 0 0,.int _ .i64 n,some (.cells 0 23 [.int _ .i64 dlo,.int _ .i64 dhi]),some (.cells 0 23 [.int _ .i64 slo,.int _ .i64 shi])=>
  .need (decide (KS.pre ⟨⟨slo,shi⟩,⟨dlo,dhi⟩,lo,hi,n⟩)) (.both (.asm (KS.yes ⟨⟨slo,shi⟩,⟨dlo,dhi⟩,lo,hi,n⟩) (.all fun g=>K .ret (JSt.inst ⟨40,[(8,.bool true true)],[],0⟩ g)))
   (.asm (¬ KS.yes ⟨⟨slo,shi⟩,⟨dlo,dhi⟩,lo,hi,n⟩) (.all fun g=>K (.exit 0) (JSt.inst ⟨40,[],[],0⟩ g))))
 | _, _, _, _, _, _, _, _ => .fail "some"
theorem QQt(body:Code)(st:St)(K:Ex→St→QD)(T:AV→List (Nat×Blk)→Prop)(h:(Yy body st K).den T):∃ s q ls',KS.pre s∧XJ 0 q ls' st.tm.length (ls'.map (QJ st.tm)) st.hp (KS.I s)∧∀ e J g,G1 s e J→(K e (J.inst g)).den T:=by
 unfold Yy at h;split at h<;>(try (exact h.elim))
 rename_i k1 lo k2 hi k9 n kd dlo ke dhi ks slo kt shi c1 e1 e2 e4 e7 e9 h8 h0;simp only[QD.den,qdE]at h;rw[qbA]at c1;refine⟨⟨⟨slo,shi⟩,⟨dlo,dhi⟩,lo,hi,n⟩,fun i=>i,[1,2,4,7,9],h.1,XJ.same rfl ?_ ?_ ?_ rfl rfl ?_,?_⟩
 ·exact beq_iff_eq.1 c1.1
 ·simp only[List.map_cons,List.map_nil, *];exact⟨⟨rfl,rfl⟩,⟨rfl,rfl⟩,⟨rfl,rfl,rfl⟩,⟨rfl,rfl,rfl⟩,⟨rfl,rfl⟩,trivial⟩
 ·exact⟨⟨_,h8,rfl,rfl,⟨rfl,rfl⟩,⟨rfl,rfl⟩,trivial⟩,⟨_,h0,rfl,rfl,⟨rfl,rfl⟩,⟨rfl,rfl⟩,trivial⟩,trivial⟩
 ·exact c1.2
 ·rintro e J g (⟨rfl,rfl,hy⟩|⟨rfl,rfl,hy⟩)
  ·exact h.2.1 hy g
  ·exact h.2.2 hy g
theorem QT8(G:Ctx)(hG:G.n=0)(hrd:G.rd=none):KC (mkE Try.prog Yc) G { hnd (mkE Try.prog Yc) 0 with loop:=Yy } (Qs Try.f106):=
 ⟨fun b hb=>by
  have e:Km (Qs Try.f106)=[.loop (QX Try.f106 0)]:=by kernel_rfl
  rw[e,List.mem_singleton]at hb;subst hb;exact QXD (QT vz) (by omega) (Qy (QT vz) 0 G _ hrd) (fun _=>Nat.zero_le _) QXk (fun st K T h=>QQt (QX Try.f106 0) st K T h),(Qy (QT vz) 0 G (Qs Try.f106) hrd).call,(Qy (QT vz) 0 G (Qs Try.f106) hrd).yield⟩
def Kf(s:Sp)(lo hi:Int)(d:Sp):Bool:=decide (s.lo≤s.hi∧(-100000≤s.lo∧s.lo≤100000)∧(-100000≤s.hi∧s.hi≤100000)∧(-500≤lo∧lo≤0)∧(0≤hi∧hi≤500)∧0≤d.lo∧d.lo≤100)
def QOQ:Sp×Int×Int×Sp×Unit→Bool×AV:=fun|(s,(lo,(hi,(d,_))))=>(Kf s lo hi d,.bool false (Qw s.lo s.hi lo hi d.lo))
def QNR:FC:=Q8 (KA QOQ)
theorem QRT(s:Sp)(lo:Int)(hi:Int)(d:Sp):Q5 (mkE Try.prog Yc) { hnd (mkE Try.prog Yc) 0 with loop:=Yy } false Try.f106 (Qt.enc ((s,lo,hi,d,()):Sp×Int×Int×Sp×Unit)) [] 0 =
  QD.need (decide (KS.mk s d lo hi (max s.lo lo)).pre) (QD.both (QD.asm ((KS.mk s d lo hi (max s.lo lo)).yes) (QD.all (fun(g0:Nat→Value)=>QD.leaf (AV.bool true
  true) ([])))) (QD.asm (¬(KS.mk s d lo hi (max s.lo lo)).yes) (QD.all (fun(g1:Nat→Value)=>QD.leaf (AV.bool true false) ([]))))):=by kernel_rfl
theorem QWz:QP Try.prog 106 QNR:=by
 refine QGi (QT vz) Try.func106 (by kernel_rfl) (by kernel_rfl) QT8 ?_
 rintro⟨s,lo,hi,d,⟨⟩⟩ hp;rw[QRT s lo hi d];simp only[QOQ,QD.den,AV.same,AV.sameL,and_true,true_and]at hp ⊢;have hq:=qdt hp;obtain⟨h0,h1,h2,h3,h4,h5⟩:=hq;unfold KS.yes KS.good;refine⟨decide_eq_true ⟨h1,h2,h3,h4,h5,?_,?_⟩,?_,?_⟩
 ·show -100000≤max s.lo lo;omega
 ·show max s.lo lo≤100001;omega
 ·rintro⟨n,g1,g2,g3,g4⟩ _
  dsimp only at g1 g2 g3 g4
  exact(QVx (n:=n) (by omega) (by omega) (by omega) (by omega) (by omega) g3 g4).symm
 ·intro hn _
  dsimp only at hn
  refine(QVa (by omega) (by omega) (by omega) h0 fun n g1 g2 g3=>hn ⟨n,g1,g2,g3⟩).symm
def QBp:Tab:=Qg Yc 106 QNR
theorem QOs:QZ QBp:=vz.add QWz
theorem QMq{p:Qq}{t h:Edge}(h1:p.ok=true)(h2:t.ok=true)(h3:h.ok=true)(ht:t.kind=1)(hh:h.kind=2):(Q0.B ⟨p,t,h⟩∧i64.wrap (0-p.slack) = -p.slack)∧(V2 (Ql p t h) (-p.slack) p.slack p.damp=true∧V2 (Qk t h) 0 p.loose p.damp=true∧V2 (Qj t h) 0 p.loose p.damp=true) ∧
  Kf (Ql p t h) (-p.slack) p.slack p.damp=true∧Kf (Qk t h) 0 p.loose p.damp=true∧Kf (Qj t h) 0 p.loose p.damp=true:=by
 have hB:=QDC h1 h2 h3 ht hh;have hb:=QXV hB;have h1':=hB.1;unfold VI at h1'
 have s2:(t.at_.lo≤t.at_.hi∧t.wide.lo≤t.wide.hi∧t.deep.lo≤t.deep.hi):=by
  unfold Edge.ok Sp.isIn at h2;simp[ht]at h2;omega
 have s3:(h.at_.lo≤h.at_.hi∧h.wide.lo≤h.wide.hi∧h.deep.lo≤h.deep.hi):=by
  unfold Edge.ok Sp.isIn at h3;simp[hh]at h3;omega
 obtain⟨o1,o2,o3,o4⟩:=hb;simp only at h1';have n1:(Ql p t h).lo≤(Ql p t h).hi:=by simp only[Ql];omega
 have n2:(Qk t h).lo≤(Qk t h).hi:=by simp only[Qk];omega
 have n3:(Qj t h).lo≤(Qj t h).hi:=by simp only[Qj];omega
 unfold V2 Kf;refine⟨⟨hB,?_⟩,⟨decide_eq_true ?_,decide_eq_true ?_,decide_eq_true ?_⟩,decide_eq_true ?_,decide_eq_true ?_,decide_eq_true ?_⟩
 ·rw[w64 (by omega) (by omega)];omega
 all_goals omega
def QIC:Qq×Edge×Edge×Unit→Bool×AV:=fun|(p,(a,(b,_)))=>(okP p a b,.int false .i64 (Zd p a b))
def QGv:FC:=Q8 (KA QIC)
theorem QTy(p:Qq)(a:Edge)(b:Edge):Q5 (mkE Try.prog QBp) (hnd (mkE Try.prog QBp) 4) false Try.f89 (Qt.enc ((p,a,b,()):Qq×Edge×Edge×Unit)) [] 0 = .br (a.kind==1) (.br (b.kind==2)
  (.need (decide (Q0.mk p a b).B) (.need (V2 (Ql p a b) (i64.wrap ((0:Int)-p.slack)) p.slack p.damp) (.br (Ka (Ql p a b).lo (Ql p a b).hi
  (i64.wrap ((0:Int)-p.slack)) p.slack p.damp.hi) (.need (V2 (Qk a b) (0:Int) p.loose p.damp) (.br (Ka (Qk a b).lo (Qk a b).hi (0:Int) p.loose
  p.damp.hi) (.need (V2 (Qj a b) (0:Int) p.loose p.damp) (.br (Ka (Qj a b).lo (Qj a b).hi (0:Int) p.loose p.damp.hi) (.leaf (.int true .i64 2) ([])) (.need
  (Kf (Ql p a b) (i64.wrap ((0:Int)-p.slack)) p.slack p.damp) (.br (Qw (Ql p a b).lo (Ql p a b).hi (i64.wrap ((0:Int)-p.slack)) p.slack
  p.damp.lo) (.need (Kf (Qk a b) (0:Int) p.loose p.damp) (.br (Qw (Qk a b).lo (Qk a b).hi (0:Int) p.loose p.damp.lo) (.need (Kf (Qj a b) (0:Int)
  p.loose p.damp) (.br (Qw (Qj a b).lo (Qj a b).hi (0:Int) p.loose p.damp.lo) (.leaf (.int true .i64 1) ([])) (.leaf (.int true .i64 0) ([])))) (.leaf (.int true .i64
  0) ([])))) (.leaf (.int true .i64 0) ([])))))) (.need (Kf (Ql p a b) (i64.wrap ((0:Int)-p.slack)) p.slack p.damp) (.br (Qw (Ql p a b).lo (Ql p a b).hi
  (i64.wrap ((0:Int)-p.slack)) p.slack p.damp.lo) (.need (Kf (Qk a b) (0:Int) p.loose p.damp) (.br (Qw (Qk a b).lo (Qk a b).hi (0:Int) p.loose
  p.damp.lo) (.need (Kf (Qj a b) (0:Int) p.loose p.damp) (.br (Qw (Qj a b).lo (Qj a b).hi (0:Int) p.loose p.damp.lo) (.leaf (.int true .i64 1) ([])) (.leaf
  (.int true .i64 0) ([])))) (.leaf (.int true .i64 0) ([])))) (.leaf (.int true .i64 0) ([])))))) (.need (Kf (Ql p a b) (i64.wrap ((0:Int)-p.slack)) p.slack p.damp)
  (.br (Qw (Ql p a b).lo (Ql p a b).hi (i64.wrap ((0:Int)-p.slack)) p.slack p.damp.lo) (.need (Kf (Qk a b) (0:Int) p.loose p.damp) (.br (Qw
  (Qk a b).lo (Qk a b).hi (0:Int) p.loose p.damp.lo) (.need (Kf (Qj a b) (0:Int) p.loose p.damp) (.br (Qw (Qj a b).lo (Qj a b).hi (0:Int) p.loose
  p.damp.lo) (.leaf (.int true .i64 1) ([])) (.leaf (.int true .i64 0) ([])))) (.leaf (.int true .i64 0) ([])))) (.leaf (.int true .i64 0) ([]))))))) (.br (b.kind==1) (.br (a.kind
  == 2) (.need (decide (Q0.mk p b a).B) (.need (V2 (Ql p b a) (i64.wrap ((0:Int)-p.slack)) p.slack p.damp) (.br (Ka (Ql p b a).lo (Ql p b a).hi
  (i64.wrap ((0:Int)-p.slack)) p.slack p.damp.hi) (.need (V2 (Qk b a) (0:Int) p.loose p.damp) (.br (Ka (Qk b a).lo (Qk b a).hi (0:Int) p.loose
  p.damp.hi) (.need (V2 (Qj b a) (0:Int) p.loose p.damp) (.br (Ka (Qj b a).lo (Qj b a).hi (0:Int) p.loose p.damp.hi) (.leaf (.int true .i64 2) ([])) (.need
  (Kf (Ql p b a) (i64.wrap ((0:Int)-p.slack)) p.slack p.damp) (.br (Qw (Ql p b a).lo (Ql p b a).hi (i64.wrap ((0:Int)-p.slack)) p.slack
  p.damp.lo) (.need (Kf (Qk b a) (0:Int) p.loose p.damp) (.br (Qw (Qk b a).lo (Qk b a).hi (0:Int) p.loose p.damp.lo) (.need (Kf (Qj b a) (0:Int)
  p.loose p.damp) (.br (Qw (Qj b a).lo (Qj b a).hi (0:Int) p.loose p.damp.lo) (.leaf (.int true .i64 1) ([])) (.leaf (.int true .i64 0) ([])))) (.leaf (.int true .i64
  0) ([])))) (.leaf (.int true .i64 0) ([])))))) (.need (Kf (Ql p b a) (i64.wrap ((0:Int)-p.slack)) p.slack p.damp) (.br (Qw (Ql p b a).lo (Ql p b a).hi
  (i64.wrap ((0:Int)-p.slack)) p.slack p.damp.lo) (.need (Kf (Qk b a) (0:Int) p.loose p.damp) (.br (Qw (Qk b a).lo (Qk b a).hi (0:Int) p.loose
  p.damp.lo) (.need (Kf (Qj b a) (0:Int) p.loose p.damp) (.br (Qw (Qj b a).lo (Qj b a).hi (0:Int) p.loose p.damp.lo) (.leaf (.int true .i64 1) ([])) (.leaf
  (.int true .i64 0) ([])))) (.leaf (.int true .i64 0) ([])))) (.leaf (.int true .i64 0) ([])))))) (.need (Kf (Ql p b a) (i64.wrap ((0:Int)-p.slack)) p.slack p.damp)
  (.br (Qw (Ql p b a).lo (Ql p b a).hi (i64.wrap ((0:Int)-p.slack)) p.slack p.damp.lo) (.need (Kf (Qk b a) (0:Int) p.loose p.damp) (.br (Qw
  (Qk b a).lo (Qk b a).hi (0:Int) p.loose p.damp.lo) (.need (Kf (Qj b a) (0:Int) p.loose p.damp) (.br (Qw (Qj b a).lo (Qj b a).hi (0:Int) p.loose
  p.damp.lo) (.leaf (.int true .i64 1) ([])) (.leaf (.int true .i64 0) ([])))) (.leaf (.int true .i64 0) ([])))) (.leaf (.int true .i64 0) ([]))))))) (.leaf (.int true .i64 0) ([])))
  (.leaf (.int true .i64 0) ([])))) (.br (b.kind==1) (.br (a.kind==2) (.need (decide (Q0.mk p b a).B) (.need (V2 (Ql p b a) (i64.wrap ((0:Int)-p.slack))
  p.slack p.damp) (.br (Ka (Ql p b a).lo (Ql p b a).hi (i64.wrap ((0:Int)-p.slack)) p.slack p.damp.hi) (.need (V2 (Qk b a) (0:Int) p.loose p.damp) (.br
  (Ka (Qk b a).lo (Qk b a).hi (0:Int) p.loose p.damp.hi) (.need (V2 (Qj b a) (0:Int) p.loose p.damp) (.br (Ka (Qj b a).lo (Qj b a).hi (0:Int)
  p.loose p.damp.hi) (.leaf (.int true .i64 2) ([])) (.need (Kf (Ql p b a) (i64.wrap ((0:Int)-p.slack)) p.slack p.damp) (.br (Qw (Ql p b a).lo (Ql p b
  a).hi (i64.wrap ((0:Int)-p.slack)) p.slack p.damp.lo) (.need (Kf (Qk b a) (0:Int) p.loose p.damp) (.br (Qw (Qk b a).lo (Qk b a).hi (0:Int)
  p.loose p.damp.lo) (.need (Kf (Qj b a) (0:Int) p.loose p.damp) (.br (Qw (Qj b a).lo (Qj b a).hi (0:Int) p.loose p.damp.lo) (.leaf (.int true .i64 1) ([]))
  (.leaf (.int true .i64 0) ([])))) (.leaf (.int true .i64 0) ([])))) (.leaf (.int true .i64 0) ([])))))) (.need (Kf (Ql p b a) (i64.wrap ((0:Int)-p.slack)) p.slack
  p.damp) (.br (Qw (Ql p b a).lo (Ql p b a).hi (i64.wrap ((0:Int)-p.slack)) p.slack p.damp.lo) (.need (Kf (Qk b a) (0:Int) p.loose p.damp) (.br
  (Qw (Qk b a).lo (Qk b a).hi (0:Int) p.loose p.damp.lo) (.need (Kf (Qj b a) (0:Int) p.loose p.damp) (.br (Qw (Qj b a).lo (Qj b a).hi (0:Int)
  p.loose p.damp.lo) (.leaf (.int true .i64 1) ([])) (.leaf (.int true .i64 0) ([])))) (.leaf (.int true .i64 0) ([])))) (.leaf (.int true .i64 0) ([])))))) (.need (Kf (Ql p b
  a) (i64.wrap ((0:Int)-p.slack)) p.slack p.damp) (.br (Qw (Ql p b a).lo (Ql p b a).hi (i64.wrap ((0:Int)-p.slack)) p.slack p.damp.lo) (.need
  (Kf (Qk b a) (0:Int) p.loose p.damp) (.br (Qw (Qk b a).lo (Qk b a).hi (0:Int) p.loose p.damp.lo) (.need (Kf (Qj b a) (0:Int) p.loose p.damp) (.br
  (Qw (Qj b a).lo (Qj b a).hi (0:Int) p.loose p.damp.lo) (.leaf (.int true .i64 1) ([])) (.leaf (.int true .i64 0) ([])))) (.leaf (.int true .i64 0) ([])))) (.leaf
  (.int true .i64 0) ([]))))))) (.leaf (.int true .i64 0) ([]))) (.leaf (.int true .i64 0) ([]))):=by kernel_rfl
theorem QR4:QP Try.prog 89 QGv:=by
 refine KN QOs 4 Try.func89 (by kernel_rfl) (by kernel_rfl) ?_
 rintro⟨p,a,b,⟨⟩⟩ hp;rw[QTy p a b];simp only[QIC,QD.den,AV.same,AV.sameL,and_true,true_and]at hp ⊢;unfold okP at hp;simp only[qbA]at hp;obtain⟨h1,h2,h3⟩:=hp;unfold Zd
 by_cases c1:a.kind=1∧b.kind=2
 ·obtain⟨ha,hb⟩:=c1;obtain⟨⟨q1,q2⟩,⟨q3,q4,q5⟩,q6,q7,q8⟩:=QMq h1 h2 h3 ha hb;rw[if_neg (by omega),if_pos ⟨ha,hb⟩,QD2]
  simp only[ha,hb,q1,q2,q3,q4,q5,q6,q7,q8,alw,may,beq_self_eq_true,decide_true];generalize Ka (Ql p a b).lo (Ql p a b).hi (-p.slack) p.slack p.damp.hi=b1;generalize Ka (Qk a b).lo (Qk a b).hi 0 p.loose p.damp.hi=b2;generalize Ka (Qj a b).lo (Qj a b).hi 0 p.loose p.damp.hi=b3;generalize Qw (Ql p a b).lo (Ql p a b).hi (-p.slack) p.slack p.damp.lo=b4;generalize Qw (Qk a b).lo (Qk a b).hi 0 p.loose p.damp.lo=b5;generalize Qw (Qj a b).lo (Qj a b).hi 0 p.loose p.damp.lo=b6;cases b1<;>cases b2<;>cases b3<;>cases b4<;>cases b5<;>cases b6<;>simp
 by_cases c2:b.kind=1∧a.kind=2
 ·obtain⟨hb,ha⟩:=c2;obtain⟨⟨q1,q2⟩,⟨q3,q4,q5⟩,q6,q7,q8⟩:=QMq h1 h3 h2 hb ha;rw[if_pos ha,if_pos hb,QD2];simp only[ha,hb,q1,q2,q3,q4,q5,q6,q7,q8,alw,may,beq_self_eq_true,decide_true];generalize Ka (Ql p b a).lo (Ql p b a).hi (-p.slack) p.slack p.damp.hi=b1;generalize Ka (Qk b a).lo (Qk b a).hi 0 p.loose p.damp.hi=b2;generalize Ka (Qj b a).lo (Qj b a).hi 0 p.loose p.damp.hi=b3;generalize Qw (Ql p b a).lo (Ql p b a).hi (-p.slack) p.slack p.damp.lo=b4;generalize Qw (Qk b a).lo (Qk b a).hi 0 p.loose p.damp.lo=b5;generalize Qw (Qj b a).lo (Qj b a).hi 0 p.loose p.damp.lo=b6
  cases b1<;>cases b2<;>cases b3<;>cases b4<;>cases b5<;>cases b6<;>simp
 have e0:(if a.kind=2 then (if b.kind=1 then ZQ p b a else 0)else if a.kind=1∧b.kind=2 then ZQ p a b else 0)=0:=by
  split
  ·rename_i ha;rw[if_neg (fun h=>c2 ⟨h,ha⟩)]
  ·rfl
 rw[e0];simp only[beq_iff_eq,beq_eq_false_iff_ne];refine⟨fun ha=>⟨fun hb=>absurd ⟨ha,hb⟩ c1,fun _=>⟨fun hb=>⟨fun h=>absurd ⟨hb,h⟩ c2,fun _=>trivial⟩,fun _=>trivial⟩⟩,fun _=>⟨fun hb=>⟨fun h=>absurd ⟨hb,h⟩ c2,fun _=>trivial⟩,fun _=>trivial⟩⟩
def QAy:Tab:=Qg QBp 89 QGv
theorem QOt:QZ QAy:=QOs.add QR4
def QM8:Qq×Edge×Edge×Unit→Bool×AV:=fun|(p,(a,(b,_)))=>(true,.tup [.int false .i64 (KQ p a b).1,.int false .i64 (KQ p a b).2])
def QOz:FC:=Q8 (KA QM8)
theorem QRV(p:Qq)(a:Edge)(b:Edge):Q5 (mkE Try.prog QAy) (hnd (mkE Try.prog QAy) 4) false Try.f69 (Qt.enc ((p,a,b,()):Qq×Edge×Edge×Unit)) [] 0 =
  QD.need (true) (QD.br (!p.ok) (QD.leaf (AV.tup [AV.int true i64 (0:Int),AV.int true i64 (1:Int)]) ([])) (QD.need (true) (QD.br (!a.ok) (QD.leaf
  (AV.tup [AV.int true i64 (0:Int),AV.int true i64 (1:Int)]) ([])) (QD.need (true) (QD.br (!b.ok) (QD.leaf (AV.tup [AV.int true i64 (0:Int),
  AV.int true i64 (1:Int)]) ([])) (QD.need (okP p a b) (QD.leaf (AV.tup [AV.int false i64 (Zd p a b),AV.int true i64 (0:Int)]) ([])))))))):=by kernel_rfl
theorem QZc:QP Try.prog 69 QOz:=by
 refine KN QOt 4 Try.func69 (by kernel_rfl) (by kernel_rfl) ?_
 rintro⟨p,a,b,⟨⟩⟩ hp;rw[QRV p a b];simp only[QM8,QD.den,AV.same,AV.sameL,and_true,true_and]at hp ⊢;unfold KQ okP;cases p.ok<;>cases a.ok<;>cases b.ok<;>simp
def H4:Tab:=Qg QAy 69 QOz
theorem QK2:QZ H4:=QOt.add QZc
end Go.Proofs.Ytbpffdkemeoajaa
