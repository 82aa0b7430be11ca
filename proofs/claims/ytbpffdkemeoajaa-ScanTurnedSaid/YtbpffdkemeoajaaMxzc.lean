/- - -/
import Derived.Test.YtbpffdkemeoajaaMxzb
import Derived.Test.YtbpffdkemeoajaaMxt
import Derived.Test.YtbpffdkemeoajaaMxp
open Go.IntKind (i64)
set_option maxRecDepth 100000
namespace Go.Proofs.Ytbpffdkemeoajaa
open Go.SX
def QK3(b:Nat)(f:Nat→Int)(k:Nat):Nat×Blk:=(b,.rowz true 3 [.int .i64] k fun i _=>f i)
variable (f:Nat→Int)(x:QD)(k k' n:Nat)
def VF(k:Nat):JSt:=⟨42,[(2,.slz 440 0 k (.of 0)),(6,.ptr 368 0 0),(27,.int false .i64 n),(28,.int false .i64 k)],[(368,.cells 1 95 (WE f)),QK3 440 f k],448⟩
def QEB:JSt:=⟨42,[(2,.slz 440 0 n (.of 0)),(6,.ptr 368 0 0)],[(368,.cells 1 95 (WE f)),QK3 440 f n],448⟩
def QJE:Ex→List Nat
 | .normal=>[2,6,27,28]
 | .exit _=>[2,6]
 | .ret=>[]
def GS(f:List Int)(a e:Int):AV := .tup [.slz 0 0 f.length (.of 0),.int false .i64 a,.int false .i64 e]
noncomputable abbrev V5:List AV:=
  [.nilp,.ptr 42 0 0,.slz 520 0 (k+1) cO,.ptr 368 0 0,vi (n:Int),vi (i64.wrap ((k:Int)+1))]
noncomputable abbrev Ky:Nat×Blk:=
  (368,.cells 1 95 [vi (f 0),vi (f 1),vi (f 2),vi (f 3),vi (f 4),vi (f 5),vi (f 6),
  .int false .i64 (f 7),vi (f 8),vi (f 9),vi (f 10),vi (f 11),vi (f 12)])
noncomputable abbrev QL0:List (Nat×Blk):=
  [(520,.rowz true 3 [.int .i64] (k+1) (QP k (fun i x=>f i) (QJ [[vi (f 10)]] 0))),(Ky f)]
noncomputable abbrev QGD:List (Nat×Blk):=
  [(520,.rowz true 3 [.int .i64] (k+1) (QP k (fun i x=>f i) (QJ [[vi (f 11)]] 0))),(Ky f)]
theorem QVs(n k:Nat)(g:Nat→Value):exec (mkF Try.prog Qy) (hnd (mkF Try.prog Qy) 3) (QZ Try.f20 0) (JSt.inst (VF f n k) g) (KW [] QJE) = .br (decide ((k:Int)<(n:Int))) (.need (decide ((0 :
  Int)≤(k:Int)∧(k:Int)<12)) (.br (decide ((k:Int)=0)) (.need (decide (k≤k)&&(true&&decide ((k+1+(k+1) / 4+192)*8≤281474976710656∧k+1 ≤
  9223372036854775807))) (.leaf (.tup (V5 k n)) ([(520,.rowz true 3 [.int .i64] (k+1) (QP k (fun i x=>f i) (QJ [[vi (f 0)]] 0))),(Ky f)]))) (.br (decide
  ((k:Int)=1)) (.need (decide (k≤k)&&(true&&decide ((k+1+(k+1) / 4+192)*8≤281474976710656∧k+1≤9223372036854775807))) (.leaf (.tup (V5 k n)) ([(520,.rowz
  true 3 [.int .i64] (k+1) (QP k (fun i x=>f i) (QJ [[vi (f 1)]] 0))),(Ky f)]))) (.br (decide ((k:Int)=2)) (.need (decide (k≤k)&&(true&&decide ((k +
  1+(k+1) / 4+192)*8≤281474976710656∧k+1≤9223372036854775807))) (.leaf (.tup (V5 k n)) ([(520,.rowz true 3 [.int .i64] (k+1) (QP k (fun i x=>f i) (QJ
  [[vi (f 2)]] 0))),(Ky f)]))) (.br (decide ((k:Int)=3)) (.need (decide (k≤k)&&(true&&decide ((k+1+(k+1) / 4+192)*8≤281474976710656∧k+1 ≤
  9223372036854775807))) (.leaf (.tup (V5 k n)) ([(520,.rowz true 3 [.int .i64] (k+1) (QP k (fun i x=>f i) (QJ [[vi (f 3)]] 0))),(Ky f)]))) (.br (decide
  ((k:Int)=4)) (.need (decide (k≤k)&&(true&&decide ((k+1+(k+1) / 4+192)*8≤281474976710656∧k+1≤9223372036854775807))) (.leaf (.tup (V5 k n)) ([(520,.rowz
  true 3 [.int .i64] (k+1) (QP k (fun i x=>f i) (QJ [[vi (f 4)]] 0))),(Ky f)]))) (.br (decide ((k:Int)=5)) (.need (decide (k≤k)&&(true&&decide ((k +
  1+(k+1) / 4+192)*8≤281474976710656∧k+1≤9223372036854775807))) (.leaf (.tup (V5 k n)) ([(520,.rowz true 3 [.int .i64] (k+1) (QP k (fun i x=>f i) (QJ
  [[vi (f 5)]] 0))),(Ky f)]))) (.br (decide ((k:Int)=6)) (.need (decide (k≤k)&&(true&&decide ((k+1+(k+1) / 4+192)*8≤281474976710656∧k+1 ≤
  9223372036854775807))) (.leaf (.tup (V5 k n)) ([(520,.rowz true 3 [.int .i64] (k+1) (QP k (fun i x=>f i) (QJ [[vi (f 6)]] 0))),(Ky f)]))) (.br (decide
  ((k:Int)=7)) (.need (decide (k≤k)&&(true&&decide ((k+1+(k+1) / 4+192)*8≤281474976710656∧k+1≤9223372036854775807))) (.leaf (.tup (V5 k n)) ([(520,.rowz
  true 3 [.int .i64] (k+1) (QP k (fun i x=>f i) (QJ [[vi (f 7)]] 0))),(Ky f)]))) (.br (decide ((k:Int)=8)) (.need (decide (k≤k)&&(true&&decide ((k +
  1+(k+1) / 4+192)*8≤281474976710656∧k+1≤9223372036854775807))) (.leaf (.tup (V5 k n)) ([(520,.rowz true 3 [.int .i64] (k+1) (QP k (fun i x=>f i) (QJ
  [[vi (f 8)]] 0))),(Ky f)]))) (.br (decide ((k:Int)=9)) (.need (decide (k≤k)&&(true&&decide ((k+1+(k+1) / 4+192)*8≤281474976710656∧k+1 ≤
  9223372036854775807))) (.leaf (.tup (V5 k n)) ([(520,.rowz true 3 [.int .i64] (k+1) (QP k (fun i x=>f i) (QJ [[vi (f 9)]] 0))),(Ky f)]))) (.br (decide
  ((k:Int)=10)) (.need (decide (k≤k)&&(true&&decide ((k+1+(k+1) / 4+192)*8≤281474976710656∧k+1≤9223372036854775807))) (.leaf (.tup (V5 k n)) ((QL0 f
  k)))) (.need (decide (k≤k)&&(true&&decide ((k+1+(k+1) / 4+192)*8≤281474976710656∧k+1≤9223372036854775807))) (.leaf (.tup (V5 k n)) ((QGD f
  k)))))))))))))))) (.leaf (.tup [.ptr 0 0 0,.ptr 42 0 0,.slz 440 0 k cO,.ptr 368 0 0]) ([(440,.rowz true 3 [.int .i64] k fun i x=>f i),(Ky f)])):=by kernel_rfl
theorem QTt(pb:List Prop→Bool)(x:QD)(e:Int):KY (mkE Try.prog (XK pb (opE x e))) (hnd (mkE Try.prog (XK pb (opE x e))) 1) Try.f20 (QS.vals 0 ((x,()):QD×Unit)) (QS.blks 0 ((x,()):QD×Unit)) 8 =
  QB.need (pb ([x.d.play.length = x.d.play.length, x.d.play.slack = x.d.play.slack, x.d.play.loose = x.d.play.loose, x.d.play.damp.lo = x.d.play.damp.lo, x.d.play.damp.hi = x.d.play.damp.hi, x.d.wide = x.d.wide, x.d.high = x.d.high, x.d.turn = x.d.turn, (0 : Nat) = (0 : Nat), x.d.ps.n = x.d.ps.n, Cap.of (0 : Nat) = Cap.of (0 : Nat), (0 : Nat) = (0 : Nat), x.scans.n = x.scans.n, Cap.of (0 : Nat) = Cap.of (0 : Nat), (0 : Nat) = (0 : Nat), x.hang.n = x.hang.n, Cap.of (0 : Nat) = Cap.of (0 : Nat), x.lost = x.lost, x.foreign = x.foreign, x.d.ps.n ≤ x.d.ps.n, QE (28 : Nat) x.d.ps.n (fun i => QA.enc (x.d.ps.get i)) fun i => QA.enc (x.d.ps.get i), x.scans.n ≤ x.scans.n, QE (28 : Nat) x.scans.n (fun i => QA.enc (x.scans.get i)) fun i => QA.enc (x.scans.get i), x.hang.n ≤ x.hang.n, QE (4 : Nat) x.hang.n (fun i => QA.enc (x.hang.get i)) fun i => QA.enc (x.hang.get i)])) (QB.br (e != (0 : Int)) (QB.leaf (AV.tup [AV.nils, AV.int true i64 (0 : Int), AV.int false i64 e]) ([])) (QB.fail ("a call without a contract"))) := by kernel_rfl
def j7(pb:List Prop→Bool)(x:QD)(C:List (List QC))(U:UC):Tab:=Qb (XK pb (opO x C)) 77 (VD pb U)
abbrev QCq(P:Program)(T:Tab)(f:Nat→Int)(n:Nat):Hnd:={ hnd (mkE P T) 8 with loop:=fun _=>KE 8 [] (VF f n (0:Nat)) [(True,.exit 0,QEB f n)] }
theorem QNq(pb:List Prop→Bool)(x:QD)(C:List (List QC))(has':Int→Bool)(many':Int)(f':Nat→Int):KY (mkE Try.prog (j7 pb x C (plU x C (Qi Try.f50 0).1 (Qi Try.f50 0).2 [] noH 0 (fun _=>0) has' many' f'))) (QCq Try.prog (j7 pb x C (plU x C (Qi Try.f50
  0).1 (Qi Try.f50 0).2 [] noH 0 (fun _=>0) has' many' f')) f' x.scans.n) Try.f20 (QS.vals 0 ((x,()):QD×Unit)) (QS.blks 0 ((x,()):QD×Unit)) 8 = .need (pb
  ([x.d.play.length=x.d.play.length,x.d.play.slack=x.d.play.slack,x.d.play.loose=x.d.play.loose,x.d.play.damp.lo=x.d.play.damp.lo,x.d.play.damp.hi=x.d.play.damp.hi,
  x.d.wide=x.d.wide,x.d.high=x.d.high,x.d.turn=x.d.turn,0=0,x.d.ps.n=x.d.ps.n,cO=cO,0=0,x.scans.n=x.scans.n,cO=cO,0=0,x.hang.n =
  x.hang.n,cO=cO,x.lost=x.lost,x.foreign=x.foreign,x.d.ps.n≤x.d.ps.n,QE 28 x.d.ps.n (fun i=>QA.enc (x.d.ps.get i)) fun i=>QA.enc (x.d.ps.get i),
  x.scans.n≤x.scans.n,QE 28 x.scans.n (fun i=>QA.enc (x.scans.get i)) fun i=>QA.enc (x.scans.get i),x.hang.n≤x.hang.n,QE 4 x.hang.n (fun i=>QA.enc
  (x.hang.get i)) fun i=>QA.enc (x.hang.get i)])) (.need (pb ([0=0,0=0,0=0,0=0,0=0,0=0,0=0,0=0,0=0,0=0,0=0,0=0,([]:List MapEntry)=[],
  He (.int true .i64 0) noH fun i => .int false .i64 (QM [] i),LoopState.ready=LoopState.ready,(none:Option Code)=none,Array.mk [12]=Array.mk [12],(Qi Try.f50
  0).1=(Qi Try.f50 0).1,(Qi Try.f50 0).2=(Qi Try.f50 0).2,0=0,0=0,(0:Int)=0,(0:Int)=0,(0:Int)=0,(0:Int)=0,(0:Int)=0,(0:Int)=0,(0
  : Int)=0,(0:Int)=0,(0:Int)=0,(0:Int)=0,(0:Int)=0,(0:Int)=0,(0:Int)=0,Fn.func 51=Fn.func 51,0=0,0=0,0=0,0=0,0=0,0=0,false =
  false,0=0,0=0,0=0,0=0,Fn.func 76=Fn.func 76,0=0,0=0,(0:Int)=0,(0:Int)=0,(0:Int)=0,(0:Int)=0,(0:Int)=0,(0:Int)=0,(0:Int)=0,(0
  : Int)=0,(0:Int)=0,(0:Int)=0,(0:Int)=0,(0:Int)=0,(0:Int)=0,(0:Int)=0,Fn.func 77=Fn.func 77,0=0,0=0,0=0,0=0,0=0,0=0,0=0,0 =
  0,0=0,0=0,0=0,0=0,Fn.func 51=Fn.func 51,x.d.play.length=x.d.play.length,x.d.play.slack=x.d.play.slack,x.d.play.loose=x.d.play.loose,x.d.play.damp.lo =
  x.d.play.damp.lo,x.d.play.damp.hi=x.d.play.damp.hi,x.d.wide=x.d.wide,x.d.high=x.d.high,x.d.turn=x.d.turn,0=0,x.d.ps.n=x.d.ps.n,cO=cO,0=0,
  x.scans.n=x.scans.n,cO=cO,0=0,x.hang.n=x.hang.n,cO=cO,x.lost=x.lost,x.foreign=x.foreign,0=0,C.length=C.length,cO=cO,
  C.length=C.length,Ku 2 C.length (fun i=>(QN C i).length) (fun i=>(QN C i).length) (fun i j=>QA.enc ((QN C i).getD j ⟨0,0⟩)) fun i j=>QA.enc ((QN C
  i).getD j ⟨0,0⟩),x.d.ps.n≤x.d.ps.n,QE 28 x.d.ps.n (fun i=>QA.enc (x.d.ps.get i)) fun i=>QA.enc (x.d.ps.get i),x.scans.n≤x.scans.n,QE 28 x.scans.n (fun i=>
  QA.enc (x.scans.get i)) fun i=>QA.enc (x.scans.get i),x.hang.n≤x.hang.n,QE 4 x.hang.n (fun i=>QA.enc (x.hang.get i)) fun i=>QA.enc (x.hang.get i)])) (.br
  (!decide (many'>0)) (.leaf (.tup [.nils,vj 0,vj 6]) ([])) (.ask (0=0) (.ask (0=0) (.ask (0=0) (.ask ((x.scans.n:Int)=(x.scans.n:Int)) (.ask
  ((0:Int)=0) (.ask (f' 0=f' 0) (.ask (f' 1=f' 1) (.ask (f' 2=f' 2) (.ask (f' 3=f' 3) (.ask (f' 4=f' 4) (.ask (f' 5=f' 5) (.ask (f' 6=f' 6) (.ask (f' 7=f' 7) (.ask
  (f' 8=f' 8) (.ask (f' 9=f' 9) (.ask (f' 10=f' 10) (.ask (f' 11=f' 11) (.ask (f' 12=f' 12) (.ask (0=0) (.asm (True) (.all (fun(g0:Nat→Value) => .leaf (.tup [.slz 440
  0 x.scans.n cO,vi (f' 12),vj 0]) ([(440,.rowz true 3 [.int .i64] x.scans.n fun i x=>f' i)]))))))))))))))))))))))))):=by kernel_rfl
noncomputable abbrev V1:List AV:=
  [.slz 520 0 (k+1) cO,.ptr 368 0 0,vi (n:Int),vi (i64.wrap ((k:Int)+1))]
abbrev XL:List Prop:=
  [0=0,k+1=k',cO=cO,0=0,0=0,(n:Int)=(n:Int),i64.wrap ((k:Int)+1)=(k':Int),f 0=f 0,f 1=f 1,f 2=f 2,f 3=f 3,f 4=f 4,f
  5=f 5,f 6=f 6,f 7=f 7,f 8=f 8,f 9=f 9,f 10=f 10,f 11=f 11,f 12=f 12]
theorem QTd(n k k':Nat):QO 8 (V1 k n) ([(520,.rowz true 3 [.int .i64] (k+1) (QP k (fun i x=>f i) (QJ [[vi (f 0)]] 0))),(Ky f)]) (VF f n k')=(some ((XL f k k' n)++[k'
  ≤ k+1,QE 1 k' (QP k (fun i x=>f i) (QJ [[vi (f 0)]] 0)) fun i x=>f i])):=by kernel_rfl
theorem QSQ(n k k':Nat):QO 8 (V1 k n) ([(520,.rowz true 3 [.int .i64] (k+1) (QP k (fun i x=>f i) (QJ [[vi (f 1)]] 0))),(Ky f)]) (VF f n k')=(some ((XL f k k' n)++[k'
  ≤ k+1,QE 1 k' (QP k (fun i x=>f i) (QJ [[vi (f 1)]] 0)) fun i x=>f i])):=by kernel_rfl
theorem QOZ(n k k':Nat):QO 8 (V1 k n) ([(520,.rowz true 3 [.int .i64] (k+1) (QP k (fun i x=>f i) (QJ [[vi (f 2)]] 0))),(Ky f)]) (VF f n k')=(some ((XL f k k' n)++[k'
  ≤ k+1,QE 1 k' (QP k (fun i x=>f i) (QJ [[vi (f 2)]] 0)) fun i x=>f i])):=by kernel_rfl
theorem QPw(n k k':Nat):QO 8 (V1 k n) ([(520,.rowz true 3 [.int .i64] (k+1) (QP k (fun i x=>f i) (QJ [[vi (f 3)]] 0))),(Ky f)]) (VF f n k')=(some ((XL f k k' n)++[k'
  ≤ k+1,QE 1 k' (QP k (fun i x=>f i) (QJ [[vi (f 3)]] 0)) fun i x=>f i])):=by kernel_rfl
theorem QN4(n k k':Nat):QO 8 (V1 k n) ([(520,.rowz true 3 [.int .i64] (k+1) (QP k (fun i x=>f i) (QJ [[vi (f 4)]] 0))),(Ky f)]) (VF f n k')=(some ((XL f k k' n)++[k'
  ≤ k+1,QE 1 k' (QP k (fun i x=>f i) (QJ [[vi (f 4)]] 0)) fun i x=>f i])):=by kernel_rfl
theorem QRl(n k k':Nat):QO 8 (V1 k n) ([(520,.rowz true 3 [.int .i64] (k+1) (QP k (fun i x=>f i) (QJ [[vi (f 5)]] 0))),(Ky f)]) (VF f n k')=(some ((XL f k k' n)++[k'
  ≤ k+1,QE 1 k' (QP k (fun i x=>f i) (QJ [[vi (f 5)]] 0)) fun i x=>f i])):=by kernel_rfl
theorem QUO(n k k':Nat):QO 8 (V1 k n) ([(520,.rowz true 3 [.int .i64] (k+1) (QP k (fun i x=>f i) (QJ [[vi (f 6)]] 0))),(Ky f)]) (VF f n k')=(some ((XL f k k' n)++[k'
  ≤ k+1,QE 1 k' (QP k (fun i x=>f i) (QJ [[vi (f 6)]] 0)) fun i x=>f i])):=by kernel_rfl
theorem QTB(n k k':Nat):QO 8 (V1 k n) ([(520,.rowz true 3 [.int .i64] (k+1) (QP k (fun i x=>f i) (QJ [[vi (f 7)]] 0))),(Ky f)]) (VF f n k')=(some ((XL f k k' n)++[k'
  ≤ k+1,QE 1 k' (QP k (fun i x=>f i) (QJ [[vi (f 7)]] 0)) fun i x=>f i])):=by kernel_rfl
theorem QNo(n k k':Nat):QO 8 (V1 k n) ([(520,.rowz true 3 [.int .i64] (k+1) (QP k (fun i x=>f i) (QJ [[vi (f 8)]] 0))),(Ky f)]) (VF f n k')=(some ((XL f k k' n)++[k'
  ≤ k+1,QE 1 k' (QP k (fun i x=>f i) (QJ [[vi (f 8)]] 0)) fun i x=>f i])):=by kernel_rfl
theorem QUx(n k k':Nat):QO 8 (V1 k n) ([(520,.rowz true 3 [.int .i64] (k+1) (QP k (fun i x=>f i) (QJ [[vi (f 9)]] 0))),(Ky f)]) (VF f n k')=(some ((XL f k k' n)++[k'
  ≤ k+1,QE 1 k' (QP k (fun i x=>f i) (QJ [[vi (f 9)]] 0)) fun i x=>f i])):=by kernel_rfl
theorem QOQ(n k k':Nat):QO 8 (V1 k n) ((QL0 f k)) (VF f n k')=(some ((XL f k k' n)++[k'≤k+1,QE 1 k' (QP k (fun i x=>f i) (QJ [[vi (f 10)]] 0)) fun i x=>f i])):=by kernel_rfl
theorem QM1(n k k':Nat):QO 8 (V1 k n) ((QGD f k)) (VF f n k')=(some ((XL f k k' n)++[k'≤k+1,QE 1 k' (QP k (fun i x=>f i) (QJ [[vi (f 11)]] 0)) fun i x=>f i])):=by kernel_rfl
theorem QTi(n k:Nat):QO 8 [AV.slz (440:Nat) (0:Nat) k (Cap.of (0:Nat)),AV.ptr (368:Nat) (0:Nat) (0:Nat)] ([((440:Nat),Blk.rowz true (3:Nat) [CK.int i64] k fun i x=>f i),((368:Nat),Blk.cells (1:Nat) (95:Nat) [AV.int false i64 (f (0:Nat)),AV.int false i64 (f (1:Nat)),AV.int false i64 (f (2:Nat)),AV.int false i64 (f (3:Nat)),AV.int false i64 (f (4:Nat)),AV.int false i64 (f (5:Nat)),AV.int false i64 (f (6:Nat)),AV.int false i64 (f (7:Nat)),AV.int false i64 (f (8:Nat)),AV.int false i64 (f (9:Nat)),AV.int false i64 (f (10:Nat)),AV.int false i64 (f (11:Nat)),AV.int false i64 (f (12:Nat))])]) (QEB f n)=(
  some [(0:Nat)=(0:Nat),k=n,Cap.of (0:Nat)=Cap.of (0:Nat),(0:Nat)=(0:Nat),(0:Nat)=(0:Nat),f (0:Nat)=f (0:Nat),f (1:Nat)=f (1:Nat),f (2 :
  Nat)=f (2:Nat),f (3:Nat)=f (3:Nat),f (4:Nat)=f (4:Nat),f (5:Nat)=f (5:Nat),f (6:Nat)=f (6:Nat),f (7:Nat)=f (7:Nat),f (8:Nat)=f (8:Nat),
  f (9:Nat)=f (9:Nat),f (10:Nat)=f (10:Nat),f (11:Nat)=f (11:Nat),f (12:Nat)=f (12:Nat),n≤k,QE (1:Nat) n (fun i x=>f i) fun i x=>f i]):=by kernel_rfl
theorem QOr(e:Int)(f:List Int)(a e':Int):QO 8 [(AV.tup [AV.nils,AV.int true i64 (0:Int),AV.int false i64 e])] ([]) (K0 8 (GS f a e') [Kf 3 0 f 0])=(
  some [f.length=(0:Nat),(0:Int)=a,e=e',f.length=(0:Nat)]):=by kernel_rfl
theorem QTV(f:List Int)(a e':Int):QO 8 [(AV.tup [AV.nils,AV.int true i64 (0:Int),AV.int true i64 (6:Int)])] ([]) (K0 8 (GS f a e') [Kf 3 0 f 0])=(
  some [f.length=(0:Nat),(0:Int)=a,(6:Int)=e',f.length=(0:Nat)]):=by kernel_rfl
theorem QSS(x:QD)(f':Nat→Int)(f:List Int)(a e':Int):QO 8 [(AV.tup [AV.slz (440:Nat) (0:Nat) x.scans.n (Cap.of (0:Nat)),AV.int false i64 (f' (12:Nat)),AV.int true i64 (0:Int)])] ([((440:Nat),Blk.rowz true (3:Nat) [CK.int i64] x.scans.n fun i x=>f' i)]) (K0 8 (GS f a e') [Kf 3 0 f 0])=(
  some [(0:Nat)=(0:Nat),x.scans.n=f.length,Cap.of (0:Nat)=Cap.of (0:Nat),f' (12:Nat)=a,(0:Int)=e',f.length≤x.scans.n,QE (1:Nat) f.length (fun i x
  => f' i) fun i=>QA.enc (f.getD i (0:Int))]):=by kernel_rfl
theorem V3:QE 1 (k+1) (QP k (fun i _=>f i) (QJ [[.int false .i64 (f k)]] 0)) (fun i _=>f i):=by
 intro i hi;show eqF 1 0 (QP k (fun i _=>f i) (QJ [[.int false .i64 (f k)]] 0) i) (fun _=>f i)
 by_cases h:i<k
 ·have e2:QP k (fun i _=>f i) (QJ [[.int false .i64 (f k)]] 0) i=fun _=>f i:=by funext j;rw[VC,if_pos h]
  rw[e2];exact qG _ _ _
 ·have q:i=k:=by omega
  subst q;have e2:QP i (fun i _=>f i) (QJ [[.int false .i64 (f i)]] 0) i=QJ [[.int false .i64 (f i)]] 0 0:=by funext j;rw[VC,if_neg h,Nat.sub_self]
  rw[e2];exact⟨rfl,trivial⟩
theorem QOc(hn:n≤12):JD (fun k=>VF f n k) (fun k=>k≤n) (fun k=>n-k) (fun _ e J=>e = .exit 0∧J=QEB f n) 8 QJE [] (mkF Try.prog Qy) (fun _=>hnd (mkF Try.prog Qy) 3) (QZ Try.f20 0):=by
 refine⟨fun k g hk=>KF (QVs f n k g) ?_⟩;refine QK (fun h => ?_) (fun h => ?_)
 ·have h:k<n:=by have:=qdt h;omega
  have hw:=Kr h (by omega:n≤1000)
  refine QF (by simp;omega) ?_
  refine QK (fun q => ?_) (fun q => ?_)
  ·refine QF (by simp;omega) ⟨k+1,h,by show n-(k+1)<n-k;omega,fun _ _ h=>h,rfl,rfl,_,QTd f n k (k+1),?_⟩
   obtain rfl:k=0:=by have:=qdt q;omega
   repeat' first|with_reducible refine Qc ?_ ?_|exact trivial|with_reducible rfl|exact qlr _|exact qRr|exact Q0 _ _ _ _|exact hw|exact V3 f 0|refine And.intro ?_ ?_
  have q0:¬ (k:Int)=0:=of_decide_eq_false q;clear q;refine QK (fun q => ?_) (fun q => ?_)
  ·refine QF (by simp;omega) ⟨k+1,h,by show n-(k+1)<n-k;omega,fun _ _ h=>h,rfl,rfl,_,QSQ f n k (k+1),?_⟩
   obtain rfl:k=1:=by have:=qdt q;omega
   repeat' first|with_reducible refine Qc ?_ ?_|exact trivial|with_reducible rfl|exact qlr _|exact qRr|exact Q0 _ _ _ _|exact hw|exact V3 f 1|refine And.intro ?_ ?_
  have q1:¬ (k:Int)=1:=of_decide_eq_false q;clear q;refine QK (fun q => ?_) (fun q => ?_)
  ·refine QF (by simp;omega) ⟨k+1,h,by show n-(k+1)<n-k;omega,fun _ _ h=>h,rfl,rfl,_,QOZ f n k (k+1),?_⟩
   obtain rfl:k=2:=by have:=qdt q;omega
   repeat' first|with_reducible refine Qc ?_ ?_|exact trivial|with_reducible rfl|exact qlr _|exact qRr|exact Q0 _ _ _ _|exact hw|exact V3 f 2|refine And.intro ?_ ?_
  have q2:¬ (k:Int)=2:=of_decide_eq_false q;clear q;refine QK (fun q => ?_) (fun q => ?_)
  ·refine QF (by simp;omega) ⟨k+1,h,by show n-(k+1)<n-k;omega,fun _ _ h=>h,rfl,rfl,_,QPw f n k (k+1),?_⟩
   obtain rfl:k=3:=by have:=qdt q;omega
   repeat' first|with_reducible refine Qc ?_ ?_|exact trivial|with_reducible rfl|exact qlr _|exact qRr|exact Q0 _ _ _ _|exact hw|exact V3 f 3|refine And.intro ?_ ?_
  have q3:¬ (k:Int)=3:=of_decide_eq_false q;clear q;refine QK (fun q => ?_) (fun q => ?_)
  ·refine QF (by simp;omega) ⟨k+1,h,by show n-(k+1)<n-k;omega,fun _ _ h=>h,rfl,rfl,_,QN4 f n k (k+1),?_⟩
   obtain rfl:k=4:=by have:=qdt q;omega
   repeat' first|with_reducible refine Qc ?_ ?_|exact trivial|with_reducible rfl|exact qlr _|exact qRr|exact Q0 _ _ _ _|exact hw|exact V3 f 4|refine And.intro ?_ ?_
  have q4:¬ (k:Int)=4:=of_decide_eq_false q;clear q;refine QK (fun q => ?_) (fun q => ?_)
  ·refine QF (by simp;omega) ⟨k+1,h,by show n-(k+1)<n-k;omega,fun _ _ h=>h,rfl,rfl,_,QRl f n k (k+1),?_⟩
   obtain rfl:k=5:=by have:=qdt q;omega
   repeat' first|with_reducible refine Qc ?_ ?_|exact trivial|with_reducible rfl|exact qlr _|exact qRr|exact Q0 _ _ _ _|exact hw|exact V3 f 5|refine And.intro ?_ ?_
  have q5:¬ (k:Int)=5:=of_decide_eq_false q;clear q;refine QK (fun q => ?_) (fun q => ?_)
  ·refine QF (by simp;omega) ⟨k+1,h,by show n-(k+1)<n-k;omega,fun _ _ h=>h,rfl,rfl,_,QUO f n k (k+1),?_⟩
   obtain rfl:k=6:=by have:=qdt q;omega
   repeat' first|with_reducible refine Qc ?_ ?_|exact trivial|with_reducible rfl|exact qlr _|exact qRr|exact Q0 _ _ _ _|exact hw|exact V3 f 6|refine And.intro ?_ ?_
  have q6:¬ (k:Int)=6:=of_decide_eq_false q;clear q;refine QK (fun q => ?_) (fun q => ?_)
  ·refine QF (by simp;omega) ⟨k+1,h,by show n-(k+1)<n-k;omega,fun _ _ h=>h,rfl,rfl,_,QTB f n k (k+1),?_⟩
   obtain rfl:k=7:=by have:=qdt q;omega
   repeat' first|with_reducible refine Qc ?_ ?_|exact trivial|with_reducible rfl|exact qlr _|exact qRr|exact Q0 _ _ _ _|exact hw|exact V3 f 7|refine And.intro ?_ ?_
  have q7:¬ (k:Int)=7:=of_decide_eq_false q;clear q;refine QK (fun q => ?_) (fun q => ?_)
  ·refine QF (by simp;omega) ⟨k+1,h,by show n-(k+1)<n-k;omega,fun _ _ h=>h,rfl,rfl,_,QNo f n k (k+1),?_⟩
   obtain rfl:k=8:=by have:=qdt q;omega
   repeat' first|with_reducible refine Qc ?_ ?_|exact trivial|with_reducible rfl|exact qlr _|exact qRr|exact Q0 _ _ _ _|exact hw|exact V3 f 8|refine And.intro ?_ ?_
  have q8:¬ (k:Int)=8:=of_decide_eq_false q;clear q;refine QK (fun q => ?_) (fun q => ?_)
  ·refine QF (by simp;omega) ⟨k+1,h,by show n-(k+1)<n-k;omega,fun _ _ h=>h,rfl,rfl,_,QUx f n k (k+1),?_⟩
   obtain rfl:k=9:=by have:=qdt q;omega
   repeat' first|with_reducible refine Qc ?_ ?_|exact trivial|with_reducible rfl|exact qlr _|exact qRr|exact Q0 _ _ _ _|exact hw|exact V3 f 9|refine And.intro ?_ ?_
  have q9:¬ (k:Int)=9:=of_decide_eq_false q;clear q;refine QK (fun q => ?_) (fun q => ?_)
  ·refine QF (by simp;omega) ⟨k+1,h,by show n-(k+1)<n-k;omega,fun _ _ h=>h,rfl,rfl,_,QOQ f n k (k+1),?_⟩
   obtain rfl:k=10:=by have:=qdt q;omega
   repeat' first|with_reducible refine Qc ?_ ?_|exact trivial|with_reducible rfl|exact qlr _|exact qRr|exact Q0 _ _ _ _|exact hw|exact V3 f 10|refine And.intro ?_ ?_
  have q10:¬ (k:Int)=10:=of_decide_eq_false q;clear q;refine QF (by simp;omega) ⟨k+1,h,by show n-(k+1)<n-k;omega,fun _ _ h=>h,rfl,rfl,_,QM1 f n k (k+1),?_⟩
  obtain rfl:k=11:=by omega
  repeat' first|with_reducible refine Qc ?_ ?_|exact trivial|with_reducible rfl|exact qlr _|exact qRr|exact Q0 _ _ _ _|exact hw|exact V3 f 11|refine And.intro ?_ ?_
 ·have:k=n:=by have:=of_decide_eq_false h;omega
  subst this;refine⟨_,⟨rfl,rfl⟩,rfl,rfl,_,QTi f k k,?_⟩
  repeat' first|with_reducible refine Qc ?_ ?_|exact trivial|with_reducible rfl|exact qlr _|exact qRr|exact Q0 _ _ _ _|refine And.intro ?_ ?_
theorem QUg{T:Tab}(hT:QV T)(f:Nat→Int)(n:Nat)(hn:n≤12)(G:Ctx)(hrd:G.rd=none)(hG:G.n=8):Q5 (mkE Try.prog T) G (QCq Try.prog T f n) (Qq Try.f20):=by
 refine JT (body:=QZ Try.f20 0) (QR hT) hrd (by kernel_rfl) ?_
 refine WM (E:=mkF Try.prog Qy) rfl (JX (n0:=8) (jJ KK) (by omega) (fun s hs=>Qv (jJ KK) 3 G _ hrd) (fun s hs=>(by decide:8≤448)) ?_ (QOc f n hn) (s0:=0) (Nat.zero_le _) ?_)
 ·rintro s e J ⟨_,rfl⟩;exact(by decide:8≤448)
 ·rintro e J ⟨rfl,rfl⟩;exact⟨_,List.mem_cons_self,trivial,rfl,rfl⟩
def QCh:Res PlS:=onT x (Qw x x.scans.n) plY x.scans.n [] (0,fun _=>0) noH
def QY:List Int×Int×Int:=match x.ok with
 | false=>([],0,1)
 | true=>match K7 x with
  | true=>([],0,11)
  | false=>match QCh x with
   | .stop s _ | .go s _=>match decide (s.1>0)with
    | false=>([],0,6)
    | true=>((List.range x.scans.n).map s.2,s.2 12,0)
def Xh:WF (QD×Unit):=fun|(x,_)=>(decide (x.d.ps.n≤1000∧x.scans.n≤1000∧x.hang.n≤1000),GS (QY x).1 (QY x).2.1 (QY x).2.2,[Kf 3 0 (QY x).1 0])
def QGY:FC:=wFC Xh
theorem QFx:WOk (Xh (x,())).2.1 (Xh (x,())).2.2:=⟨rfl,by simp[Xh,Kf,Blk.own,Blk.all],rfl⟩
theorem QLw(e:Int)(ht:QQ Try.prog 49 (uFC (opE x e)))(he:e≠0)(hv:QY x=([],0,e)):QQ Try.prog 20 (wFC (XA Xh (x,()))):=by
 have hT:QV (XK Qx (opE x e)):=KK.add ht;refine jw (c:=Qq Try.f20) (E:=mkE Try.prog (XK Qx (opE x e))) (H:=hnd (mkE Try.prog (XK Qx (opE x e))) 1) (QR hT) Try.func20 (by kernel_rfl) (by kernel_rfl) (N:=8) (by decide) (x,()) (fun G h1 _=>Qv (QR hT) 1 G _ h1) (QFx x) ?_
 refine KF (QTt Qx x e) ?_;refine QF (JS.2 ?_) (QK (fun _ => ?_) (fun h=>by simp at h;exact absurd h he))
 ·repeat' first|with_reducible refine Qc ?_ ?_|exact trivial|with_reducible rfl|exact qlr _|exact qRr|exact Q0 _ _ _ _|refine And.intro ?_ ?_
 ·simp only[Xh,hv];refine⟨rfl,rfl,_,QOr e [] 0 e,?_⟩
  repeat' first|with_reducible refine Qc ?_ ?_|exact trivial|with_reducible rfl|exact qlr _|exact qRr|exact Q0 _ _ _ _|exact rfl|refine And.intro ?_ ?_
theorem QQ7:QE 1 ((List.range n).map f).length (fun i _=>f i) (fun i=>QA.enc (((List.range n).map f).getD i (0:Int))):=by
 intro i hi;show eqF 1 0 (fun _=>f i) (QA.enc (((List.range n).map f).getD i (0:Int)));have hi:i<n:=by simpa using hi
 have:((List.range n).map f).getD i (0:Int)=f i:=by simp[List.getD_eq_getElem?_getD,hi]
 rw[this];exact⟨rfl,trivial⟩
theorem QVp(hs:Zq x)(hx:x.ok=true)(hr:K7 x=false):QQ Try.prog 20 (wFC (XA Xh (x,()))):=by
 have hg:=JU hx;have hss:=hg.s;have hC:=QLQ (x:=x) hg.d.n9;have hon:=QFR hg hC x.scans.n [] (0,fun _=>0) noH (by simp) (fun c hc=>by cases hc) trivial
 obtain⟨s,h,he⟩:=Z1 (C:=Qw x x.scans.n) (x:=x) (Y:=plY) (fun _ _=>rfl) x.scans.n [] (0,fun _=>0) noH;rw[he]at hon;have hT:QV (j7 Qx x (Qw x x.scans.n) (plU x (Qw x x.scans.n) XZ Xg [] noH 0 (fun _=>0) h s.1 s.2)):=(KK.add (QHU x hs hx hr)).add hon
 have hv:QY x=match decide (s.1>0)with
   | false=>([],0,6)
   | true=>((List.range x.scans.n).map s.2,s.2 12,0):=by
  simp only[QY,hx,hr,QCh,he]
 refine jw (c:=Qq Try.f20) (E:=mkE Try.prog (j7 Qx x (Qw x x.scans.n) (plU x (Qw x x.scans.n) XZ Xg [] noH 0 (fun _=>0) h s.1 s.2))) (H:=QCq Try.prog (j7 Qx x (Qw x x.scans.n) (plU x (Qw x x.scans.n) XZ Xg [] noH 0 (fun _=>0) h s.1 s.2)) s.2 x.scans.n) (QR hT) Try.func20 (by kernel_rfl) (by kernel_rfl) (N:=8) (by decide) (x,()) (fun G h1 h2=>QUg hT _ _ hss G h1 h2) (QFx x) ?_
 refine KF (QNq Qx x (Qw x x.scans.n) h s.1 s.2) ?_;refine QF (JS.2 ?_) (QF (JS.2 ?_) (QK (fun q => ?_) (fun q => ?_)))
 ·repeat' first|with_reducible refine Qc ?_ ?_|exact trivial|with_reducible rfl|exact qlr _|exact qRr|exact Q0 _ _ _ _|refine And.intro ?_ ?_
 ·repeat' first|with_reducible refine Qc ?_ ?_|exact trivial|with_reducible rfl|exact qlr _|exact qRr|exact Q0 _ _ _ _|exact QKb _|exact rfl|refine And.intro ?_ ?_
 ·have q:decide (s.1>0)=false:=by simpa using q
  simp only[Xh,hv,q];refine⟨rfl,rfl,_,QTV [] 0 6,?_⟩
  repeat' first|with_reducible refine Qc ?_ ?_|exact trivial|with_reducible rfl|exact qlr _|exact qRr|exact Q0 _ _ _ _|exact rfl|refine And.intro ?_ ?_
 ·have q:decide (s.1>0)=true:=by simpa using q
  repeat' first|refine Qa (p:=_=_) rfl ?_|refine Qa (p:=_≤_) (qlr _) ?_|refine Qa (p:=_≤_) (Nat.zero_le _) ?_|refine Qa (p:=QE _ _ _ _) (qRr) ?_|refine Qa (p:=QE _ _ _ _) (fun i hi=>absurd hi (Nat.not_lt_zero i)) ?_
  refine KQ fun _=>KN fun g => ?_;simp only[Xh,hv,q];refine⟨rfl,rfl,_,QSS x s.2 _ _ 0,?_⟩
  repeat' first|with_reducible refine Qc ?_ ?_|exact trivial|with_reducible rfl|exact qlr _|exact qRr|exact Q0 _ _ _ _|exact(by simp:x.scans.n=((List.range x.scans.n).map s.2).length)|exact(by simp:((List.range x.scans.n).map s.2).length≤x.scans.n)|exact QQ7 _ _|exact rfl|refine And.intro ?_ ?_
theorem QT4(hx:(Xh (x,())).1=true):QQ Try.prog 20 (wFC (XA Xh (x,()))):=by
 obtain⟨h1,h2,h3⟩:=qdt hx;have hs:Zq x:=⟨h1,h2,h3⟩;cases ho:x.ok with
 | false=>exact QLw x 1 (QJO x hs ho) (by decide) (by simp only[QY,ho])
 | true=>cases hr:K7 x with
  | true=>exact QLw x 11 (QLM x hs ho hr) (by decide) (by simp only[QY,ho,hr])
  | false=>exact QVp x hs ho hr
theorem QRH:QQ Try.prog 20 QGY:=QBl (by kernel_rfl) fun|(x,()),hx=>QT4 x hx
structure QFh where
 off:Sp
 wide:Sp
 deep:Sp
instance : Enc QFh where
  enc x := .agg [.int false .i64 x.off.lo,.int false .i64 x.off.hi,.int false .i64 x.wide.lo,.int false .i64 x.wide.hi,.int false .i64 x.deep.lo,.int false .i64 x.deep.hi]
  dec | .agg [.int _ .i64 a0,.int _ .i64 a1,.int _ .i64 a2,.int _ .i64 a3,.int _ .i64 a4,.int _ .i64 a5] => some ⟨⟨a0,a1⟩,⟨a2,a3⟩,⟨a4,a5⟩⟩ | _ => none
  ok v x h := by
    split at h <;> (try (cases h; done))
    simp only[qsI]at h; subst h; exact⟨fun _ => rfl,rfl⟩
theorem QPW{p:Ql}{t h:Edge}(hB:Qr.B ⟨p,t,h⟩):((-100000≤(Qe p t h).lo∧(Qe p t h).lo≤100000) ∧ -100000≤(Qe p t h).hi∧(Qe p t h).hi≤100000)∧((-100000≤(Qf t h).lo∧(Qf t h).lo≤100000) ∧ -100000≤(Qf t h).hi∧(Qf t h).hi≤100000) ∧
  ((-100000≤(Qd t h).lo∧(Qd t h).lo≤100000) ∧ -100000≤(Qd t h).hi∧(Qd t h).hi≤100000)∧(0≤p.damp.lo∧p.damp.lo≤100)∧0≤p.damp.hi∧p.damp.hi≤100:=by
 obtain⟨h1,h2,h3⟩:=hB;unfold Jh at h1;unfold Jd at h2 h3;simp only[Qe,Qf,Qd]at *;omega
def VX(s:Sp)(lo hi:Int)(d:Sp):Bool:=decide ((-100000≤s.lo∧s.lo≤100000)∧(-100000≤s.hi∧s.hi≤100000)∧(-500≤lo∧lo≤500)∧(-500≤hi∧hi≤500)∧0≤d.hi∧d.hi≤100)
def QHx:Int×Int×Int×Unit→Bool×AV:=fun|(n,(a,(b,_)))=>(true,.bool false (QX n a b))
def QHW:FC:=Q3 (Q1 QHx)
theorem QUo(n:Int)(a:Int)(b:Int):Qt (mkE Try.prog Wb) (hnd (mkE Try.prog Wb) 0) false Try.f79 (Qm.enc ((n,a,b,()):Int×Int×Int×Unit)) [] 0 =
  QB.br (decide (a≤n)) (QB.leaf (AV.bool false (decide (n≤b))) ([])) (QB.leaf (AV.bool true false) ([])):=by kernel_rfl
theorem QR1:QQ Try.prog 79 QHW:=by
 refine Q7 G8 0 Try.func79 (by kernel_rfl) (by kernel_rfl) ?_
 rintro⟨n,a,b,⟨⟩⟩ hp;rw[QUo n a b];simp only[QHx,QB.den,AV.same,AV.sameL,and_true,true_and]at hp ⊢
 (repeat' (first|(refine And.intro ?_ ?_)|(intro _)))<;>simp_all [QX]<;>omega
def QAJ:Tab:=Qb Wb 79 QHW
theorem QLN:QV QAJ:=G8.add QR1
def QKP:Sp×Int×Int×Unit→Bool×AV:=fun|(s,(a,(b,_)))=>(true,.bool false (s.isIn a b))
def QKv:FC:=Q3 (Q1 QKP)
theorem QV7(s:Sp)(a:Int)(b:Int):Qt (mkE Try.prog QAJ) (hnd (mkE Try.prog QAJ) 0) false Try.f80 (Qm.enc ((s,a,b,()):Sp×Int×Int×Unit)) [] 0 =
  QB.br (decide (a≤s.lo)) (QB.br (decide (s.lo≤s.hi)) (QB.leaf (AV.bool false (decide (s.hi≤b))) ([])) (QB.leaf (AV.bool true false) ([]))) (QB.leaf (AV.bool true
  false) ([])):=by kernel_rfl
theorem QSc:QQ Try.prog 80 QKv:=by
 refine Q7 QLN 0 Try.func80 (by kernel_rfl) (by kernel_rfl) ?_
 rintro⟨s,a,b,⟨⟩⟩ hp;rw[QV7 s a b];simp only[QKP,QB.den,AV.same,AV.sameL,and_true,true_and]at hp ⊢
 (repeat' (first|(refine And.intro ?_ ?_)|(intro _)))<;>simp_all [Sp.isIn]<;>omega
def GA:Tab:=Qb QAJ 80 QKv
theorem QEv:QV GA:=QLN.add QSc
def QJT:Edge×Unit→Bool×AV:=fun|(a,_)=>(true,.bool false a.ok)
def QFC:FC:=Q3 (Q1 QJT)
theorem QMn(a:Edge):Qt (mkE Try.prog GA) (hnd (mkE Try.prog GA) 0) false Try.f57 (Qm.enc ((a,()):Edge×Unit)) [] 0 =
  QB.br (a.kind==(0:Int)) (QB.leaf (AV.bool true true) ([])) (QB.need (true) (QB.br (QX a.kind (1:Int) (2:Int)) (QB.need (true) (QB.br (a.at_.isIn (0:Int)
  (10000:Int)) (QB.need (true) (QB.br (a.wide.isIn (1:Int) (3000:Int)) (QB.need (true) (QB.leaf (AV.bool false (a.deep.isIn (1:Int) (3000:Int))) ([]))) (QB.leaf
  (AV.bool true false) ([])))) (QB.leaf (AV.bool true false) ([])))) (QB.leaf (AV.bool true false) ([])))):=by kernel_rfl
theorem QQS:QQ Try.prog 57 QFC:=by
 refine Q7 QEv 0 Try.func57 (by kernel_rfl) (by kernel_rfl) ?_
 rintro⟨a,⟨⟩⟩ hp;rw[QMn a];simp only[QJT,QB.den,AV.same,AV.sameL,and_true,true_and]at hp ⊢
 have hw:QX a.kind 1 2=((a.kind==1)||(a.kind==2)):=by
  unfold QX;rw[Bool.eq_iff_iff];simp only[qdE,qbO,beq_iff_eq];omega
 simp only[hw];unfold Edge.ok;cases (a.kind==0)<;>cases ((a.kind==1)||(a.kind==2))<;>cases a.at_.isIn 0 10000<;>cases a.wide.isIn 1 3000<;>simp
def QAO:Tab:=Qb GA 57 QFC
theorem QMU:QV QAO:=QEv.add QQS
def QJs:Ql×Unit→Bool×AV:=fun|(p,_)=>(true,.bool false p.ok)
def QHg:FC:=Q3 (Q1 QJs)
theorem QP1(p:Ql):Qt (mkE Try.prog QAO) (hnd (mkE Try.prog QAO) 0) false Try.f67 (Qm.enc ((p,()):Ql×Unit)) [] 0 =
  QB.need (true) (QB.br (QX p.length (1:Int) (10000:Int)) (QB.need (true) (QB.br (QX p.slack (0:Int) (500:Int)) (QB.need (true) (QB.br (QX p.loose (0 :
  Int) (500:Int)) (QB.need (true) (QB.leaf (AV.bool false (p.damp.isIn (0:Int) (100:Int))) ([]))) (QB.leaf (AV.bool true false) ([])))) (QB.leaf (AV.bool true false)
  ([])))) (QB.leaf (AV.bool true false) ([]))):=by kernel_rfl
theorem QTx:QQ Try.prog 67 QHg:=by
 refine Q7 QMU 0 Try.func67 (by kernel_rfl) (by kernel_rfl) ?_
 rintro⟨p,⟨⟩⟩ hp;rw[QP1 p];simp only[QJs,QB.den,AV.same,AV.sameL,and_true,true_and]at hp ⊢
 (repeat' (first|(refine And.intro ?_ ?_)|(intro _)))<;>simp_all [Ql.ok]
def H5:Tab:=Qb QAO 67 QHg
theorem QF6:QV H5:=QMU.add QTx
def QJK:Ql×Edge×Edge×Unit→Bool×AV:=fun|(p,(t,(h,_)))=>(decide (Qr.B ⟨p,t,h⟩),Enc.enc (⟨Qe p t h,Qf t h,Qd t h⟩:QFh))
def QEg:FC:=Q3 (Q1 QJK)
theorem QPM(p:Ql)(t:Edge)(h:Edge):Qt (mkE Try.prog H5) (hnd (mkE Try.prog H5) 0) false Try.f104 (Qm.enc ((p,t,h,()):Ql×Edge×Edge×Unit)) [] 0 =
  QB.leaf (AV.agg [AV.int false i64 (i64.wrap (i64.wrap (t.at_.lo+h.at_.lo)-p.length)),AV.int false i64 (i64.wrap (i64.wrap
  (t.at_.hi+h.at_.hi)-p.length)),AV.int false i64 (i64.wrap (h.wide.lo-t.wide.hi)),AV.int false i64 (i64.wrap (h.wide.hi-t.wide.lo)),AV.int
  false i64 (i64.wrap (h.deep.lo-t.deep.hi)),AV.int false i64 (i64.wrap (h.deep.hi-t.deep.lo))]) ([]):=by kernel_rfl
theorem QRT:QQ Try.prog 104 QEg:=by
 refine Q7 QF6 0 Try.func104 (by kernel_rfl) (by kernel_rfl) ?_
 rintro⟨p,t,h,⟨⟩⟩ hp;rw[QPM p t h];simp only[QJK,QB.den,AV.same,AV.sameL,and_true,true_and]at hp ⊢;have hq:=qdt hp;obtain⟨h1,h2,h3⟩:=hq;unfold Jh at h1;unfold Jd at h2 h3;simp only at h1 h2 h3;simp only[Enc.enc,AV.same,AV.sameL,true_and,and_true,Qe,Qf,Qd];rw[w64 (n:=t.at_.lo+h.at_.lo) (by omega) (by omega),w64 (n:=t.at_.hi+h.at_.hi) (by omega) (by omega)]
 rw[w64 (by omega) (by omega),w64 (by omega) (by omega),w64 (by omega) (by omega),w64 (by omega) (by omega),w64 (by omega) (by omega),w64 (by omega) (by omega)]
 refine⟨?_,?_,?_,?_,?_,?_⟩<;>omega
def Gv:Tab:=Qb H5 104 QEg
theorem QFb:QV Gv:=QF6.add QRT
def QFa:Sp×Int×Int×Sp×Unit→Bool×AV:=fun|(s,(lo,(hi,(d,_))))=>(VX s lo hi d,.bool false (KO s.lo s.hi lo hi d.hi))
def QEG:FC:=Q3 (Q1 QFa)
theorem QPf(s:Sp)(lo:Int)(hi:Int)(d:Sp):Qt (mkE Try.prog Gv) (hnd (mkE Try.prog Gv) 0) false Try.f105 (Qm.enc ((s,lo,hi,d,()):Sp×Int×Int×Sp×Unit)) [] 0 =
  QB.br (decide (i64.wrap (s.lo*i64.wrap ((1000:Int)+d.hi))≥i64.wrap ((1000:Int)*lo))) (QB.leaf (AV.bool false (decide (i64.wrap (s.hi
  * i64.wrap ((1000:Int)+d.hi))≤i64.wrap ((1000:Int)*hi)))) ([])) (QB.leaf (AV.bool true false) ([])):=by kernel_rfl
theorem QWS:QQ Try.prog 105 QEG:=by
 refine Q7 QFb 0 Try.func105 (by kernel_rfl) (by kernel_rfl) ?_
 rintro⟨s,lo,hi,d,⟨⟩⟩ hp;rw[QPf s lo hi d];simp only[QFa,QB.den,AV.same,AV.sameL,and_true,true_and]at hp ⊢;have hq:=qdt hp;obtain⟨h1,h2,h3,h4,h5⟩:=hq;exact vB h1 h2 h3 h4 h5
def X5:Tab:=Qb Gv 105 QEG
theorem Wu:QV X5:=QFb.add QWS
structure KB where
 s:Sp
 d:Sp
 lo:Int
 hi:Int
 n:Int
def KB.I(x:KB):JSt:=⟨40,[(1,.int false .i64 x.lo),(2,.int false .i64 x.hi),(4,.ptr 0 0 0),(7,.ptr 8 0 0),(9,.int false .i64 x.n)],[(8,.cells 0 23 (Enc.enc x.d).cells),(0,.cells 0 23 (Enc.enc x.s).cells)],56⟩
def KB.pre(x:KB):Prop:=(-100000≤x.s.lo∧x.s.lo≤100000)∧(-100000≤x.s.hi∧x.s.hi≤100000)∧(-500≤x.lo∧x.lo≤0)∧(0≤x.hi∧x.hi≤500)∧(0≤x.d.lo∧x.d.lo≤100) ∧ -100000≤x.n∧x.n≤100001
def KB.good(x:KB)(n:Int):Prop:=n≤min x.s.hi x.hi∧1000*x.lo≤n*(1000+x.d.lo)∧n*(1000+x.d.lo)≤1000*x.hi
def KB.yes(x:KB):Prop:=∃ n,x.n≤n∧x.good n
def jk(x:KB)(e:Ex)(J:JSt):Prop:=(e = .ret∧J=⟨40,[(8,.bool true true)],[],0⟩∧x.yes)∨(e = .exit 0∧J=⟨40,[],[],0⟩∧¬ x.yes)
def Hi:Ex→List Nat
 | .normal=>[1,2,4,7,9]
 | .ret=>[8]
 | .exit _=>[]
def KB.mu(x:KB):Nat:=(min x.s.hi x.hi+1-x.n).toNat
def KB.next(x:KB):KB:={ x with n:=x.n+1 }
def Hm(x:KB):QB := .leaf (.tup [.nilp,.ptr 40 0 0,.int false .i64 x.lo,.int false .i64 x.hi,.ptr 0 0 0,.ptr 8 0 0,.int false .i64 (i64.wrap (x.n+1))]) [(8,.cells 0 23 (Enc.enc x.d).cells),(0,.cells 0 23 (Enc.enc x.s).cells)]
theorem QUa(x:KB)(g:Nat→Value):exec (mkE Try.prog X5) (hnd (mkE Try.prog X5) 0) (QZ Try.f106 0) (JSt.inst x.I g) (QAB Hi) =
  .br (decide (x.n ≤ min x.s.hi x.hi))
    (.br (decide (i64.wrap (x.n * i64.wrap (1000 + x.d.lo)) ≥ i64.wrap (1000 * x.lo)))
      (.br (decide (i64.wrap (x.n * i64.wrap (1000 + x.d.lo)) ≤ i64.wrap (1000 * x.hi)))
        (.leaf (.tup [.nili,.ptr 40 0 0,.bool true true]) [(8,.cells 0 23 (Enc.enc x.d).cells),(0,.cells 0 23 (Enc.enc x.s).cells)])
        (Hm x)) (Hm x))
    (.leaf (.tup [.ptr 0 0 0,.ptr 40 0 0]) [(8,.cells 0 23 (Enc.enc x.d).cells),(0,.cells 0 23 (Enc.enc x.s).cells)]) := by kernel_rfl
theorem QEh{x:KB}(h:x.pre):i64.wrap (x.n*i64.wrap (1000+x.d.lo))=x.n*(1000+x.d.lo)∧i64.wrap (1000*x.lo)=1000*x.lo∧i64.wrap (1000*x.hi)=1000*x.hi∧i64.wrap (x.n+1)=x.n+1:=by
 obtain⟨h1,h2,h3,h4,h5,h6,h7⟩:=h;have e:i64.wrap (1000+x.d.lo)=1000+x.d.lo:=w64 (by omega) (by omega)
 have m:=Int.mul_le_mul_of_nonneg_right h6 (show 0≤1000+x.d.lo by omega)
 have m':=Int.mul_le_mul_of_nonneg_right h7 (show 0≤1000+x.d.lo by omega)
 rw[e];exact⟨w64 (by omega) (by omega),w64 (by omega) (by omega),w64 (by omega) (by omega),w64 (by omega) (by omega)⟩
theorem QKe{x:KB}(hp:x.pre)(hn:x.n≤min x.s.hi x.hi)(hb:¬ (1000*x.lo≤x.n*(1000+x.d.lo)∧x.n*(1000+x.d.lo)≤1000*x.hi)):(Hm x).den (qk (QLK KB.I KB.pre KB.mu jk 0 Hi x) (Go.SX.Leaves jk 0 Hi x)):=by
 unfold Hm;rw[(QEh hp).2.2.2];refine⟨x.next,fun i=>i,?_,?_,?_,?_⟩
 ·obtain⟨h1,h2,h3,h4,h5,h6,h7⟩:=hp;refine⟨h1,h2,h3,h4,h5,?_,?_⟩<;>simp only[KB.next]<;>omega
 ·simp only[KB.mu,KB.next];omega
 ·intro e J hR
  have hy:x.next.yes↔x.yes:=by
   constructor
   ·rintro⟨n,h1,h2⟩;simp only[KB.next]at h1;exact⟨n,by omega,h2⟩
   ·rintro⟨n,h1,h2⟩;rcases(show n=x.n∨x.n+1≤n by omega)with rfl|h3
    ·exact absurd h2.2 hb
    ·exact⟨n,h3,h2⟩
  unfold jk at *;rw[hy]at hR;exact hR
 ·refine VQ.same rfl rfl ?_ ?_ rfl rfl
  ·exact⟨⟨rfl,rfl⟩,⟨rfl,rfl⟩,⟨rfl,rfl,rfl⟩,⟨rfl,rfl,rfl⟩,⟨rfl,rfl⟩,trivial⟩
  ·exact⟨⟨_,rfl,rfl,rfl,⟨rfl,rfl⟩,⟨rfl,rfl⟩,trivial⟩,⟨_,rfl,rfl,rfl,⟨rfl,rfl⟩,⟨rfl,rfl⟩,trivial⟩,trivial⟩
theorem QNY:QAs KB.I KB.pre KB.mu jk 0 Hi (mkE Try.prog X5) (hnd (mkE Try.prog X5) 0) (QZ Try.f106 0):=by
 intro x g hp;rw[QUa];obtain⟨e1,e2,e3,_⟩:=QEh hp;simp only[QB.den,e1,e2,e3,qdE,decide_eq_false_iff_not];refine⟨fun hn=>⟨fun h1=>⟨fun h2 => ?_,fun h2 => ?_⟩,fun h1 => ?_⟩,fun hn => ?_⟩
 ·exact⟨⟨40,[(8,.bool true true)],[],0⟩,fun i=>i,.inl ⟨rfl,rfl,x.n,Int.le_refl _,hn,h1,h2⟩,VQ.same rfl rfl ⟨rfl,trivial⟩ trivial rfl rfl⟩
 ·exact QKe hp hn (fun h=>h2 h.2)
 ·exact QKe hp hn (fun h=>h1 h.1)
 ·refine⟨⟨40,[],[],0⟩,fun i=>i,.inr ⟨rfl,rfl,?_⟩,VQ.same rfl rfl trivial trivial rfl rfl⟩;rintro⟨n,h1,h2,_⟩;omega
instance (x : KB) : Decidable x.pre := by unfold KB.pre; infer_instance
def YF:Code→St→(Ex→St→QB)→QB:=fun _ st K=>match st.tm.length==40&&VH st.hp,QG st.tm 1,QG st.tm 2,QG st.tm 4,QG st.tm 7,QG st.tm 9,Go.SX.look st.hp 8,Go.SX.look st.hp 0 with
 | true,.int _ .i64 lo,.int _ .i64 hi,.ptr 0 0 0,.ptr 8 0 0,.int _ .i64 n,some (.cells 0 23 [.int _ .i64 dlo,.int _ .i64 dhi]),some (.cells 0 23 [.int _ .i64 slo,.int _ .i64 shi])=>
  .need (decide (KB.pre ⟨⟨slo,shi⟩,⟨dlo,dhi⟩,lo,hi,n⟩)) (.both (.asm (KB.yes ⟨⟨slo,shi⟩,⟨dlo,dhi⟩,lo,hi,n⟩) (.all fun g=>K .ret (JSt.inst ⟨40,[(8,.bool true true)],[],0⟩ g)))
   (.asm (¬ KB.yes ⟨⟨slo,shi⟩,⟨dlo,dhi⟩,lo,hi,n⟩) (.all fun g=>K (.exit 0) (JSt.inst ⟨40,[],[],0⟩ g))))
 | _, _, _, _, _, _, _, _ => .fail "some"
theorem QWP(body:Code)(st:St)(K:Ex→St→QB)(T:AV→List (Nat×Blk)→Prop)(h:(YF body st K).den T):∃ s q ls',KB.pre s∧VQ 0 q ls' st.tm.length (ls'.map (QG st.tm)) st.hp (KB.I s)∧∀ e J g,jk s e J→(K e (J.inst g)).den T:=by
 unfold YF at h;split at h<;>(try (exact h.elim))
 rename_i k1 lo k2 hi k9 n kd dlo ke dhi ks slo kt shi c1 e1 e2 e4 e7 e9 h8 h0;simp only[QB.den,qdE]at h;rw[qbA]at c1;refine⟨⟨⟨slo,shi⟩,⟨dlo,dhi⟩,lo,hi,n⟩,fun i=>i,[1,2,4,7,9],h.1,VQ.same rfl ?_ ?_ ?_ rfl rfl ?_,?_⟩
 ·exact beq_iff_eq.1 c1.1
 ·simp only[List.map_cons,List.map_nil, *];exact⟨⟨rfl,rfl⟩,⟨rfl,rfl⟩,⟨rfl,rfl,rfl⟩,⟨rfl,rfl,rfl⟩,⟨rfl,rfl⟩,trivial⟩
 ·exact⟨⟨_,h8,rfl,rfl,⟨rfl,rfl⟩,⟨rfl,rfl⟩,trivial⟩,⟨_,h0,rfl,rfl,⟨rfl,rfl⟩,⟨rfl,rfl⟩,trivial⟩,trivial⟩
 ·exact c1.2
 ·rintro e J g (⟨rfl,rfl,hy⟩|⟨rfl,rfl,hy⟩)
  ·exact h.2.1 hy g
  ·exact h.2.2 hy g
theorem QSi(G:Ctx)(hG:G.n=0)(hrd:G.rd=none):Q5 (mkE Try.prog X5) G { hnd (mkE Try.prog X5) 0 with loop:=YF } (Qq Try.f106):=
 ⟨fun b hb=>by
  have e:Kg (Qq Try.f106)=[.loop (QZ Try.f106 0)]:=by kernel_rfl
  rw[e,List.mem_singleton]at hb;subst hb;exact QTF (QR Wu) (by omega) (Qv (QR Wu) 0 G _ hrd) (fun _=>Nat.zero_le _) QNY (fun st K T h=>QWP (QZ Try.f106 0) st K T h),(Qv (QR Wu) 0 G (Qq Try.f106) hrd).call,(Qv (QR Wu) 0 G (Qq Try.f106) hrd).yield⟩
def KT(s:Sp)(lo hi:Int)(d:Sp):Bool:=decide (s.lo≤s.hi∧(-100000≤s.lo∧s.lo≤100000)∧(-100000≤s.hi∧s.hi≤100000)∧(-500≤lo∧lo≤0)∧(0≤hi∧hi≤500)∧0≤d.lo∧d.lo≤100)
def QG7:Sp×Int×Int×Sp×Unit→Bool×AV:=fun|(s,(lo,(hi,(d,_))))=>(KT s lo hi d,.bool false (Qo s.lo s.hi lo hi d.lo))
def QLJ:FC:=Q3 (Q1 QG7)
theorem QRC(s:Sp)(lo:Int)(hi:Int)(d:Sp):Qt (mkE Try.prog X5) { hnd (mkE Try.prog X5) 0 with loop:=YF } false Try.f106 (Qm.enc ((s,lo,hi,d,()):Sp×Int×Int×Sp×Unit)) [] 0 =
  QB.need (decide (KB.mk s d lo hi (max s.lo lo)).pre) (QB.both (QB.asm ((KB.mk s d lo hi (max s.lo lo)).yes) (QB.all (fun(g0:Nat→Value)=>QB.leaf (AV.bool true
  true) ([])))) (QB.asm (¬(KB.mk s d lo hi (max s.lo lo)).yes) (QB.all (fun(g1:Nat→Value)=>QB.leaf (AV.bool true false) ([]))))):=by kernel_rfl
theorem QVn:QQ Try.prog 106 QLJ:=by
 refine QBg (QR Wu) Try.func106 (by kernel_rfl) (by kernel_rfl) QSi ?_
 rintro⟨s,lo,hi,d,⟨⟩⟩ hp;rw[QRC s lo hi d];simp only[QG7,QB.den,AV.same,AV.sameL,and_true,true_and]at hp ⊢;have hq:=qdt hp;obtain⟨h0,h1,h2,h3,h4,h5⟩:=hq;unfold KB.yes KB.good;refine⟨decide_eq_true ⟨h1,h2,h3,h4,h5,?_,?_⟩,?_,?_⟩
 ·show -100000≤max s.lo lo;omega
 ·show max s.lo lo≤100001;omega
 ·rintro⟨n,g1,g2,g3,g4⟩ _
  dsimp only at g1 g2 g3 g4
  exact(QUw (n:=n) (by omega) (by omega) (by omega) (by omega) (by omega) g3 g4).symm
 ·intro hn _
  dsimp only at hn
  refine(QQZ (by omega) (by omega) (by omega) h0 fun n g1 g2 g3=>hn ⟨n,g1,g2,g3⟩).symm
def HN:Tab:=Qb X5 106 QLJ
theorem QLl:QV HN:=Wu.add QVn
theorem QGN{p:Ql}{t h:Edge}(h1:p.ok=true)(h2:t.ok=true)(h3:h.ok=true)(ht:t.kind=1)(hh:h.kind=2):(Qr.B ⟨p,t,h⟩∧i64.wrap (0-p.slack) = -p.slack)∧(VX (Qe p t h) (-p.slack) p.slack p.damp=true∧VX (Qf t h) 0 p.loose p.damp=true∧VX (Qd t h) 0 p.loose p.damp=true) ∧
  KT (Qe p t h) (-p.slack) p.slack p.damp=true∧KT (Qf t h) 0 p.loose p.damp=true∧KT (Qd t h) 0 p.loose p.damp=true:=by
 have hB:=QC9 h1 h2 h3 ht hh;have hb:=QPW hB;have h1':=hB.1;unfold Jh at h1'
 have s2:(t.at_.lo≤t.at_.hi∧t.wide.lo≤t.wide.hi∧t.deep.lo≤t.deep.hi):=by
  unfold Edge.ok Sp.isIn at h2;simp[ht]at h2;omega
 have s3:(h.at_.lo≤h.at_.hi∧h.wide.lo≤h.wide.hi∧h.deep.lo≤h.deep.hi):=by
  unfold Edge.ok Sp.isIn at h3;simp[hh]at h3;omega
 obtain⟨o1,o2,o3,o4⟩:=hb;simp only at h1';have n1:(Qe p t h).lo≤(Qe p t h).hi:=by simp only[Qe];omega
 have n2:(Qf t h).lo≤(Qf t h).hi:=by simp only[Qf];omega
 have n3:(Qd t h).lo≤(Qd t h).hi:=by simp only[Qd];omega
 unfold VX KT;refine⟨⟨hB,?_⟩,⟨decide_eq_true ?_,decide_eq_true ?_,decide_eq_true ?_⟩,decide_eq_true ?_,decide_eq_true ?_,decide_eq_true ?_⟩
 ·rw[w64 (by omega) (by omega)];omega
 all_goals omega
def QL3:Ql×Edge×Edge×Unit→Bool×AV:=fun|(p,(a,(b,_)))=>(okP p a b,.int false .i64 (YS p a b))
def QIO:FC:=Q3 (Q1 QL3)
theorem QRx(p:Ql)(a:Edge)(b:Edge):Qt (mkE Try.prog HN) (hnd (mkE Try.prog HN) 4) false Try.f89 (Qm.enc ((p,a,b,()):Ql×Edge×Edge×Unit)) [] 0 = .br (a.kind==1) (.br (b.kind==2)
  (.need (decide (Qr.mk p a b).B) (.need (VX (Qe p a b) (i64.wrap ((0:Int)-p.slack)) p.slack p.damp) (.br (KO (Qe p a b).lo (Qe p a b).hi
  (i64.wrap ((0:Int)-p.slack)) p.slack p.damp.hi) (.need (VX (Qf a b) (0:Int) p.loose p.damp) (.br (KO (Qf a b).lo (Qf a b).hi (0:Int) p.loose
  p.damp.hi) (.need (VX (Qd a b) (0:Int) p.loose p.damp) (.br (KO (Qd a b).lo (Qd a b).hi (0:Int) p.loose p.damp.hi) (.leaf (.int true .i64 2) ([])) (.need
  (KT (Qe p a b) (i64.wrap ((0:Int)-p.slack)) p.slack p.damp) (.br (Qo (Qe p a b).lo (Qe p a b).hi (i64.wrap ((0:Int)-p.slack)) p.slack
  p.damp.lo) (.need (KT (Qf a b) (0:Int) p.loose p.damp) (.br (Qo (Qf a b).lo (Qf a b).hi (0:Int) p.loose p.damp.lo) (.need (KT (Qd a b) (0:Int)
  p.loose p.damp) (.br (Qo (Qd a b).lo (Qd a b).hi (0:Int) p.loose p.damp.lo) (.leaf (.int true .i64 1) ([])) (.leaf (.int true .i64 0) ([])))) (.leaf (.int true .i64
  0) ([])))) (.leaf (.int true .i64 0) ([])))))) (.need (KT (Qe p a b) (i64.wrap ((0:Int)-p.slack)) p.slack p.damp) (.br (Qo (Qe p a b).lo (Qe p a b).hi
  (i64.wrap ((0:Int)-p.slack)) p.slack p.damp.lo) (.need (KT (Qf a b) (0:Int) p.loose p.damp) (.br (Qo (Qf a b).lo (Qf a b).hi (0:Int) p.loose
  p.damp.lo) (.need (KT (Qd a b) (0:Int) p.loose p.damp) (.br (Qo (Qd a b).lo (Qd a b).hi (0:Int) p.loose p.damp.lo) (.leaf (.int true .i64 1) ([])) (.leaf
  (.int true .i64 0) ([])))) (.leaf (.int true .i64 0) ([])))) (.leaf (.int true .i64 0) ([])))))) (.need (KT (Qe p a b) (i64.wrap ((0:Int)-p.slack)) p.slack p.damp)
  (.br (Qo (Qe p a b).lo (Qe p a b).hi (i64.wrap ((0:Int)-p.slack)) p.slack p.damp.lo) (.need (KT (Qf a b) (0:Int) p.loose p.damp) (.br (Qo
  (Qf a b).lo (Qf a b).hi (0:Int) p.loose p.damp.lo) (.need (KT (Qd a b) (0:Int) p.loose p.damp) (.br (Qo (Qd a b).lo (Qd a b).hi (0:Int) p.loose
  p.damp.lo) (.leaf (.int true .i64 1) ([])) (.leaf (.int true .i64 0) ([])))) (.leaf (.int true .i64 0) ([])))) (.leaf (.int true .i64 0) ([]))))))) (.br (b.kind==1) (.br (a.kind
  == 2) (.need (decide (Qr.mk p b a).B) (.need (VX (Qe p b a) (i64.wrap ((0:Int)-p.slack)) p.slack p.damp) (.br (KO (Qe p b a).lo (Qe p b a).hi
  (i64.wrap ((0:Int)-p.slack)) p.slack p.damp.hi) (.need (VX (Qf b a) (0:Int) p.loose p.damp) (.br (KO (Qf b a).lo (Qf b a).hi (0:Int) p.loose
  p.damp.hi) (.need (VX (Qd b a) (0:Int) p.loose p.damp) (.br (KO (Qd b a).lo (Qd b a).hi (0:Int) p.loose p.damp.hi) (.leaf (.int true .i64 2) ([])) (.need
  (KT (Qe p b a) (i64.wrap ((0:Int)-p.slack)) p.slack p.damp) (.br (Qo (Qe p b a).lo (Qe p b a).hi (i64.wrap ((0:Int)-p.slack)) p.slack
  p.damp.lo) (.need (KT (Qf b a) (0:Int) p.loose p.damp) (.br (Qo (Qf b a).lo (Qf b a).hi (0:Int) p.loose p.damp.lo) (.need (KT (Qd b a) (0:Int)
  p.loose p.damp) (.br (Qo (Qd b a).lo (Qd b a).hi (0:Int) p.loose p.damp.lo) (.leaf (.int true .i64 1) ([])) (.leaf (.int true .i64 0) ([])))) (.leaf (.int true .i64
  0) ([])))) (.leaf (.int true .i64 0) ([])))))) (.need (KT (Qe p b a) (i64.wrap ((0:Int)-p.slack)) p.slack p.damp) (.br (Qo (Qe p b a).lo (Qe p b a).hi
  (i64.wrap ((0:Int)-p.slack)) p.slack p.damp.lo) (.need (KT (Qf b a) (0:Int) p.loose p.damp) (.br (Qo (Qf b a).lo (Qf b a).hi (0:Int) p.loose
  p.damp.lo) (.need (KT (Qd b a) (0:Int) p.loose p.damp) (.br (Qo (Qd b a).lo (Qd b a).hi (0:Int) p.loose p.damp.lo) (.leaf (.int true .i64 1) ([])) (.leaf
  (.int true .i64 0) ([])))) (.leaf (.int true .i64 0) ([])))) (.leaf (.int true .i64 0) ([])))))) (.need (KT (Qe p b a) (i64.wrap ((0:Int)-p.slack)) p.slack p.damp)
  (.br (Qo (Qe p b a).lo (Qe p b a).hi (i64.wrap ((0:Int)-p.slack)) p.slack p.damp.lo) (.need (KT (Qf b a) (0:Int) p.loose p.damp) (.br (Qo
  (Qf b a).lo (Qf b a).hi (0:Int) p.loose p.damp.lo) (.need (KT (Qd b a) (0:Int) p.loose p.damp) (.br (Qo (Qd b a).lo (Qd b a).hi (0:Int) p.loose
  p.damp.lo) (.leaf (.int true .i64 1) ([])) (.leaf (.int true .i64 0) ([])))) (.leaf (.int true .i64 0) ([])))) (.leaf (.int true .i64 0) ([]))))))) (.leaf (.int true .i64 0) ([])))
  (.leaf (.int true .i64 0) ([])))) (.br (b.kind==1) (.br (a.kind==2) (.need (decide (Qr.mk p b a).B) (.need (VX (Qe p b a) (i64.wrap ((0:Int)-p.slack))
  p.slack p.damp) (.br (KO (Qe p b a).lo (Qe p b a).hi (i64.wrap ((0:Int)-p.slack)) p.slack p.damp.hi) (.need (VX (Qf b a) (0:Int) p.loose p.damp) (.br
  (KO (Qf b a).lo (Qf b a).hi (0:Int) p.loose p.damp.hi) (.need (VX (Qd b a) (0:Int) p.loose p.damp) (.br (KO (Qd b a).lo (Qd b a).hi (0:Int)
  p.loose p.damp.hi) (.leaf (.int true .i64 2) ([])) (.need (KT (Qe p b a) (i64.wrap ((0:Int)-p.slack)) p.slack p.damp) (.br (Qo (Qe p b a).lo (Qe p b
  a).hi (i64.wrap ((0:Int)-p.slack)) p.slack p.damp.lo) (.need (KT (Qf b a) (0:Int) p.loose p.damp) (.br (Qo (Qf b a).lo (Qf b a).hi (0:Int)
  p.loose p.damp.lo) (.need (KT (Qd b a) (0:Int) p.loose p.damp) (.br (Qo (Qd b a).lo (Qd b a).hi (0:Int) p.loose p.damp.lo) (.leaf (.int true .i64 1) ([]))
  (.leaf (.int true .i64 0) ([])))) (.leaf (.int true .i64 0) ([])))) (.leaf (.int true .i64 0) ([])))))) (.need (KT (Qe p b a) (i64.wrap ((0:Int)-p.slack)) p.slack
  p.damp) (.br (Qo (Qe p b a).lo (Qe p b a).hi (i64.wrap ((0:Int)-p.slack)) p.slack p.damp.lo) (.need (KT (Qf b a) (0:Int) p.loose p.damp) (.br
  (Qo (Qf b a).lo (Qf b a).hi (0:Int) p.loose p.damp.lo) (.need (KT (Qd b a) (0:Int) p.loose p.damp) (.br (Qo (Qd b a).lo (Qd b a).hi (0:Int)
  p.loose p.damp.lo) (.leaf (.int true .i64 1) ([])) (.leaf (.int true .i64 0) ([])))) (.leaf (.int true .i64 0) ([])))) (.leaf (.int true .i64 0) ([])))))) (.need (KT (Qe p b
  a) (i64.wrap ((0:Int)-p.slack)) p.slack p.damp) (.br (Qo (Qe p b a).lo (Qe p b a).hi (i64.wrap ((0:Int)-p.slack)) p.slack p.damp.lo) (.need
  (KT (Qf b a) (0:Int) p.loose p.damp) (.br (Qo (Qf b a).lo (Qf b a).hi (0:Int) p.loose p.damp.lo) (.need (KT (Qd b a) (0:Int) p.loose p.damp) (.br
  (Qo (Qd b a).lo (Qd b a).hi (0:Int) p.loose p.damp.lo) (.leaf (.int true .i64 1) ([])) (.leaf (.int true .i64 0) ([])))) (.leaf (.int true .i64 0) ([])))) (.leaf
  (.int true .i64 0) ([]))))))) (.leaf (.int true .i64 0) ([]))) (.leaf (.int true .i64 0) ([]))):=by kernel_rfl
theorem QR2:QQ Try.prog 89 QIO:=by
 refine Q7 QLl 4 Try.func89 (by kernel_rfl) (by kernel_rfl) ?_
 rintro⟨p,a,b,⟨⟩⟩ hp;rw[QRx p a b];simp only[QL3,QB.den,AV.same,AV.sameL,and_true,true_and]at hp ⊢;unfold okP at hp;simp only[qbA]at hp;obtain⟨h1,h2,h3⟩:=hp;unfold YS
 by_cases c1:a.kind=1∧b.kind=2
 ·obtain⟨ha,hb⟩:=c1;obtain⟨⟨q1,q2⟩,⟨q3,q4,q5⟩,q6,q7,q8⟩:=QGN h1 h2 h3 ha hb;rw[if_neg (by omega),if_pos ⟨ha,hb⟩,QCU]
  simp only[ha,hb,q1,q2,q3,q4,q5,q6,q7,q8,alw,may,beq_self_eq_true,decide_true];generalize KO (Qe p a b).lo (Qe p a b).hi (-p.slack) p.slack p.damp.hi=b1;generalize KO (Qf a b).lo (Qf a b).hi 0 p.loose p.damp.hi=b2;generalize KO (Qd a b).lo (Qd a b).hi 0 p.loose p.damp.hi=b3;generalize Qo (Qe p a b).lo (Qe p a b).hi (-p.slack) p.slack p.damp.lo=b4;generalize Qo (Qf a b).lo (Qf a b).hi 0 p.loose p.damp.lo=b5;generalize Qo (Qd a b).lo (Qd a b).hi 0 p.loose p.damp.lo=b6;cases b1<;>cases b2<;>cases b3<;>cases b4<;>cases b5<;>cases b6<;>simp
 by_cases c2:b.kind=1∧a.kind=2
 ·obtain⟨hb,ha⟩:=c2;obtain⟨⟨q1,q2⟩,⟨q3,q4,q5⟩,q6,q7,q8⟩:=QGN h1 h3 h2 hb ha;rw[if_pos ha,if_pos hb,QCU];simp only[ha,hb,q1,q2,q3,q4,q5,q6,q7,q8,alw,may,beq_self_eq_true,decide_true];generalize KO (Qe p b a).lo (Qe p b a).hi (-p.slack) p.slack p.damp.hi=b1;generalize KO (Qf b a).lo (Qf b a).hi 0 p.loose p.damp.hi=b2;generalize KO (Qd b a).lo (Qd b a).hi 0 p.loose p.damp.hi=b3;generalize Qo (Qe p b a).lo (Qe p b a).hi (-p.slack) p.slack p.damp.lo=b4;generalize Qo (Qf b a).lo (Qf b a).hi 0 p.loose p.damp.lo=b5;generalize Qo (Qd b a).lo (Qd b a).hi 0 p.loose p.damp.lo=b6
  cases b1<;>cases b2<;>cases b3<;>cases b4<;>cases b5<;>cases b6<;>simp
 have e0:(if a.kind=2 then (if b.kind=1 then YQ p b a else 0)else if a.kind=1∧b.kind=2 then YQ p a b else 0)=0:=by
  split
  ·rename_i ha;rw[if_neg (fun h=>c2 ⟨h,ha⟩)]
  ·rfl
 rw[e0];simp only[beq_iff_eq,beq_eq_false_iff_ne];refine⟨fun ha=>⟨fun hb=>absurd ⟨ha,hb⟩ c1,fun _=>⟨fun hb=>⟨fun h=>absurd ⟨hb,h⟩ c2,fun _=>trivial⟩,fun _=>trivial⟩⟩,fun _=>⟨fun hb=>⟨fun h=>absurd ⟨hb,h⟩ c2,fun _=>trivial⟩,fun _=>trivial⟩⟩
def Gp:Tab:=Qb HN 89 QIO
theorem QJC:QV Gp:=QLl.add QR2
def QLe:Ql×Edge×Edge×Unit→Bool×AV:=fun|(p,(a,(b,_)))=>(true,.tup [.int false .i64 (KA p a b).1,.int false .i64 (KA p a b).2])
def QId:FC:=Q3 (Q1 QLe)
theorem QQd(p:Ql)(a:Edge)(b:Edge):Qt (mkE Try.prog Gp) (hnd (mkE Try.prog Gp) 4) false Try.f69 (Qm.enc ((p,a,b,()):Ql×Edge×Edge×Unit)) [] 0 =
  QB.need (true) (QB.br (!p.ok) (QB.leaf (AV.tup [AV.int true i64 (0:Int),AV.int true i64 (1:Int)]) ([])) (QB.need (true) (QB.br (!a.ok) (QB.leaf
  (AV.tup [AV.int true i64 (0:Int),AV.int true i64 (1:Int)]) ([])) (QB.need (true) (QB.br (!b.ok) (QB.leaf (AV.tup [AV.int true i64 (0:Int),
  AV.int true i64 (1:Int)]) ([])) (QB.need (okP p a b) (QB.leaf (AV.tup [AV.int false i64 (YS p a b),AV.int true i64 (0:Int)]) ([])))))))):=by kernel_rfl
theorem QUK:QQ Try.prog 69 QId:=by
 refine Q7 QJC 4 Try.func69 (by kernel_rfl) (by kernel_rfl) ?_
 rintro⟨p,a,b,⟨⟩⟩ hp;rw[QQd p a b];simp only[QLe,QB.den,AV.same,AV.sameL,and_true,true_and]at hp ⊢;unfold KA okP;cases p.ok<;>cases a.ok<;>cases b.ok<;>simp
def GL:Tab:=Qb Gp 69 QId
theorem QGV:QV GL:=QJC.add QUK
end Go.Proofs.Ytbpffdkemeoajaa
