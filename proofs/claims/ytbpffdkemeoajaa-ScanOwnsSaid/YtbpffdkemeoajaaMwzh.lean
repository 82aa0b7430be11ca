/- - -/
import Derived.Test.YtbpffdkemeoajaaMwzg
import Derived.Test.YtbpffdkemeoajaaMwt
import Derived.Test.YtbpffdkemeoajaaMwp
open Go.IntKind (i64)
set_option maxRecDepth 100000
namespace Go.Proofs.Ytbpffdkemeoajaa
open Go.SX
def QNl(b:Nat)(f:Nat→Int)(k:Nat):Nat×Blk:=(b,.rowz true 3 [.int .i64] k fun i _=>f i)
variable (f:Nat→Int)(x:QE)(k k' n:Nat)
def Vm(k:Nat):JSt:=⟨42,[(2,.slz 440 0 k (.of 0)),(6,.ptr 368 0 0),(27,.int false .i64 n),(28,.int false .i64 k)],[(368,.cells 1 95 (qZ f)),QNl 440 f k],448⟩
def QFz:JSt:=⟨42,[(2,.slz 440 0 n (.of 0)),(6,.ptr 368 0 0)],[(368,.cells 1 95 (qZ f)),QNl 440 f n],448⟩
def QGi:Ex→List Nat
 | .normal=>[2,6,27,28]
 | .exit _=>[2,6]
 | .ret=>[]
def HO(f:List Int)(a e:Int):AV := .tup [.slz 0 0 f.length (.of 0),.int false .i64 a,.int false .i64 e]
noncomputable abbrev Xw:List AV:=
  [.nilp,.ptr 42 0 0,.slz 520 0 (k+1) cO,.ptr 368 0 0,vi (n:Int),vi (i64.wrap ((k:Int)+1))]
noncomputable abbrev JT:Nat×Blk:=
  (368,.cells 1 95 [vi (f 0),vi (f 1),vi (f 2),vi (f 3),vi (f 4),vi (f 5),vi (f 6),
  .int false .i64 (f 7),vi (f 8),vi (f 9),vi (f 10),vi (f 11),vi (f 12)])
noncomputable abbrev QOr:List (Nat×Blk):=
  [(520,.rowz true 3 [.int .i64] (k+1) (Qa k (fun i x=>f i) (QS [[vi (f 10)]] 0))),(JT f)]
noncomputable abbrev QH6:List (Nat×Blk):=
  [(520,.rowz true 3 [.int .i64] (k+1) (Qa k (fun i x=>f i) (QS [[vi (f 11)]] 0))),(JT f)]
theorem QZ0(n k:Nat)(g:Nat→Value):exec (mkF Try.prog Qj) (hnd (mkF Try.prog Qj) 3) (QW Try.f20 0) (JSt.inst (Vm f n k) g) (KF [] QGi) = .br (decide ((k:Int)<(n:Int))) (.need (decide ((0 :
  Int)≤(k:Int)∧(k:Int)<12)) (.br (decide ((k:Int)=0)) (.need (decide (k≤k)&&(true&&decide ((k+1+(k+1) / 4+192)*8≤281474976710656∧k+1 ≤
  9223372036854775807))) (.leaf (.tup (Xw k n)) ([(520,.rowz true 3 [.int .i64] (k+1) (Qa k (fun i x=>f i) (QS [[vi (f 0)]] 0))),(JT f)]))) (.br (decide
  ((k:Int)=1)) (.need (decide (k≤k)&&(true&&decide ((k+1+(k+1) / 4+192)*8≤281474976710656∧k+1≤9223372036854775807))) (.leaf (.tup (Xw k n)) ([(520,.rowz
  true 3 [.int .i64] (k+1) (Qa k (fun i x=>f i) (QS [[vi (f 1)]] 0))),(JT f)]))) (.br (decide ((k:Int)=2)) (.need (decide (k≤k)&&(true&&decide ((k +
  1+(k+1) / 4+192)*8≤281474976710656∧k+1≤9223372036854775807))) (.leaf (.tup (Xw k n)) ([(520,.rowz true 3 [.int .i64] (k+1) (Qa k (fun i x=>f i) (QS
  [[vi (f 2)]] 0))),(JT f)]))) (.br (decide ((k:Int)=3)) (.need (decide (k≤k)&&(true&&decide ((k+1+(k+1) / 4+192)*8≤281474976710656∧k+1 ≤
  9223372036854775807))) (.leaf (.tup (Xw k n)) ([(520,.rowz true 3 [.int .i64] (k+1) (Qa k (fun i x=>f i) (QS [[vi (f 3)]] 0))),(JT f)]))) (.br (decide
  ((k:Int)=4)) (.need (decide (k≤k)&&(true&&decide ((k+1+(k+1) / 4+192)*8≤281474976710656∧k+1≤9223372036854775807))) (.leaf (.tup (Xw k n)) ([(520,.rowz
  true 3 [.int .i64] (k+1) (Qa k (fun i x=>f i) (QS [[vi (f 4)]] 0))),(JT f)]))) (.br (decide ((k:Int)=5)) (.need (decide (k≤k)&&(true&&decide ((k +
  1+(k+1) / 4+192)*8≤281474976710656∧k+1≤9223372036854775807))) (.leaf (.tup (Xw k n)) ([(520,.rowz true 3 [.int .i64] (k+1) (Qa k (fun i x=>f i) (QS
  [[vi (f 5)]] 0))),(JT f)]))) (.br (decide ((k:Int)=6)) (.need (decide (k≤k)&&(true&&decide ((k+1+(k+1) / 4+192)*8≤281474976710656∧k+1 ≤
  9223372036854775807))) (.leaf (.tup (Xw k n)) ([(520,.rowz true 3 [.int .i64] (k+1) (Qa k (fun i x=>f i) (QS [[vi (f 6)]] 0))),(JT f)]))) (.br (decide
  ((k:Int)=7)) (.need (decide (k≤k)&&(true&&decide ((k+1+(k+1) / 4+192)*8≤281474976710656∧k+1≤9223372036854775807))) (.leaf (.tup (Xw k n)) ([(520,.rowz
  true 3 [.int .i64] (k+1) (Qa k (fun i x=>f i) (QS [[vi (f 7)]] 0))),(JT f)]))) (.br (decide ((k:Int)=8)) (.need (decide (k≤k)&&(true&&decide ((k +
  1+(k+1) / 4+192)*8≤281474976710656∧k+1≤9223372036854775807))) (.leaf (.tup (Xw k n)) ([(520,.rowz true 3 [.int .i64] (k+1) (Qa k (fun i x=>f i) (QS
  [[vi (f 8)]] 0))),(JT f)]))) (.br (decide ((k:Int)=9)) (.need (decide (k≤k)&&(true&&decide ((k+1+(k+1) / 4+192)*8≤281474976710656∧k+1 ≤
  9223372036854775807))) (.leaf (.tup (Xw k n)) ([(520,.rowz true 3 [.int .i64] (k+1) (Qa k (fun i x=>f i) (QS [[vi (f 9)]] 0))),(JT f)]))) (.br (decide
  ((k:Int)=10)) (.need (decide (k≤k)&&(true&&decide ((k+1+(k+1) / 4+192)*8≤281474976710656∧k+1≤9223372036854775807))) (.leaf (.tup (Xw k n)) ((QOr f
  k)))) (.need (decide (k≤k)&&(true&&decide ((k+1+(k+1) / 4+192)*8≤281474976710656∧k+1≤9223372036854775807))) (.leaf (.tup (Xw k n)) ((QH6 f
  k)))))))))))))))) (.leaf (.tup [.ptr 0 0 0,.ptr 42 0 0,.slz 440 0 k cO,.ptr 368 0 0]) ([(440,.rowz true 3 [.int .i64] k fun i x=>f i),(JT f)])):=by kernel_rfl
theorem QRK(pb:List Prop→Bool)(x:QE)(e:Int):KR (mkE Try.prog (Ka pb (opE x e))) (hnd (mkE Try.prog (Ka pb (opE x e))) 1) Try.f20 (QX.vals 0 ((x,()):QE×Unit)) (QX.blks 0 ((x,()):QE×Unit)) 8 =
  QD.need (pb ([x.d.play.length = x.d.play.length, x.d.play.slack = x.d.play.slack, x.d.play.loose = x.d.play.loose, x.d.play.damp.lo = x.d.play.damp.lo, x.d.play.damp.hi = x.d.play.damp.hi, x.d.wide = x.d.wide, x.d.high = x.d.high, x.d.turn = x.d.turn, (0 : Nat) = (0 : Nat), x.d.ps.n = x.d.ps.n, Cap.of (0 : Nat) = Cap.of (0 : Nat), (0 : Nat) = (0 : Nat), x.scans.n = x.scans.n, Cap.of (0 : Nat) = Cap.of (0 : Nat), (0 : Nat) = (0 : Nat), x.hang.n = x.hang.n, Cap.of (0 : Nat) = Cap.of (0 : Nat), x.lost = x.lost, x.foreign = x.foreign, x.d.ps.n ≤ x.d.ps.n, QC (28 : Nat) x.d.ps.n (fun i => QA.enc (x.d.ps.get i)) fun i => QA.enc (x.d.ps.get i), x.scans.n ≤ x.scans.n, QC (28 : Nat) x.scans.n (fun i => QA.enc (x.scans.get i)) fun i => QA.enc (x.scans.get i), x.hang.n ≤ x.hang.n, QC (4 : Nat) x.hang.n (fun i => QA.enc (x.hang.get i)) fun i => QA.enc (x.hang.get i)])) (QD.br (e != (0 : Int)) (QD.leaf (AV.tup [AV.nils, AV.int true i64 (0 : Int), AV.int false i64 e]) ([])) (QD.fail ("a call without a contract"))) := by kernel_rfl
def zT(pb:List Prop→Bool)(x:QE)(C:List (List QB))(U:UC):Tab:=Qd (Ka pb (opO x C)) 77 (Jd pb U)
abbrev QEh(P:Program)(T:Tab)(f:Nat→Int)(n:Nat):Hnd:={ hnd (mkE P T) 8 with loop:=fun _=>Q7 8 [] (Vm f n (0:Nat)) [(True,.exit 0,QFz f n)] }
theorem QUj(pb:List Prop→Bool)(x:QE)(C:List (List QB))(has':Int→Bool)(many':Int)(f':Nat→Int):KR (mkE Try.prog (zT pb x C (plU x C (QK Try.f50 0).1 (QK Try.f50 0).2 [] noH 0 (fun _=>0) has' many' f'))) (QEh Try.prog (zT pb x C (plU x C (QK Try.f50
  0).1 (QK Try.f50 0).2 [] noH 0 (fun _=>0) has' many' f')) f' x.scans.n) Try.f20 (QX.vals 0 ((x,()):QE×Unit)) (QX.blks 0 ((x,()):QE×Unit)) 8 = .need (pb
  ([x.d.play.length=x.d.play.length,x.d.play.slack=x.d.play.slack,x.d.play.loose=x.d.play.loose,x.d.play.damp.lo=x.d.play.damp.lo,x.d.play.damp.hi=x.d.play.damp.hi,
  x.d.wide=x.d.wide,x.d.high=x.d.high,x.d.turn=x.d.turn,0=0,x.d.ps.n=x.d.ps.n,cO=cO,0=0,x.scans.n=x.scans.n,cO=cO,0=0,x.hang.n =
  x.hang.n,cO=cO,x.lost=x.lost,x.foreign=x.foreign,x.d.ps.n≤x.d.ps.n,QC 28 x.d.ps.n (fun i=>QA.enc (x.d.ps.get i)) fun i=>QA.enc (x.d.ps.get i),
  x.scans.n≤x.scans.n,QC 28 x.scans.n (fun i=>QA.enc (x.scans.get i)) fun i=>QA.enc (x.scans.get i),x.hang.n≤x.hang.n,QC 4 x.hang.n (fun i=>QA.enc
  (x.hang.get i)) fun i=>QA.enc (x.hang.get i)])) (.need (pb ([0=0,0=0,0=0,0=0,0=0,0=0,0=0,0=0,0=0,0=0,0=0,0=0,([]:List MapEntry)=[],
  jq (.int true .i64 0) noH fun i => .int false .i64 (QG [] i),LoopState.ready=LoopState.ready,(none:Option Code)=none,Array.mk [12]=Array.mk [12],(QK Try.f50
  0).1=(QK Try.f50 0).1,(QK Try.f50 0).2=(QK Try.f50 0).2,0=0,0=0,(0:Int)=0,(0:Int)=0,(0:Int)=0,(0:Int)=0,(0:Int)=0,(0:Int)=0,(0
  : Int)=0,(0:Int)=0,(0:Int)=0,(0:Int)=0,(0:Int)=0,(0:Int)=0,(0:Int)=0,Fn.func 51=Fn.func 51,0=0,0=0,0=0,0=0,0=0,0=0,false =
  false,0=0,0=0,0=0,0=0,Fn.func 76=Fn.func 76,0=0,0=0,(0:Int)=0,(0:Int)=0,(0:Int)=0,(0:Int)=0,(0:Int)=0,(0:Int)=0,(0:Int)=0,(0
  : Int)=0,(0:Int)=0,(0:Int)=0,(0:Int)=0,(0:Int)=0,(0:Int)=0,(0:Int)=0,Fn.func 77=Fn.func 77,0=0,0=0,0=0,0=0,0=0,0=0,0=0,0 =
  0,0=0,0=0,0=0,0=0,Fn.func 51=Fn.func 51,x.d.play.length=x.d.play.length,x.d.play.slack=x.d.play.slack,x.d.play.loose=x.d.play.loose,x.d.play.damp.lo =
  x.d.play.damp.lo,x.d.play.damp.hi=x.d.play.damp.hi,x.d.wide=x.d.wide,x.d.high=x.d.high,x.d.turn=x.d.turn,0=0,x.d.ps.n=x.d.ps.n,cO=cO,0=0,
  x.scans.n=x.scans.n,cO=cO,0=0,x.hang.n=x.hang.n,cO=cO,x.lost=x.lost,x.foreign=x.foreign,0=0,C.length=C.length,cO=cO,
  C.length=C.length,KM 2 C.length (fun i=>(QH C i).length) (fun i=>(QH C i).length) (fun i j=>QA.enc ((QH C i).getD j ⟨0,0⟩)) fun i j=>QA.enc ((QH C
  i).getD j ⟨0,0⟩),x.d.ps.n≤x.d.ps.n,QC 28 x.d.ps.n (fun i=>QA.enc (x.d.ps.get i)) fun i=>QA.enc (x.d.ps.get i),x.scans.n≤x.scans.n,QC 28 x.scans.n (fun i=>
  QA.enc (x.scans.get i)) fun i=>QA.enc (x.scans.get i),x.hang.n≤x.hang.n,QC 4 x.hang.n (fun i=>QA.enc (x.hang.get i)) fun i=>QA.enc (x.hang.get i)])) (.br
  (!decide (many'>0)) (.leaf (.tup [.nils,vj 0,vj 6]) ([])) (.ask (0=0) (.ask (0=0) (.ask (0=0) (.ask ((x.scans.n:Int)=(x.scans.n:Int)) (.ask
  ((0:Int)=0) (.ask (f' 0=f' 0) (.ask (f' 1=f' 1) (.ask (f' 2=f' 2) (.ask (f' 3=f' 3) (.ask (f' 4=f' 4) (.ask (f' 5=f' 5) (.ask (f' 6=f' 6) (.ask (f' 7=f' 7) (.ask
  (f' 8=f' 8) (.ask (f' 9=f' 9) (.ask (f' 10=f' 10) (.ask (f' 11=f' 11) (.ask (f' 12=f' 12) (.ask (0=0) (.asm (True) (.all (fun(g0:Nat→Value) => .leaf (.tup [.slz 440
  0 x.scans.n cO,vi (f' 12),vj 0]) ([(440,.rowz true 3 [.int .i64] x.scans.n fun i x=>f' i)]))))))))))))))))))))))))):=by kernel_rfl
noncomputable abbrev Xm:List AV:=
  [.slz 520 0 (k+1) cO,.ptr 368 0 0,vi (n:Int),vi (i64.wrap ((k:Int)+1))]
abbrev Xg:List Prop:=
  [0=0,k+1=k',cO=cO,0=0,0=0,(n:Int)=(n:Int),i64.wrap ((k:Int)+1)=(k':Int),f 0=f 0,f 1=f 1,f 2=f 2,f 3=f 3,f 4=f 4,f
  5=f 5,f 6=f 6,f 7=f 7,f 8=f 8,f 9=f 9,f 10=f 10,f 11=f 11,f 12=f 12]
theorem QRM(n k k':Nat):QL 8 (Xm k n) ([(520,.rowz true 3 [.int .i64] (k+1) (Qa k (fun i x=>f i) (QS [[vi (f 0)]] 0))),(JT f)]) (Vm f n k')=(some ((Xg f k k' n)++[k'
  ≤ k+1,QC 1 k' (Qa k (fun i x=>f i) (QS [[vi (f 0)]] 0)) fun i x=>f i])):=by kernel_rfl
theorem QUU(n k k':Nat):QL 8 (Xm k n) ([(520,.rowz true 3 [.int .i64] (k+1) (Qa k (fun i x=>f i) (QS [[vi (f 1)]] 0))),(JT f)]) (Vm f n k')=(some ((Xg f k k' n)++[k'
  ≤ k+1,QC 1 k' (Qa k (fun i x=>f i) (QS [[vi (f 1)]] 0)) fun i x=>f i])):=by kernel_rfl
theorem QTE(n k k':Nat):QL 8 (Xm k n) ([(520,.rowz true 3 [.int .i64] (k+1) (Qa k (fun i x=>f i) (QS [[vi (f 2)]] 0))),(JT f)]) (Vm f n k')=(some ((Xg f k k' n)++[k'
  ≤ k+1,QC 1 k' (Qa k (fun i x=>f i) (QS [[vi (f 2)]] 0)) fun i x=>f i])):=by kernel_rfl
theorem QSL(n k k':Nat):QL 8 (Xm k n) ([(520,.rowz true 3 [.int .i64] (k+1) (Qa k (fun i x=>f i) (QS [[vi (f 3)]] 0))),(JT f)]) (Vm f n k')=(some ((Xg f k k' n)++[k'
  ≤ k+1,QC 1 k' (Qa k (fun i x=>f i) (QS [[vi (f 3)]] 0)) fun i x=>f i])):=by kernel_rfl
theorem QRV(n k k':Nat):QL 8 (Xm k n) ([(520,.rowz true 3 [.int .i64] (k+1) (Qa k (fun i x=>f i) (QS [[vi (f 4)]] 0))),(JT f)]) (Vm f n k')=(some ((Xg f k k' n)++[k'
  ≤ k+1,QC 1 k' (Qa k (fun i x=>f i) (QS [[vi (f 4)]] 0)) fun i x=>f i])):=by kernel_rfl
theorem QYE(n k k':Nat):QL 8 (Xm k n) ([(520,.rowz true 3 [.int .i64] (k+1) (Qa k (fun i x=>f i) (QS [[vi (f 5)]] 0))),(JT f)]) (Vm f n k')=(some ((Xg f k k' n)++[k'
  ≤ k+1,QC 1 k' (Qa k (fun i x=>f i) (QS [[vi (f 5)]] 0)) fun i x=>f i])):=by kernel_rfl
theorem QXU(n k k':Nat):QL 8 (Xm k n) ([(520,.rowz true 3 [.int .i64] (k+1) (Qa k (fun i x=>f i) (QS [[vi (f 6)]] 0))),(JT f)]) (Vm f n k')=(some ((Xg f k k' n)++[k'
  ≤ k+1,QC 1 k' (Qa k (fun i x=>f i) (QS [[vi (f 6)]] 0)) fun i x=>f i])):=by kernel_rfl
theorem QQj(n k k':Nat):QL 8 (Xm k n) ([(520,.rowz true 3 [.int .i64] (k+1) (Qa k (fun i x=>f i) (QS [[vi (f 7)]] 0))),(JT f)]) (Vm f n k')=(some ((Xg f k k' n)++[k'
  ≤ k+1,QC 1 k' (Qa k (fun i x=>f i) (QS [[vi (f 7)]] 0)) fun i x=>f i])):=by kernel_rfl
theorem QT4(n k k':Nat):QL 8 (Xm k n) ([(520,.rowz true 3 [.int .i64] (k+1) (Qa k (fun i x=>f i) (QS [[vi (f 8)]] 0))),(JT f)]) (Vm f n k')=(some ((Xg f k k' n)++[k'
  ≤ k+1,QC 1 k' (Qa k (fun i x=>f i) (QS [[vi (f 8)]] 0)) fun i x=>f i])):=by kernel_rfl
theorem QSF(n k k':Nat):QL 8 (Xm k n) ([(520,.rowz true 3 [.int .i64] (k+1) (Qa k (fun i x=>f i) (QS [[vi (f 9)]] 0))),(JT f)]) (Vm f n k')=(some ((Xg f k k' n)++[k'
  ≤ k+1,QC 1 k' (Qa k (fun i x=>f i) (QS [[vi (f 9)]] 0)) fun i x=>f i])):=by kernel_rfl
theorem QZj(n k k':Nat):QL 8 (Xm k n) ((QOr f k)) (Vm f n k')=(some ((Xg f k k' n)++[k'≤k+1,QC 1 k' (Qa k (fun i x=>f i) (QS [[vi (f 10)]] 0)) fun i x=>f i])):=by kernel_rfl
theorem QQP(n k k':Nat):QL 8 (Xm k n) ((QH6 f k)) (Vm f n k')=(some ((Xg f k k' n)++[k'≤k+1,QC 1 k' (Qa k (fun i x=>f i) (QS [[vi (f 11)]] 0)) fun i x=>f i])):=by kernel_rfl
theorem QY0(n k:Nat):QL 8 [AV.slz (440:Nat) (0:Nat) k (Cap.of (0:Nat)),AV.ptr (368:Nat) (0:Nat) (0:Nat)] ([((440:Nat),Blk.rowz true (3:Nat) [CK.int i64] k fun i x=>f i),((368:Nat),Blk.cells (1:Nat) (95:Nat) [AV.int false i64 (f (0:Nat)),AV.int false i64 (f (1:Nat)),AV.int false i64 (f (2:Nat)),AV.int false i64 (f (3:Nat)),AV.int false i64 (f (4:Nat)),AV.int false i64 (f (5:Nat)),AV.int false i64 (f (6:Nat)),AV.int false i64 (f (7:Nat)),AV.int false i64 (f (8:Nat)),AV.int false i64 (f (9:Nat)),AV.int false i64 (f (10:Nat)),AV.int false i64 (f (11:Nat)),AV.int false i64 (f (12:Nat))])]) (QFz f n)=(
  some [(0:Nat)=(0:Nat),k=n,Cap.of (0:Nat)=Cap.of (0:Nat),(0:Nat)=(0:Nat),(0:Nat)=(0:Nat),f (0:Nat)=f (0:Nat),f (1:Nat)=f (1:Nat),f (2 :
  Nat)=f (2:Nat),f (3:Nat)=f (3:Nat),f (4:Nat)=f (4:Nat),f (5:Nat)=f (5:Nat),f (6:Nat)=f (6:Nat),f (7:Nat)=f (7:Nat),f (8:Nat)=f (8:Nat),
  f (9:Nat)=f (9:Nat),f (10:Nat)=f (10:Nat),f (11:Nat)=f (11:Nat),f (12:Nat)=f (12:Nat),n≤k,QC (1:Nat) n (fun i x=>f i) fun i x=>f i]):=by kernel_rfl
theorem QUC(e:Int)(f:List Int)(a e':Int):QL 8 [(AV.tup [AV.nils,AV.int true i64 (0:Int),AV.int false i64 e])] ([]) (KW 8 (HO f a e') [KN 3 0 f 0])=(
  some [f.length=(0:Nat),(0:Int)=a,e=e',f.length=(0:Nat)]):=by kernel_rfl
theorem QQ9(f:List Int)(a e':Int):QL 8 [(AV.tup [AV.nils,AV.int true i64 (0:Int),AV.int true i64 (6:Int)])] ([]) (KW 8 (HO f a e') [KN 3 0 f 0])=(
  some [f.length=(0:Nat),(0:Int)=a,(6:Int)=e',f.length=(0:Nat)]):=by kernel_rfl
theorem QUt(x:QE)(f':Nat→Int)(f:List Int)(a e':Int):QL 8 [(AV.tup [AV.slz (440:Nat) (0:Nat) x.scans.n (Cap.of (0:Nat)),AV.int false i64 (f' (12:Nat)),AV.int true i64 (0:Int)])] ([((440:Nat),Blk.rowz true (3:Nat) [CK.int i64] x.scans.n fun i x=>f' i)]) (KW 8 (HO f a e') [KN 3 0 f 0])=(
  some [(0:Nat)=(0:Nat),x.scans.n=f.length,Cap.of (0:Nat)=Cap.of (0:Nat),f' (12:Nat)=a,(0:Int)=e',f.length≤x.scans.n,QC (1:Nat) f.length (fun i x
  => f' i) fun i=>QA.enc (f.getD i (0:Int))]):=by kernel_rfl
theorem Xq:QC 1 (k+1) (Qa k (fun i _=>f i) (QS [[.int false .i64 (f k)]] 0)) (fun i _=>f i):=by
 intro i hi;show eqF 1 0 (Qa k (fun i _=>f i) (QS [[.int false .i64 (f k)]] 0) i) (fun _=>f i)
 by_cases h:i<k
 ·have e2:Qa k (fun i _=>f i) (QS [[.int false .i64 (f k)]] 0) i=fun _=>f i:=by funext j;rw[X6,if_pos h]
  rw[e2];exact Yk _ _ _
 ·have q:i=k:=by omega
  subst q;have e2:Qa i (fun i _=>f i) (QS [[.int false .i64 (f i)]] 0) i=QS [[.int false .i64 (f i)]] 0 0:=by funext j;rw[X6,if_neg h,Nat.sub_self]
  rw[e2];exact⟨rfl,trivial⟩
theorem QQq(hn:n≤12):K0 (fun k=>Vm f n k) (fun k=>k≤n) (fun k=>n-k) (fun _ e J=>e = .exit 0∧J=QFz f n) 8 QGi [] (mkF Try.prog Qj) (fun _=>hnd (mkF Try.prog Qj) 3) (QW Try.f20 0):=by
 refine⟨fun k g hk=>Qt (QZ0 f n k g) ?_⟩;refine QI (fun h => ?_) (fun h => ?_)
 ·have h:k<n:=by have:=qdt h;omega
  have hw:=Kj h (by omega:n≤1000)
  refine QF (by simp;omega) ?_
  refine QI (fun q => ?_) (fun q => ?_)
  ·refine QF (by simp;omega) ⟨k+1,h,by show n-(k+1)<n-k;omega,fun _ _ h=>h,rfl,rfl,_,QRM f n k (k+1),?_⟩
   obtain rfl:k=0:=by have:=qdt q;omega
   repeat' first|with_reducible refine QN ?_ ?_|exact trivial|with_reducible rfl|exact qlr _|exact qRr|exact QU _ _ _ _|exact hw|exact Xq f 0|refine And.intro ?_ ?_
  have q0:¬ (k:Int)=0:=of_decide_eq_false q;clear q;refine QI (fun q => ?_) (fun q => ?_)
  ·refine QF (by simp;omega) ⟨k+1,h,by show n-(k+1)<n-k;omega,fun _ _ h=>h,rfl,rfl,_,QUU f n k (k+1),?_⟩
   obtain rfl:k=1:=by have:=qdt q;omega
   repeat' first|with_reducible refine QN ?_ ?_|exact trivial|with_reducible rfl|exact qlr _|exact qRr|exact QU _ _ _ _|exact hw|exact Xq f 1|refine And.intro ?_ ?_
  have q1:¬ (k:Int)=1:=of_decide_eq_false q;clear q;refine QI (fun q => ?_) (fun q => ?_)
  ·refine QF (by simp;omega) ⟨k+1,h,by show n-(k+1)<n-k;omega,fun _ _ h=>h,rfl,rfl,_,QTE f n k (k+1),?_⟩
   obtain rfl:k=2:=by have:=qdt q;omega
   repeat' first|with_reducible refine QN ?_ ?_|exact trivial|with_reducible rfl|exact qlr _|exact qRr|exact QU _ _ _ _|exact hw|exact Xq f 2|refine And.intro ?_ ?_
  have q2:¬ (k:Int)=2:=of_decide_eq_false q;clear q;refine QI (fun q => ?_) (fun q => ?_)
  ·refine QF (by simp;omega) ⟨k+1,h,by show n-(k+1)<n-k;omega,fun _ _ h=>h,rfl,rfl,_,QSL f n k (k+1),?_⟩
   obtain rfl:k=3:=by have:=qdt q;omega
   repeat' first|with_reducible refine QN ?_ ?_|exact trivial|with_reducible rfl|exact qlr _|exact qRr|exact QU _ _ _ _|exact hw|exact Xq f 3|refine And.intro ?_ ?_
  have q3:¬ (k:Int)=3:=of_decide_eq_false q;clear q;refine QI (fun q => ?_) (fun q => ?_)
  ·refine QF (by simp;omega) ⟨k+1,h,by show n-(k+1)<n-k;omega,fun _ _ h=>h,rfl,rfl,_,QRV f n k (k+1),?_⟩
   obtain rfl:k=4:=by have:=qdt q;omega
   repeat' first|with_reducible refine QN ?_ ?_|exact trivial|with_reducible rfl|exact qlr _|exact qRr|exact QU _ _ _ _|exact hw|exact Xq f 4|refine And.intro ?_ ?_
  have q4:¬ (k:Int)=4:=of_decide_eq_false q;clear q;refine QI (fun q => ?_) (fun q => ?_)
  ·refine QF (by simp;omega) ⟨k+1,h,by show n-(k+1)<n-k;omega,fun _ _ h=>h,rfl,rfl,_,QYE f n k (k+1),?_⟩
   obtain rfl:k=5:=by have:=qdt q;omega
   repeat' first|with_reducible refine QN ?_ ?_|exact trivial|with_reducible rfl|exact qlr _|exact qRr|exact QU _ _ _ _|exact hw|exact Xq f 5|refine And.intro ?_ ?_
  have q5:¬ (k:Int)=5:=of_decide_eq_false q;clear q;refine QI (fun q => ?_) (fun q => ?_)
  ·refine QF (by simp;omega) ⟨k+1,h,by show n-(k+1)<n-k;omega,fun _ _ h=>h,rfl,rfl,_,QXU f n k (k+1),?_⟩
   obtain rfl:k=6:=by have:=qdt q;omega
   repeat' first|with_reducible refine QN ?_ ?_|exact trivial|with_reducible rfl|exact qlr _|exact qRr|exact QU _ _ _ _|exact hw|exact Xq f 6|refine And.intro ?_ ?_
  have q6:¬ (k:Int)=6:=of_decide_eq_false q;clear q;refine QI (fun q => ?_) (fun q => ?_)
  ·refine QF (by simp;omega) ⟨k+1,h,by show n-(k+1)<n-k;omega,fun _ _ h=>h,rfl,rfl,_,QQj f n k (k+1),?_⟩
   obtain rfl:k=7:=by have:=qdt q;omega
   repeat' first|with_reducible refine QN ?_ ?_|exact trivial|with_reducible rfl|exact qlr _|exact qRr|exact QU _ _ _ _|exact hw|exact Xq f 7|refine And.intro ?_ ?_
  have q7:¬ (k:Int)=7:=of_decide_eq_false q;clear q;refine QI (fun q => ?_) (fun q => ?_)
  ·refine QF (by simp;omega) ⟨k+1,h,by show n-(k+1)<n-k;omega,fun _ _ h=>h,rfl,rfl,_,QT4 f n k (k+1),?_⟩
   obtain rfl:k=8:=by have:=qdt q;omega
   repeat' first|with_reducible refine QN ?_ ?_|exact trivial|with_reducible rfl|exact qlr _|exact qRr|exact QU _ _ _ _|exact hw|exact Xq f 8|refine And.intro ?_ ?_
  have q8:¬ (k:Int)=8:=of_decide_eq_false q;clear q;refine QI (fun q => ?_) (fun q => ?_)
  ·refine QF (by simp;omega) ⟨k+1,h,by show n-(k+1)<n-k;omega,fun _ _ h=>h,rfl,rfl,_,QSF f n k (k+1),?_⟩
   obtain rfl:k=9:=by have:=qdt q;omega
   repeat' first|with_reducible refine QN ?_ ?_|exact trivial|with_reducible rfl|exact qlr _|exact qRr|exact QU _ _ _ _|exact hw|exact Xq f 9|refine And.intro ?_ ?_
  have q9:¬ (k:Int)=9:=of_decide_eq_false q;clear q;refine QI (fun q => ?_) (fun q => ?_)
  ·refine QF (by simp;omega) ⟨k+1,h,by show n-(k+1)<n-k;omega,fun _ _ h=>h,rfl,rfl,_,QZj f n k (k+1),?_⟩
   obtain rfl:k=10:=by have:=qdt q;omega
   repeat' first|with_reducible refine QN ?_ ?_|exact trivial|with_reducible rfl|exact qlr _|exact qRr|exact QU _ _ _ _|exact hw|exact Xq f 10|refine And.intro ?_ ?_
  have q10:¬ (k:Int)=10:=of_decide_eq_false q;clear q;refine QF (by simp;omega) ⟨k+1,h,by show n-(k+1)<n-k;omega,fun _ _ h=>h,rfl,rfl,_,QQP f n k (k+1),?_⟩
  obtain rfl:k=11:=by omega
  repeat' first|with_reducible refine QN ?_ ?_|exact trivial|with_reducible rfl|exact qlr _|exact qRr|exact QU _ _ _ _|exact hw|exact Xq f 11|refine And.intro ?_ ?_
 ·have:k=n:=by have:=of_decide_eq_false h;omega
  subst this;refine⟨_,⟨rfl,rfl⟩,rfl,rfl,_,QY0 f k k,?_⟩
  repeat' first|with_reducible refine QN ?_ ?_|exact trivial|with_reducible rfl|exact qlr _|exact qRr|exact QU _ _ _ _|refine And.intro ?_ ?_
theorem QWT{T:Tab}(hT:QZ T)(f:Nat→Int)(n:Nat)(hn:n≤12)(G:Ctx)(hrd:G.rd=none)(hG:G.n=8):Q1 (mkE Try.prog T) G (QEh Try.prog T f n) (Qo Try.f20):=by
 refine JF (body:=QW Try.f20 0) (QP hT) hrd (by kernel_rfl) ?_
 refine X0 (E:=mkF Try.prog Qj) rfl (JG (n0:=8) (jM Qv) (by omega) (fun s hs=>Qq (jM Qv) 3 G _ hrd) (fun s hs=>(by decide:8≤448)) ?_ (QQq f n hn) (s0:=0) (Nat.zero_le _) ?_)
 ·rintro s e J ⟨_,rfl⟩;exact(by decide:8≤448)
 ·rintro e J ⟨rfl,rfl⟩;exact⟨_,List.mem_cons_self,trivial,rfl,rfl⟩
def QFI:Res PlS:=onT x (Qk x x.scans.n) plY x.scans.n [] (0,fun _=>0) noH
def KO:List Int×Int×Int:=match x.ok with
 | false=>([],0,1)
 | true=>match JE x with
  | true=>([],0,11)
  | false=>match QFI x with
   | .stop s _ | .go s _=>match decide (s.1>0)with
    | false=>([],0,6)
    | true=>((List.range x.scans.n).map s.2,s.2 12,0)
def X9:WF (QE×Unit):=fun|(x,_)=>(decide (x.d.ps.n≤1000∧x.scans.n≤1000∧x.hang.n≤1000),HO (KO x).1 (KO x).2.1 (KO x).2.2,[KN 3 0 (KO x).1 0])
def QIG:FC:=wFC X9
theorem QNm:WOk (X9 (x,())).2.1 (X9 (x,())).2.2:=⟨rfl,by simp[X9,KN,Blk.own,Blk.all],rfl⟩
theorem QLY(e:Int)(ht:QO Try.prog 49 (uFC (opE x e)))(he:e≠0)(hv:KO x=([],0,e)):QO Try.prog 20 (wFC (Je X9 (x,()))):=by
 have hT:QZ (Ka QY (opE x e)):=Qv.add ht;refine Xt (c:=Qo Try.f20) (E:=mkE Try.prog (Ka QY (opE x e))) (H:=hnd (mkE Try.prog (Ka QY (opE x e))) 1) (QP hT) Try.func20 (by kernel_rfl) (by kernel_rfl) (N:=8) (by decide) (x,()) (fun G h1 _=>Qq (QP hT) 1 G _ h1) (QNm x) ?_
 refine Qt (QRK QY x e) ?_;refine QF (KL.2 ?_) (QI (fun _ => ?_) (fun h=>by simp at h;exact absurd h he))
 ·repeat' first|with_reducible refine QN ?_ ?_|exact trivial|with_reducible rfl|exact qlr _|exact qRr|exact QU _ _ _ _|refine And.intro ?_ ?_
 ·simp only[X9,hv];refine⟨rfl,rfl,_,QUC e [] 0 e,?_⟩
  repeat' first|with_reducible refine QN ?_ ?_|exact trivial|with_reducible rfl|exact qlr _|exact qRr|exact QU _ _ _ _|exact rfl|refine And.intro ?_ ?_
theorem QQO:QC 1 ((List.range n).map f).length (fun i _=>f i) (fun i=>QA.enc (((List.range n).map f).getD i (0:Int))):=by
 intro i hi;show eqF 1 0 (fun _=>f i) (QA.enc (((List.range n).map f).getD i (0:Int)));have hi:i<n:=by simpa using hi
 have:((List.range n).map f).getD i (0:Int)=f i:=by simp[List.getD_eq_getElem?_getD,hi]
 rw[this];exact⟨rfl,trivial⟩
theorem QPX(hs:Xb x)(hx:x.ok=true)(hr:JE x=false):QO Try.prog 20 (wFC (Je X9 (x,()))):=by
 have hg:=Xc hx;have hss:=hg.s;have hC:=QCE (x:=x) hg.d.n9;have hon:=QL1 hg hC x.scans.n [] (0,fun _=>0) noH (by simp) (fun c hc=>by cases hc) trivial
 obtain⟨s,h,he⟩:=Yv (C:=Qk x x.scans.n) (x:=x) (Y:=plY) (fun _ _=>rfl) x.scans.n [] (0,fun _=>0) noH;rw[he]at hon;have hT:QZ (zT QY x (Qk x x.scans.n) (plU x (Qk x x.scans.n) YS YP [] noH 0 (fun _=>0) h s.1 s.2)):=(Qv.add (qO x hs hx hr)).add hon
 have hv:KO x=match decide (s.1>0)with
   | false=>([],0,6)
   | true=>((List.range x.scans.n).map s.2,s.2 12,0):=by
  simp only[KO,hx,hr,QFI,he]
 refine Xt (c:=Qo Try.f20) (E:=mkE Try.prog (zT QY x (Qk x x.scans.n) (plU x (Qk x x.scans.n) YS YP [] noH 0 (fun _=>0) h s.1 s.2))) (H:=QEh Try.prog (zT QY x (Qk x x.scans.n) (plU x (Qk x x.scans.n) YS YP [] noH 0 (fun _=>0) h s.1 s.2)) s.2 x.scans.n) (QP hT) Try.func20 (by kernel_rfl) (by kernel_rfl) (N:=8) (by decide) (x,()) (fun G h1 h2=>QWT hT _ _ hss G h1 h2) (QNm x) ?_
 refine Qt (QUj QY x (Qk x x.scans.n) h s.1 s.2) ?_;refine QF (KL.2 ?_) (QF (KL.2 ?_) (QI (fun q => ?_) (fun q => ?_)))
 ·repeat' first|with_reducible refine QN ?_ ?_|exact trivial|with_reducible rfl|exact qlr _|exact qRr|exact QU _ _ _ _|refine And.intro ?_ ?_
 ·repeat' first|with_reducible refine QN ?_ ?_|exact trivial|with_reducible rfl|exact qlr _|exact qRr|exact QU _ _ _ _|exact zY _|exact rfl|refine And.intro ?_ ?_
 ·have q:decide (s.1>0)=false:=by simpa using q
  simp only[X9,hv,q];refine⟨rfl,rfl,_,QQ9 [] 0 6,?_⟩
  repeat' first|with_reducible refine QN ?_ ?_|exact trivial|with_reducible rfl|exact qlr _|exact qRr|exact QU _ _ _ _|exact rfl|refine And.intro ?_ ?_
 ·have q:decide (s.1>0)=true:=by simpa using q
  repeat' first|refine QR (p:=_=_) rfl ?_|refine QR (p:=_≤_) (qlr _) ?_|refine QR (p:=_≤_) (Nat.zero_le _) ?_|refine QR (p:=QC _ _ _ _) (qRr) ?_|refine QR (p:=QC _ _ _ _) (fun i hi=>absurd hi (Nat.not_lt_zero i)) ?_
  refine KA fun _=>Q6 fun g => ?_;simp only[X9,hv,q];refine⟨rfl,rfl,_,QUt x s.2 _ _ 0,?_⟩
  repeat' first|with_reducible refine QN ?_ ?_|exact trivial|with_reducible rfl|exact qlr _|exact qRr|exact QU _ _ _ _|exact(by simp:x.scans.n=((List.range x.scans.n).map s.2).length)|exact(by simp:((List.range x.scans.n).map s.2).length≤x.scans.n)|exact QQO _ _|exact rfl|refine And.intro ?_ ?_
theorem QV4(hx:(X9 (x,())).1=true):QO Try.prog 20 (wFC (Je X9 (x,()))):=by
 obtain⟨h1,h2,h3⟩:=qdt hx;have hs:Xb x:=⟨h1,h2,h3⟩;cases ho:x.ok with
 | false=>exact QLY x 1 (QAE x hs ho) (by decide) (by simp only[KO,ho])
 | true=>cases hr:JE x with
  | true=>exact QLY x 11 (HR x hs ho hr) (by decide) (by simp only[KO,ho,hr])
  | false=>exact QPX x hs ho hr
theorem QRf:QO Try.prog 20 QIG:=zr (by kernel_rfl) fun|(x,()),hx=>QV4 x hx
structure QI9 where
 off:Sp
 wide:Sp
 deep:Sp
instance : Enc QI9 where
  enc x := .agg [.int false .i64 x.off.lo,.int false .i64 x.off.hi,.int false .i64 x.wide.lo,.int false .i64 x.wide.hi,.int false .i64 x.deep.lo,.int false .i64 x.deep.hi]
  dec | .agg [.int _ .i64 a0,.int _ .i64 a1,.int _ .i64 a2,.int _ .i64 a3,.int _ .i64 a4,.int _ .i64 a5] => some ⟨⟨a0,a1⟩,⟨a2,a3⟩,⟨a4,a5⟩⟩ | _ => none
  ok v x h := by
    split at h <;> (try (cases h; done))
    simp only[qsI]at h; subst h; exact⟨fun _ => rfl,rfl⟩
theorem QWn{p:Qn}{t h:Edge}(hB:Qu.B ⟨p,t,h⟩):((-100000≤(Qg p t h).lo∧(Qg p t h).lo≤100000) ∧ -100000≤(Qg p t h).hi∧(Qg p t h).hi≤100000)∧((-100000≤(Qi t h).lo∧(Qi t h).lo≤100000) ∧ -100000≤(Qi t h).hi∧(Qi t h).hi≤100000) ∧
  ((-100000≤(Qh t h).lo∧(Qh t h).lo≤100000) ∧ -100000≤(Qh t h).hi∧(Qh t h).hi≤100000)∧(0≤p.damp.lo∧p.damp.lo≤100)∧0≤p.damp.hi∧p.damp.hi≤100:=by
 obtain⟨h1,h2,h3⟩:=hB;unfold J4 at h1;unfold J2 at h2 h3;simp only[Qg,Qi,Qh]at *;omega
def Vw(s:Sp)(lo hi:Int)(d:Sp):Bool:=decide ((-100000≤s.lo∧s.lo≤100000)∧(-100000≤s.hi∧s.hi≤100000)∧(-500≤lo∧lo≤500)∧(-500≤hi∧hi≤500)∧0≤d.hi∧d.hi≤100)
def QNt:Int×Int×Int×Unit→Bool×AV:=fun|(n,(a,(b,_)))=>(true,.bool false (Qf n a b))
def QNi:FC:=Q2 (Q3 QNt)
theorem QRF(n:Int)(a:Int)(b:Int):Qy (mkE Try.prog qK) (hnd (mkE Try.prog qK) 0) false Try.f79 (Qp.enc ((n,a,b,()):Int×Int×Int×Unit)) [] 0 =
  QD.br (decide (a≤n)) (QD.leaf (AV.bool false (decide (n≤b))) ([])) (QD.leaf (AV.bool true false) ([])):=by kernel_rfl
theorem QRG:QO Try.prog 79 QNi:=by
 refine KC HG 0 Try.func79 (by kernel_rfl) (by kernel_rfl) ?_
 rintro⟨n,a,b,⟨⟩⟩ hp;rw[QRF n a b];simp only[QNt,QD.den,AV.same,AV.sameL,and_true,true_and]at hp ⊢
 (repeat' (first|(refine And.intro ?_ ?_)|(intro _)))<;>simp_all [Qf]<;>omega
def QBF:Tab:=Qd qK 79 QNi
theorem QLh:QZ QBF:=HG.add QRG
def QKC:Sp×Int×Int×Unit→Bool×AV:=fun|(s,(a,(b,_)))=>(true,.bool false (s.isIn a b))
def QIE:FC:=Q2 (Q3 QKC)
theorem QS2(s:Sp)(a:Int)(b:Int):Qy (mkE Try.prog QBF) (hnd (mkE Try.prog QBF) 0) false Try.f80 (Qp.enc ((s,a,b,()):Sp×Int×Int×Unit)) [] 0 =
  QD.br (decide (a≤s.lo)) (QD.br (decide (s.lo≤s.hi)) (QD.leaf (AV.bool false (decide (s.hi≤b))) ([])) (QD.leaf (AV.bool true false) ([]))) (QD.leaf (AV.bool true
  false) ([])):=by kernel_rfl
theorem QQQ:QO Try.prog 80 QIE:=by
 refine KC QLh 0 Try.func80 (by kernel_rfl) (by kernel_rfl) ?_
 rintro⟨s,a,b,⟨⟩⟩ hp;rw[QS2 s a b];simp only[QKC,QD.den,AV.same,AV.sameL,and_true,true_and]at hp ⊢
 (repeat' (first|(refine And.intro ?_ ?_)|(intro _)))<;>simp_all [Sp.isIn]<;>omega
def QBl:Tab:=Qd QBF 80 QIE
theorem QLf:QZ QBl:=QLh.add QQQ
def QLO:Edge×Unit→Bool×AV:=fun|(a,_)=>(true,.bool false a.ok)
def QKl:FC:=Q2 (Q3 QLO)
theorem QRx(a:Edge):Qy (mkE Try.prog QBl) (hnd (mkE Try.prog QBl) 0) false Try.f57 (Qp.enc ((a,()):Edge×Unit)) [] 0 =
  QD.br (a.kind==(0:Int)) (QD.leaf (AV.bool true true) ([])) (QD.need (true) (QD.br (Qf a.kind (1:Int) (2:Int)) (QD.need (true) (QD.br (a.at_.isIn (0:Int)
  (10000:Int)) (QD.need (true) (QD.br (a.wide.isIn (1:Int) (3000:Int)) (QD.need (true) (QD.leaf (AV.bool false (a.deep.isIn (1:Int) (3000:Int))) ([]))) (QD.leaf
  (AV.bool true false) ([])))) (QD.leaf (AV.bool true false) ([])))) (QD.leaf (AV.bool true false) ([])))):=by kernel_rfl
theorem QUD:QO Try.prog 57 QKl:=by
 refine KC QLf 0 Try.func57 (by kernel_rfl) (by kernel_rfl) ?_
 rintro⟨a,⟨⟩⟩ hp;rw[QRx a];simp only[QLO,QD.den,AV.same,AV.sameL,and_true,true_and]at hp ⊢
 have hw:Qf a.kind 1 2=((a.kind==1)||(a.kind==2)):=by
  unfold Qf;rw[Bool.eq_iff_iff];simp only[qdE,qbO,beq_iff_eq];omega
 simp only[hw];unfold Edge.ok;cases (a.kind==0)<;>cases ((a.kind==1)||(a.kind==2))<;>cases a.at_.isIn 0 10000<;>cases a.wide.isIn 1 3000<;>simp
def Ha:Tab:=Qd QBl 57 QKl
theorem QNP:QZ Ha:=QLf.add QUD
def QIo:Qn×Unit→Bool×AV:=fun|(p,_)=>(true,.bool false p.ok)
def QJc:FC:=Q2 (Q3 QIo)
theorem QTz(p:Qn):Qy (mkE Try.prog Ha) (hnd (mkE Try.prog Ha) 0) false Try.f67 (Qp.enc ((p,()):Qn×Unit)) [] 0 =
  QD.need (true) (QD.br (Qf p.length (1:Int) (10000:Int)) (QD.need (true) (QD.br (Qf p.slack (0:Int) (500:Int)) (QD.need (true) (QD.br (Qf p.loose (0 :
  Int) (500:Int)) (QD.need (true) (QD.leaf (AV.bool false (p.damp.isIn (0:Int) (100:Int))) ([]))) (QD.leaf (AV.bool true false) ([])))) (QD.leaf (AV.bool true false)
  ([])))) (QD.leaf (AV.bool true false) ([]))):=by kernel_rfl
theorem QVR:QO Try.prog 67 QJc:=by
 refine KC QNP 0 Try.func67 (by kernel_rfl) (by kernel_rfl) ?_
 rintro⟨p,⟨⟩⟩ hp;rw[QTz p];simp only[QIo,QD.den,AV.same,AV.sameL,and_true,true_and]at hp ⊢
 (repeat' (first|(refine And.intro ?_ ?_)|(intro _)))<;>simp_all [Qn.ok]
def QCF:Tab:=Qd Ha 67 QJc
theorem QMp:QZ QCF:=QNP.add QVR
def QJI:Qn×Edge×Edge×Unit→Bool×AV:=fun|(p,(t,(h,_)))=>(decide (Qu.B ⟨p,t,h⟩),Enc.enc (⟨Qg p t h,Qi t h,Qh t h⟩:QI9))
def QJx:FC:=Q2 (Q3 QJI)
theorem QSg(p:Qn)(t:Edge)(h:Edge):Qy (mkE Try.prog QCF) (hnd (mkE Try.prog QCF) 0) false Try.f104 (Qp.enc ((p,t,h,()):Qn×Edge×Edge×Unit)) [] 0 =
  QD.leaf (AV.agg [AV.int false i64 (i64.wrap (i64.wrap (t.at_.lo+h.at_.lo)-p.length)),AV.int false i64 (i64.wrap (i64.wrap
  (t.at_.hi+h.at_.hi)-p.length)),AV.int false i64 (i64.wrap (h.wide.lo-t.wide.hi)),AV.int false i64 (i64.wrap (h.wide.hi-t.wide.lo)),AV.int
  false i64 (i64.wrap (h.deep.lo-t.deep.hi)),AV.int false i64 (i64.wrap (h.deep.hi-t.deep.lo))]) ([]):=by kernel_rfl
theorem QXW:QO Try.prog 104 QJx:=by
 refine KC QMp 0 Try.func104 (by kernel_rfl) (by kernel_rfl) ?_
 rintro⟨p,t,h,⟨⟩⟩ hp;rw[QSg p t h];simp only[QJI,QD.den,AV.same,AV.sameL,and_true,true_and]at hp ⊢;have hq:=qdt hp;obtain⟨h1,h2,h3⟩:=hq;unfold J4 at h1;unfold J2 at h2 h3;simp only at h1 h2 h3;simp only[Enc.enc,AV.same,AV.sameL,true_and,and_true,Qg,Qi,Qh];rw[w64 (n:=t.at_.lo+h.at_.lo) (by omega) (by omega),w64 (n:=t.at_.hi+h.at_.hi) (by omega) (by omega)]
 rw[w64 (by omega) (by omega),w64 (by omega) (by omega),w64 (by omega) (by omega),w64 (by omega) (by omega),w64 (by omega) (by omega),w64 (by omega) (by omega)]
 refine⟨?_,?_,?_,?_,?_,?_⟩<;>omega
def QBQ:Tab:=Qd QCF 104 QJx
theorem QM4:QZ QBQ:=QMp.add QXW
def QHB:Sp×Int×Int×Sp×Unit→Bool×AV:=fun|(s,(lo,(hi,(d,_))))=>(Vw s lo hi d,.bool false (KZ s.lo s.hi lo hi d.hi))
def QIg:FC:=Q2 (Q3 QHB)
theorem QUF(s:Sp)(lo:Int)(hi:Int)(d:Sp):Qy (mkE Try.prog QBQ) (hnd (mkE Try.prog QBQ) 0) false Try.f105 (Qp.enc ((s,lo,hi,d,()):Sp×Int×Int×Sp×Unit)) [] 0 =
  QD.br (decide (i64.wrap (s.lo*i64.wrap ((1000:Int)+d.hi))≥i64.wrap ((1000:Int)*lo))) (QD.leaf (AV.bool false (decide (i64.wrap (s.hi
  * i64.wrap ((1000:Int)+d.hi))≤i64.wrap ((1000:Int)*hi)))) ([])) (QD.leaf (AV.bool true false) ([])):=by kernel_rfl
theorem QVt:QO Try.prog 105 QIg:=by
 refine KC QM4 0 Try.func105 (by kernel_rfl) (by kernel_rfl) ?_
 rintro⟨s,lo,hi,d,⟨⟩⟩ hp;rw[QUF s lo hi d];simp only[QHB,QD.den,AV.same,AV.sameL,and_true,true_and]at hp ⊢;have hq:=qdt hp;obtain⟨h1,h2,h3,h4,h5⟩:=hq;exact GT h1 h2 h3 h4 h5
def Yf:Tab:=Qd QBQ 105 QIg
theorem vB:QZ Yf:=QM4.add QVt
structure KI where
 s:Sp
 d:Sp
 lo:Int
 hi:Int
 n:Int
def KI.I(x:KI):JSt:=⟨40,[(1,.int false .i64 x.lo),(2,.int false .i64 x.hi),(4,.ptr 0 0 0),(7,.ptr 8 0 0),(9,.int false .i64 x.n)],[(8,.cells 0 23 (Enc.enc x.d).cells),(0,.cells 0 23 (Enc.enc x.s).cells)],56⟩
def KI.pre(x:KI):Prop:=(-100000≤x.s.lo∧x.s.lo≤100000)∧(-100000≤x.s.hi∧x.s.hi≤100000)∧(-500≤x.lo∧x.lo≤0)∧(0≤x.hi∧x.hi≤500)∧(0≤x.d.lo∧x.d.lo≤100) ∧ -100000≤x.n∧x.n≤100001
def KI.good(x:KI)(n:Int):Prop:=n≤min x.s.hi x.hi∧1000*x.lo≤n*(1000+x.d.lo)∧n*(1000+x.d.lo)≤1000*x.hi
def KI.yes(x:KI):Prop:=∃ n,x.n≤n∧x.good n
def G4(x:KI)(e:Ex)(J:JSt):Prop:=(e = .ret∧J=⟨40,[(8,.bool true true)],[],0⟩∧x.yes)∨(e = .exit 0∧J=⟨40,[],[],0⟩∧¬ x.yes)
def QBC:Ex→List Nat
 | .normal=>[1,2,4,7,9]
 | .ret=>[8]
 | .exit _=>[]
def KI.mu(x:KI):Nat:=(min x.s.hi x.hi+1-x.n).toNat
def KI.next(x:KI):KI:={ x with n:=x.n+1 }
def HY(x:KI):QD := .leaf (.tup [.nilp,.ptr 40 0 0,.int false .i64 x.lo,.int false .i64 x.hi,.ptr 0 0 0,.ptr 8 0 0,.int false .i64 (i64.wrap (x.n+1))]) [(8,.cells 0 23 (Enc.enc x.d).cells),(0,.cells 0 23 (Enc.enc x.s).cells)]
theorem QWr(x:KI)(g:Nat→Value):exec (mkE Try.prog Yf) (hnd (mkE Try.prog Yf) 0) (QW Try.f106 0) (JSt.inst x.I g) (HF QBC) =
  .br (decide (x.n ≤ min x.s.hi x.hi))
    (.br (decide (i64.wrap (x.n * i64.wrap (1000 + x.d.lo)) ≥ i64.wrap (1000 * x.lo)))
      (.br (decide (i64.wrap (x.n * i64.wrap (1000 + x.d.lo)) ≤ i64.wrap (1000 * x.hi)))
        (.leaf (.tup [.nili,.ptr 40 0 0,.bool true true]) [(8,.cells 0 23 (Enc.enc x.d).cells),(0,.cells 0 23 (Enc.enc x.s).cells)])
        (HY x)) (HY x))
    (.leaf (.tup [.ptr 0 0 0,.ptr 40 0 0]) [(8,.cells 0 23 (Enc.enc x.d).cells),(0,.cells 0 23 (Enc.enc x.s).cells)]) := by kernel_rfl
theorem QIj{x:KI}(h:x.pre):i64.wrap (x.n*i64.wrap (1000+x.d.lo))=x.n*(1000+x.d.lo)∧i64.wrap (1000*x.lo)=1000*x.lo∧i64.wrap (1000*x.hi)=1000*x.hi∧i64.wrap (x.n+1)=x.n+1:=by
 obtain⟨h1,h2,h3,h4,h5,h6,h7⟩:=h;have e:i64.wrap (1000+x.d.lo)=1000+x.d.lo:=w64 (by omega) (by omega)
 have m:=Int.mul_le_mul_of_nonneg_right h6 (show 0≤1000+x.d.lo by omega)
 have m':=Int.mul_le_mul_of_nonneg_right h7 (show 0≤1000+x.d.lo by omega)
 rw[e];exact⟨w64 (by omega) (by omega),w64 (by omega) (by omega),w64 (by omega) (by omega),w64 (by omega) (by omega)⟩
theorem QMW{x:KI}(hp:x.pre)(hn:x.n≤min x.s.hi x.hi)(hb:¬ (1000*x.lo≤x.n*(1000+x.d.lo)∧x.n*(1000+x.d.lo)≤1000*x.hi)):(HY x).den (jb (QHz KI.I KI.pre KI.mu G4 0 QBC x) (Go.SX.Leaves G4 0 QBC x)):=by
 unfold HY;rw[(QIj hp).2.2.2];refine⟨x.next,fun i=>i,?_,?_,?_,?_⟩
 ·obtain⟨h1,h2,h3,h4,h5,h6,h7⟩:=hp;refine⟨h1,h2,h3,h4,h5,?_,?_⟩<;>simp only[KI.next]<;>omega
 ·simp only[KI.mu,KI.next];omega
 ·intro e J hR
  have hy:x.next.yes↔x.yes:=by
   constructor
   ·rintro⟨n,h1,h2⟩;simp only[KI.next]at h1;exact⟨n,by omega,h2⟩
   ·rintro⟨n,h1,h2⟩;rcases(show n=x.n∨x.n+1≤n by omega)with rfl|h3
    ·exact absurd h2.2 hb
    ·exact⟨n,h3,h2⟩
  unfold G4 at *;rw[hy]at hR;exact hR
 ·refine Vp.same rfl rfl ?_ ?_ rfl rfl
  ·exact⟨⟨rfl,rfl⟩,⟨rfl,rfl⟩,⟨rfl,rfl,rfl⟩,⟨rfl,rfl,rfl⟩,⟨rfl,rfl⟩,trivial⟩
  ·exact⟨⟨_,rfl,rfl,rfl,⟨rfl,rfl⟩,⟨rfl,rfl⟩,trivial⟩,⟨_,rfl,rfl,rfl,⟨rfl,rfl⟩,⟨rfl,rfl⟩,trivial⟩,trivial⟩
theorem QQ4:QDl KI.I KI.pre KI.mu G4 0 QBC (mkE Try.prog Yf) (hnd (mkE Try.prog Yf) 0) (QW Try.f106 0):=by
 intro x g hp;rw[QWr];obtain⟨e1,e2,e3,_⟩:=QIj hp;simp only[QD.den,e1,e2,e3,qdE,decide_eq_false_iff_not];refine⟨fun hn=>⟨fun h1=>⟨fun h2 => ?_,fun h2 => ?_⟩,fun h1 => ?_⟩,fun hn => ?_⟩
 ·exact⟨⟨40,[(8,.bool true true)],[],0⟩,fun i=>i,.inl ⟨rfl,rfl,x.n,Int.le_refl _,hn,h1,h2⟩,Vp.same rfl rfl ⟨rfl,trivial⟩ trivial rfl rfl⟩
 ·exact QMW hp hn (fun h=>h2 h.2)
 ·exact QMW hp hn (fun h=>h1 h.1)
 ·refine⟨⟨40,[],[],0⟩,fun i=>i,.inr ⟨rfl,rfl,?_⟩,Vp.same rfl rfl trivial trivial rfl rfl⟩;rintro⟨n,h1,h2,_⟩;omega
instance (x : KI) : Decidable x.pre := by unfold KI.pre; infer_instance
def Yd:Code→St→(Ex→St→QD)→QD:=fun _ st K=>match st.tm.length==40&&Vl st.hp,QJ st.tm 1,QJ st.tm 2,QJ st.tm 4,QJ st.tm 7,QJ st.tm 9,Go.SX.look st.hp 8,Go.SX.look st.hp 0 with
 | true,.int _ .i64 lo,.int _ .i64 hi,.ptr 0 0 0,.ptr 8 0 0,.int _ .i64 n,some (.cells 0 23 [.int _ .i64 dlo,.int _ .i64 dhi]),some (.cells 0 23 [.int _ .i64 slo,.int _ .i64 shi])=>
  .need (decide (KI.pre ⟨⟨slo,shi⟩,⟨dlo,dhi⟩,lo,hi,n⟩)) (.both (.asm (KI.yes ⟨⟨slo,shi⟩,⟨dlo,dhi⟩,lo,hi,n⟩) (.all fun g=>K .ret (JSt.inst ⟨40,[(8,.bool true true)],[],0⟩ g)))
   (.asm (¬ KI.yes ⟨⟨slo,shi⟩,⟨dlo,dhi⟩,lo,hi,n⟩) (.all fun g=>K (.exit 0) (JSt.inst ⟨40,[],[],0⟩ g))))
 | _, _, _, _, _, _, _, _ => .fail "some"
theorem QWS(body:Code)(st:St)(K:Ex→St→QD)(T:AV→List (Nat×Blk)→Prop)(h:(Yd body st K).den T):∃ s q ls',KI.pre s∧Vp 0 q ls' st.tm.length (ls'.map (QJ st.tm)) st.hp (KI.I s)∧∀ e J g,G4 s e J→(K e (J.inst g)).den T:=by
 unfold Yd at h;split at h<;>(try (exact h.elim))
 rename_i k1 lo k2 hi k9 n kd dlo ke dhi ks slo kt shi c1 e1 e2 e4 e7 e9 h8 h0;simp only[QD.den,qdE]at h;rw[qbA]at c1;refine⟨⟨⟨slo,shi⟩,⟨dlo,dhi⟩,lo,hi,n⟩,fun i=>i,[1,2,4,7,9],h.1,Vp.same rfl ?_ ?_ ?_ rfl rfl ?_,?_⟩
 ·exact beq_iff_eq.1 c1.1
 ·simp only[List.map_cons,List.map_nil, *];exact⟨⟨rfl,rfl⟩,⟨rfl,rfl⟩,⟨rfl,rfl,rfl⟩,⟨rfl,rfl,rfl⟩,⟨rfl,rfl⟩,trivial⟩
 ·exact⟨⟨_,h8,rfl,rfl,⟨rfl,rfl⟩,⟨rfl,rfl⟩,trivial⟩,⟨_,h0,rfl,rfl,⟨rfl,rfl⟩,⟨rfl,rfl⟩,trivial⟩,trivial⟩
 ·exact c1.2
 ·rintro e J g (⟨rfl,rfl,hy⟩|⟨rfl,rfl,hy⟩)
  ·exact h.2.1 hy g
  ·exact h.2.2 hy g
theorem QWH(G:Ctx)(hG:G.n=0)(hrd:G.rd=none):Q1 (mkE Try.prog Yf) G { hnd (mkE Try.prog Yf) 0 with loop:=Yd } (Qo Try.f106):=
 ⟨fun b hb=>by
  have e:Kz (Qo Try.f106)=[.loop (QW Try.f106 0)]:=by kernel_rfl
  rw[e,List.mem_singleton]at hb;subst hb;exact QRR (QP vB) (by omega) (Qq (QP vB) 0 G _ hrd) (fun _=>Nat.zero_le _) QQ4 (fun st K T h=>QWS (QW Try.f106 0) st K T h),(Qq (QP vB) 0 G (Qo Try.f106) hrd).call,(Qq (QP vB) 0 G (Qo Try.f106) hrd).yield⟩
def Kf(s:Sp)(lo hi:Int)(d:Sp):Bool:=decide (s.lo≤s.hi∧(-100000≤s.lo∧s.lo≤100000)∧(-100000≤s.hi∧s.hi≤100000)∧(-500≤lo∧lo≤0)∧(0≤hi∧hi≤500)∧0≤d.lo∧d.lo≤100)
def QLQ:Sp×Int×Int×Sp×Unit→Bool×AV:=fun|(s,(lo,(hi,(d,_))))=>(Kf s lo hi d,.bool false (Qs s.lo s.hi lo hi d.lo))
def QHo:FC:=Q2 (Q3 QLQ)
theorem QUv(s:Sp)(lo:Int)(hi:Int)(d:Sp):Qy (mkE Try.prog Yf) { hnd (mkE Try.prog Yf) 0 with loop:=Yd } false Try.f106 (Qp.enc ((s,lo,hi,d,()):Sp×Int×Int×Sp×Unit)) [] 0 =
  QD.need (decide (KI.mk s d lo hi (max s.lo lo)).pre) (QD.both (QD.asm ((KI.mk s d lo hi (max s.lo lo)).yes) (QD.all (fun(g0:Nat→Value)=>QD.leaf (AV.bool true
  true) ([])))) (QD.asm (¬(KI.mk s d lo hi (max s.lo lo)).yes) (QD.all (fun(g1:Nat→Value)=>QD.leaf (AV.bool true false) ([]))))):=by kernel_rfl
theorem QQH:QO Try.prog 106 QHo:=by
 refine QFP (QP vB) Try.func106 (by kernel_rfl) (by kernel_rfl) QWH ?_
 rintro⟨s,lo,hi,d,⟨⟩⟩ hp;rw[QUv s lo hi d];simp only[QLQ,QD.den,AV.same,AV.sameL,and_true,true_and]at hp ⊢;have hq:=qdt hp;obtain⟨h0,h1,h2,h3,h4,h5⟩:=hq;unfold KI.yes KI.good;refine⟨decide_eq_true ⟨h1,h2,h3,h4,h5,?_,?_⟩,?_,?_⟩
 ·show -100000≤max s.lo lo;omega
 ·show max s.lo lo≤100001;omega
 ·rintro⟨n,g1,g2,g3,g4⟩ _
  dsimp only at g1 g2 g3 g4
  exact(QX6 (n:=n) (by omega) (by omega) (by omega) (by omega) (by omega) g3 g4).symm
 ·intro hn _
  dsimp only at hn
  refine(QY4 (by omega) (by omega) (by omega) h0 fun n g1 g2 g3=>hn ⟨n,g1,g2,g3⟩).symm
def QBz:Tab:=Qd Yf 106 QHo
theorem QMQ:QZ QBz:=vB.add QQH
theorem QGk{p:Qn}{t h:Edge}(h1:p.ok=true)(h2:t.ok=true)(h3:h.ok=true)(ht:t.kind=1)(hh:h.kind=2):(Qu.B ⟨p,t,h⟩∧i64.wrap (0-p.slack) = -p.slack)∧(Vw (Qg p t h) (-p.slack) p.slack p.damp=true∧Vw (Qi t h) 0 p.loose p.damp=true∧Vw (Qh t h) 0 p.loose p.damp=true) ∧
  Kf (Qg p t h) (-p.slack) p.slack p.damp=true∧Kf (Qi t h) 0 p.loose p.damp=true∧Kf (Qh t h) 0 p.loose p.damp=true:=by
 have hB:=QCr h1 h2 h3 ht hh;have hb:=QWn hB;have h1':=hB.1;unfold J4 at h1'
 have s2:(t.at_.lo≤t.at_.hi∧t.wide.lo≤t.wide.hi∧t.deep.lo≤t.deep.hi):=by
  unfold Edge.ok Sp.isIn at h2;simp[ht]at h2;omega
 have s3:(h.at_.lo≤h.at_.hi∧h.wide.lo≤h.wide.hi∧h.deep.lo≤h.deep.hi):=by
  unfold Edge.ok Sp.isIn at h3;simp[hh]at h3;omega
 obtain⟨o1,o2,o3,o4⟩:=hb;simp only at h1';have n1:(Qg p t h).lo≤(Qg p t h).hi:=by simp only[Qg];omega
 have n2:(Qi t h).lo≤(Qi t h).hi:=by simp only[Qi];omega
 have n3:(Qh t h).lo≤(Qh t h).hi:=by simp only[Qh];omega
 unfold Vw Kf;refine⟨⟨hB,?_⟩,⟨decide_eq_true ?_,decide_eq_true ?_,decide_eq_true ?_⟩,decide_eq_true ?_,decide_eq_true ?_,decide_eq_true ?_⟩
 ·rw[w64 (by omega) (by omega)];omega
 all_goals omega
def QHS:Qn×Edge×Edge×Unit→Bool×AV:=fun|(p,(a,(b,_)))=>(okP p a b,.int false .i64 (ZU p a b))
def QMY:FC:=Q2 (Q3 QHS)
theorem QTv(p:Qn)(a:Edge)(b:Edge):Qy (mkE Try.prog QBz) (hnd (mkE Try.prog QBz) 4) false Try.f89 (Qp.enc ((p,a,b,()):Qn×Edge×Edge×Unit)) [] 0 = .br (a.kind==1) (.br (b.kind==2)
  (.need (decide (Qu.mk p a b).B) (.need (Vw (Qg p a b) (i64.wrap ((0:Int)-p.slack)) p.slack p.damp) (.br (KZ (Qg p a b).lo (Qg p a b).hi
  (i64.wrap ((0:Int)-p.slack)) p.slack p.damp.hi) (.need (Vw (Qi a b) (0:Int) p.loose p.damp) (.br (KZ (Qi a b).lo (Qi a b).hi (0:Int) p.loose
  p.damp.hi) (.need (Vw (Qh a b) (0:Int) p.loose p.damp) (.br (KZ (Qh a b).lo (Qh a b).hi (0:Int) p.loose p.damp.hi) (.leaf (.int true .i64 2) ([])) (.need
  (Kf (Qg p a b) (i64.wrap ((0:Int)-p.slack)) p.slack p.damp) (.br (Qs (Qg p a b).lo (Qg p a b).hi (i64.wrap ((0:Int)-p.slack)) p.slack
  p.damp.lo) (.need (Kf (Qi a b) (0:Int) p.loose p.damp) (.br (Qs (Qi a b).lo (Qi a b).hi (0:Int) p.loose p.damp.lo) (.need (Kf (Qh a b) (0:Int)
  p.loose p.damp) (.br (Qs (Qh a b).lo (Qh a b).hi (0:Int) p.loose p.damp.lo) (.leaf (.int true .i64 1) ([])) (.leaf (.int true .i64 0) ([])))) (.leaf (.int true .i64
  0) ([])))) (.leaf (.int true .i64 0) ([])))))) (.need (Kf (Qg p a b) (i64.wrap ((0:Int)-p.slack)) p.slack p.damp) (.br (Qs (Qg p a b).lo (Qg p a b).hi
  (i64.wrap ((0:Int)-p.slack)) p.slack p.damp.lo) (.need (Kf (Qi a b) (0:Int) p.loose p.damp) (.br (Qs (Qi a b).lo (Qi a b).hi (0:Int) p.loose
  p.damp.lo) (.need (Kf (Qh a b) (0:Int) p.loose p.damp) (.br (Qs (Qh a b).lo (Qh a b).hi (0:Int) p.loose p.damp.lo) (.leaf (.int true .i64 1) ([])) (.leaf
  (.int true .i64 0) ([])))) (.leaf (.int true .i64 0) ([])))) (.leaf (.int true .i64 0) ([])))))) (.need (Kf (Qg p a b) (i64.wrap ((0:Int)-p.slack)) p.slack p.damp)
  (.br (Qs (Qg p a b).lo (Qg p a b).hi (i64.wrap ((0:Int)-p.slack)) p.slack p.damp.lo) (.need (Kf (Qi a b) (0:Int) p.loose p.damp) (.br (Qs
  (Qi a b).lo (Qi a b).hi (0:Int) p.loose p.damp.lo) (.need (Kf (Qh a b) (0:Int) p.loose p.damp) (.br (Qs (Qh a b).lo (Qh a b).hi (0:Int) p.loose
  p.damp.lo) (.leaf (.int true .i64 1) ([])) (.leaf (.int true .i64 0) ([])))) (.leaf (.int true .i64 0) ([])))) (.leaf (.int true .i64 0) ([]))))))) (.br (b.kind==1) (.br (a.kind
  == 2) (.need (decide (Qu.mk p b a).B) (.need (Vw (Qg p b a) (i64.wrap ((0:Int)-p.slack)) p.slack p.damp) (.br (KZ (Qg p b a).lo (Qg p b a).hi
  (i64.wrap ((0:Int)-p.slack)) p.slack p.damp.hi) (.need (Vw (Qi b a) (0:Int) p.loose p.damp) (.br (KZ (Qi b a).lo (Qi b a).hi (0:Int) p.loose
  p.damp.hi) (.need (Vw (Qh b a) (0:Int) p.loose p.damp) (.br (KZ (Qh b a).lo (Qh b a).hi (0:Int) p.loose p.damp.hi) (.leaf (.int true .i64 2) ([])) (.need
  (Kf (Qg p b a) (i64.wrap ((0:Int)-p.slack)) p.slack p.damp) (.br (Qs (Qg p b a).lo (Qg p b a).hi (i64.wrap ((0:Int)-p.slack)) p.slack
  p.damp.lo) (.need (Kf (Qi b a) (0:Int) p.loose p.damp) (.br (Qs (Qi b a).lo (Qi b a).hi (0:Int) p.loose p.damp.lo) (.need (Kf (Qh b a) (0:Int)
  p.loose p.damp) (.br (Qs (Qh b a).lo (Qh b a).hi (0:Int) p.loose p.damp.lo) (.leaf (.int true .i64 1) ([])) (.leaf (.int true .i64 0) ([])))) (.leaf (.int true .i64
  0) ([])))) (.leaf (.int true .i64 0) ([])))))) (.need (Kf (Qg p b a) (i64.wrap ((0:Int)-p.slack)) p.slack p.damp) (.br (Qs (Qg p b a).lo (Qg p b a).hi
  (i64.wrap ((0:Int)-p.slack)) p.slack p.damp.lo) (.need (Kf (Qi b a) (0:Int) p.loose p.damp) (.br (Qs (Qi b a).lo (Qi b a).hi (0:Int) p.loose
  p.damp.lo) (.need (Kf (Qh b a) (0:Int) p.loose p.damp) (.br (Qs (Qh b a).lo (Qh b a).hi (0:Int) p.loose p.damp.lo) (.leaf (.int true .i64 1) ([])) (.leaf
  (.int true .i64 0) ([])))) (.leaf (.int true .i64 0) ([])))) (.leaf (.int true .i64 0) ([])))))) (.need (Kf (Qg p b a) (i64.wrap ((0:Int)-p.slack)) p.slack p.damp)
  (.br (Qs (Qg p b a).lo (Qg p b a).hi (i64.wrap ((0:Int)-p.slack)) p.slack p.damp.lo) (.need (Kf (Qi b a) (0:Int) p.loose p.damp) (.br (Qs
  (Qi b a).lo (Qi b a).hi (0:Int) p.loose p.damp.lo) (.need (Kf (Qh b a) (0:Int) p.loose p.damp) (.br (Qs (Qh b a).lo (Qh b a).hi (0:Int) p.loose
  p.damp.lo) (.leaf (.int true .i64 1) ([])) (.leaf (.int true .i64 0) ([])))) (.leaf (.int true .i64 0) ([])))) (.leaf (.int true .i64 0) ([]))))))) (.leaf (.int true .i64 0) ([])))
  (.leaf (.int true .i64 0) ([])))) (.br (b.kind==1) (.br (a.kind==2) (.need (decide (Qu.mk p b a).B) (.need (Vw (Qg p b a) (i64.wrap ((0:Int)-p.slack))
  p.slack p.damp) (.br (KZ (Qg p b a).lo (Qg p b a).hi (i64.wrap ((0:Int)-p.slack)) p.slack p.damp.hi) (.need (Vw (Qi b a) (0:Int) p.loose p.damp) (.br
  (KZ (Qi b a).lo (Qi b a).hi (0:Int) p.loose p.damp.hi) (.need (Vw (Qh b a) (0:Int) p.loose p.damp) (.br (KZ (Qh b a).lo (Qh b a).hi (0:Int)
  p.loose p.damp.hi) (.leaf (.int true .i64 2) ([])) (.need (Kf (Qg p b a) (i64.wrap ((0:Int)-p.slack)) p.slack p.damp) (.br (Qs (Qg p b a).lo (Qg p b
  a).hi (i64.wrap ((0:Int)-p.slack)) p.slack p.damp.lo) (.need (Kf (Qi b a) (0:Int) p.loose p.damp) (.br (Qs (Qi b a).lo (Qi b a).hi (0:Int)
  p.loose p.damp.lo) (.need (Kf (Qh b a) (0:Int) p.loose p.damp) (.br (Qs (Qh b a).lo (Qh b a).hi (0:Int) p.loose p.damp.lo) (.leaf (.int true .i64 1) ([]))
  (.leaf (.int true .i64 0) ([])))) (.leaf (.int true .i64 0) ([])))) (.leaf (.int true .i64 0) ([])))))) (.need (Kf (Qg p b a) (i64.wrap ((0:Int)-p.slack)) p.slack
  p.damp) (.br (Qs (Qg p b a).lo (Qg p b a).hi (i64.wrap ((0:Int)-p.slack)) p.slack p.damp.lo) (.need (Kf (Qi b a) (0:Int) p.loose p.damp) (.br
  (Qs (Qi b a).lo (Qi b a).hi (0:Int) p.loose p.damp.lo) (.need (Kf (Qh b a) (0:Int) p.loose p.damp) (.br (Qs (Qh b a).lo (Qh b a).hi (0:Int)
  p.loose p.damp.lo) (.leaf (.int true .i64 1) ([])) (.leaf (.int true .i64 0) ([])))) (.leaf (.int true .i64 0) ([])))) (.leaf (.int true .i64 0) ([])))))) (.need (Kf (Qg p b
  a) (i64.wrap ((0:Int)-p.slack)) p.slack p.damp) (.br (Qs (Qg p b a).lo (Qg p b a).hi (i64.wrap ((0:Int)-p.slack)) p.slack p.damp.lo) (.need
  (Kf (Qi b a) (0:Int) p.loose p.damp) (.br (Qs (Qi b a).lo (Qi b a).hi (0:Int) p.loose p.damp.lo) (.need (Kf (Qh b a) (0:Int) p.loose p.damp) (.br
  (Qs (Qh b a).lo (Qh b a).hi (0:Int) p.loose p.damp.lo) (.leaf (.int true .i64 1) ([])) (.leaf (.int true .i64 0) ([])))) (.leaf (.int true .i64 0) ([])))) (.leaf
  (.int true .i64 0) ([]))))))) (.leaf (.int true .i64 0) ([]))) (.leaf (.int true .i64 0) ([]))):=by kernel_rfl
theorem QWd:QO Try.prog 89 QMY:=by
 refine KC QMQ 4 Try.func89 (by kernel_rfl) (by kernel_rfl) ?_
 rintro⟨p,a,b,⟨⟩⟩ hp;rw[QTv p a b];simp only[QHS,QD.den,AV.same,AV.sameL,and_true,true_and]at hp ⊢;unfold okP at hp;simp only[qbA]at hp;obtain⟨h1,h2,h3⟩:=hp;unfold ZU
 by_cases c1:a.kind=1∧b.kind=2
 ·obtain⟨ha,hb⟩:=c1;obtain⟨⟨q1,q2⟩,⟨q3,q4,q5⟩,q6,q7,q8⟩:=QGk h1 h2 h3 ha hb;rw[if_neg (by omega),if_pos ⟨ha,hb⟩,QDm]
  simp only[ha,hb,q1,q2,q3,q4,q5,q6,q7,q8,alw,may,beq_self_eq_true,decide_true];generalize KZ (Qg p a b).lo (Qg p a b).hi (-p.slack) p.slack p.damp.hi=b1;generalize KZ (Qi a b).lo (Qi a b).hi 0 p.loose p.damp.hi=b2;generalize KZ (Qh a b).lo (Qh a b).hi 0 p.loose p.damp.hi=b3;generalize Qs (Qg p a b).lo (Qg p a b).hi (-p.slack) p.slack p.damp.lo=b4;generalize Qs (Qi a b).lo (Qi a b).hi 0 p.loose p.damp.lo=b5;generalize Qs (Qh a b).lo (Qh a b).hi 0 p.loose p.damp.lo=b6;cases b1<;>cases b2<;>cases b3<;>cases b4<;>cases b5<;>cases b6<;>simp
 by_cases c2:b.kind=1∧a.kind=2
 ·obtain⟨hb,ha⟩:=c2;obtain⟨⟨q1,q2⟩,⟨q3,q4,q5⟩,q6,q7,q8⟩:=QGk h1 h3 h2 hb ha;rw[if_pos ha,if_pos hb,QDm];simp only[ha,hb,q1,q2,q3,q4,q5,q6,q7,q8,alw,may,beq_self_eq_true,decide_true];generalize KZ (Qg p b a).lo (Qg p b a).hi (-p.slack) p.slack p.damp.hi=b1;generalize KZ (Qi b a).lo (Qi b a).hi 0 p.loose p.damp.hi=b2;generalize KZ (Qh b a).lo (Qh b a).hi 0 p.loose p.damp.hi=b3;generalize Qs (Qg p b a).lo (Qg p b a).hi (-p.slack) p.slack p.damp.lo=b4;generalize Qs (Qi b a).lo (Qi b a).hi 0 p.loose p.damp.lo=b5;generalize Qs (Qh b a).lo (Qh b a).hi 0 p.loose p.damp.lo=b6
  cases b1<;>cases b2<;>cases b3<;>cases b4<;>cases b5<;>cases b6<;>simp
 have e0:(if a.kind=2 then (if b.kind=1 then ZQ p b a else 0)else if a.kind=1∧b.kind=2 then ZQ p a b else 0)=0:=by
  split
  ·rename_i ha;rw[if_neg (fun h=>c2 ⟨h,ha⟩)]
  ·rfl
 rw[e0];simp only[beq_iff_eq,beq_eq_false_iff_ne];refine⟨fun ha=>⟨fun hb=>absurd ⟨ha,hb⟩ c1,fun _=>⟨fun hb=>⟨fun h=>absurd ⟨hb,h⟩ c2,fun _=>trivial⟩,fun _=>trivial⟩⟩,fun _=>⟨fun hb=>⟨fun h=>absurd ⟨hb,h⟩ c2,fun _=>trivial⟩,fun _=>trivial⟩⟩
def QAp:Tab:=Qd QBz 89 QMY
theorem QKm:QZ QAp:=QMQ.add QWd
def QL4:Qn×Edge×Edge×Unit→Bool×AV:=fun|(p,(a,(b,_)))=>(true,.tup [.int false .i64 (KH p a b).1,.int false .i64 (KH p a b).2])
def QMe:FC:=Q2 (Q3 QL4)
theorem QQx(p:Qn)(a:Edge)(b:Edge):Qy (mkE Try.prog QAp) (hnd (mkE Try.prog QAp) 4) false Try.f69 (Qp.enc ((p,a,b,()):Qn×Edge×Edge×Unit)) [] 0 =
  QD.need (true) (QD.br (!p.ok) (QD.leaf (AV.tup [AV.int true i64 (0:Int),AV.int true i64 (1:Int)]) ([])) (QD.need (true) (QD.br (!a.ok) (QD.leaf
  (AV.tup [AV.int true i64 (0:Int),AV.int true i64 (1:Int)]) ([])) (QD.need (true) (QD.br (!b.ok) (QD.leaf (AV.tup [AV.int true i64 (0:Int),
  AV.int true i64 (1:Int)]) ([])) (QD.need (okP p a b) (QD.leaf (AV.tup [AV.int false i64 (ZU p a b),AV.int true i64 (0:Int)]) ([])))))))):=by kernel_rfl
theorem QWI:QO Try.prog 69 QMe:=by
 refine KC QKm 4 Try.func69 (by kernel_rfl) (by kernel_rfl) ?_
 rintro⟨p,a,b,⟨⟩⟩ hp;rw[QQx p a b];simp only[QL4,QD.den,AV.same,AV.sameL,and_true,true_and]at hp ⊢;unfold KH okP;cases p.ok<;>cases a.ok<;>cases b.ok<;>simp
def QAf:Tab:=Qd QAp 69 QMe
theorem QKp:QZ QAf:=QKm.add QWI
end Go.Proofs.Ytbpffdkemeoajaa
