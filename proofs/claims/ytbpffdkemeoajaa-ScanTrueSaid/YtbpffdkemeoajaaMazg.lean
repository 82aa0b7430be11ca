/- - -/
import Derived.Test.YtbpffdkemeoajaaMazf
import Derived.Test.YtbpffdkemeoajaaMat
import Derived.Test.YtbpffdkemeoajaaMap
open Go.IntKind (i64)
set_option maxRecDepth 100000
namespace Go.Proofs.Ytbpffdkemeoajaa
open Go.SX
def QP9(b:Nat)(f:Nat→Int)(k:Nat):Nat×Blk:=(b,.rowz true 3 [.int .i64] k fun i _=>f i)
variable (f:Nat→Int)(x:QE)(k k' n:Nat)
def V2(k:Nat):JSt:=⟨42,[(2,.slz 440 0 k (.of 0)),(6,.ptr 368 0 0),(27,.int false .i64 n),(28,.int false .i64 k)],[(368,.cells 1 95 (qW f)),QP9 440 f k],448⟩
def QE9:JSt:=⟨42,[(2,.slz 440 0 n (.of 0)),(6,.ptr 368 0 0)],[(368,.cells 1 95 (qW f)),QP9 440 f n],448⟩
def QI1:Ex→List Nat
 | .normal=>[2,6,27,28]
 | .exit _=>[2,6]
 | .ret=>[]
def QAH(f:List Int)(a e:Int):AV := .tup [.slz 0 0 f.length (.of 0),.int false .i64 a,.int false .i64 e]
noncomputable abbrev YP:List AV:=
  [.nilp,.ptr 42 0 0,.slz 520 0 (k+1) cO,.ptr 368 0 0,vi (n:Int),vi (i64.wrap ((k:Int)+1))]
noncomputable abbrev Jg:Nat×Blk:=
  (368,.cells 1 95 [vi (f 0),vi (f 1),vi (f 2),vi (f 3),vi (f 4),vi (f 5),vi (f 6),
  .int false .i64 (f 7),vi (f 8),vi (f 9),vi (f 10),vi (f 11),vi (f 12)])
noncomputable abbrev QL5:List (Nat×Blk):=
  [(520,.rowz true 3 [.int .i64] (k+1) (QY k (fun i x=>f i) (QR [[vi (f 10)]] 0))),(Jg f)]
noncomputable abbrev QLL:List (Nat×Blk):=
  [(520,.rowz true 3 [.int .i64] (k+1) (QY k (fun i x=>f i) (QR [[vi (f 11)]] 0))),(Jg f)]
theorem QXs(n k:Nat)(g:Nat→Value):exec (mkF Try.prog Qn) (hnd (mkF Try.prog Qn) 3) (Qd Try.f20 0) (JSt.inst (V2 f n k) g) (KS [] QI1) = .br (decide ((k:Int)<(n:Int))) (.need (decide ((0 :
  Int)≤(k:Int)∧(k:Int)<12)) (.br (decide ((k:Int)=0)) (.need (decide (k≤k)&&(true&&decide ((k+1+(k+1) / 4+192)*8≤281474976710656∧k+1 ≤
  9223372036854775807))) (.leaf (.tup (YP k n)) ([(520,.rowz true 3 [.int .i64] (k+1) (QY k (fun i x=>f i) (QR [[vi (f 0)]] 0))),(Jg f)]))) (.br (decide
  ((k:Int)=1)) (.need (decide (k≤k)&&(true&&decide ((k+1+(k+1) / 4+192)*8≤281474976710656∧k+1≤9223372036854775807))) (.leaf (.tup (YP k n)) ([(520,.rowz
  true 3 [.int .i64] (k+1) (QY k (fun i x=>f i) (QR [[vi (f 1)]] 0))),(Jg f)]))) (.br (decide ((k:Int)=2)) (.need (decide (k≤k)&&(true&&decide ((k +
  1+(k+1) / 4+192)*8≤281474976710656∧k+1≤9223372036854775807))) (.leaf (.tup (YP k n)) ([(520,.rowz true 3 [.int .i64] (k+1) (QY k (fun i x=>f i) (QR
  [[vi (f 2)]] 0))),(Jg f)]))) (.br (decide ((k:Int)=3)) (.need (decide (k≤k)&&(true&&decide ((k+1+(k+1) / 4+192)*8≤281474976710656∧k+1 ≤
  9223372036854775807))) (.leaf (.tup (YP k n)) ([(520,.rowz true 3 [.int .i64] (k+1) (QY k (fun i x=>f i) (QR [[vi (f 3)]] 0))),(Jg f)]))) (.br (decide
  ((k:Int)=4)) (.need (decide (k≤k)&&(true&&decide ((k+1+(k+1) / 4+192)*8≤281474976710656∧k+1≤9223372036854775807))) (.leaf (.tup (YP k n)) ([(520,.rowz
  true 3 [.int .i64] (k+1) (QY k (fun i x=>f i) (QR [[vi (f 4)]] 0))),(Jg f)]))) (.br (decide ((k:Int)=5)) (.need (decide (k≤k)&&(true&&decide ((k +
  1+(k+1) / 4+192)*8≤281474976710656∧k+1≤9223372036854775807))) (.leaf (.tup (YP k n)) ([(520,.rowz true 3 [.int .i64] (k+1) (QY k (fun i x=>f i) (QR
  [[vi (f 5)]] 0))),(Jg f)]))) (.br (decide ((k:Int)=6)) (.need (decide (k≤k)&&(true&&decide ((k+1+(k+1) / 4+192)*8≤281474976710656∧k+1 ≤
  9223372036854775807))) (.leaf (.tup (YP k n)) ([(520,.rowz true 3 [.int .i64] (k+1) (QY k (fun i x=>f i) (QR [[vi (f 6)]] 0))),(Jg f)]))) (.br (decide
  ((k:Int)=7)) (.need (decide (k≤k)&&(true&&decide ((k+1+(k+1) / 4+192)*8≤281474976710656∧k+1≤9223372036854775807))) (.leaf (.tup (YP k n)) ([(520,.rowz
  true 3 [.int .i64] (k+1) (QY k (fun i x=>f i) (QR [[vi (f 7)]] 0))),(Jg f)]))) (.br (decide ((k:Int)=8)) (.need (decide (k≤k)&&(true&&decide ((k +
  1+(k+1) / 4+192)*8≤281474976710656∧k+1≤9223372036854775807))) (.leaf (.tup (YP k n)) ([(520,.rowz true 3 [.int .i64] (k+1) (QY k (fun i x=>f i) (QR
  [[vi (f 8)]] 0))),(Jg f)]))) (.br (decide ((k:Int)=9)) (.need (decide (k≤k)&&(true&&decide ((k+1+(k+1) / 4+192)*8≤281474976710656∧k+1 ≤
  9223372036854775807))) (.leaf (.tup (YP k n)) ([(520,.rowz true 3 [.int .i64] (k+1) (QY k (fun i x=>f i) (QR [[vi (f 9)]] 0))),(Jg f)]))) (.br (decide
  ((k:Int)=10)) (.need (decide (k≤k)&&(true&&decide ((k+1+(k+1) / 4+192)*8≤281474976710656∧k+1≤9223372036854775807))) (.leaf (.tup (YP k n)) ((QL5 f
  k)))) (.need (decide (k≤k)&&(true&&decide ((k+1+(k+1) / 4+192)*8≤281474976710656∧k+1≤9223372036854775807))) (.leaf (.tup (YP k n)) ((QLL f
  k)))))))))))))))) (.leaf (.tup [.ptr 0 0 0,.ptr 42 0 0,.slz 440 0 k cO,.ptr 368 0 0]) ([(440,.rowz true 3 [.int .i64] k fun i x=>f i),(Jg f)])):=by kernel_rfl
theorem QRz(pb:List Prop→Bool)(x:QE)(e:Int):Kc (mkE Try.prog (Ko pb (opE x e))) (hnd (mkE Try.prog (Ko pb (opE x e))) 1) Try.f20 (QX.vals 0 ((x,()):QE×Unit)) (QX.blks 0 ((x,()):QE×Unit)) 8 =
  QD.need (pb ([x.d.play.length = x.d.play.length, x.d.play.slack = x.d.play.slack, x.d.play.loose = x.d.play.loose, x.d.play.damp.lo = x.d.play.damp.lo, x.d.play.damp.hi = x.d.play.damp.hi, x.d.wide = x.d.wide, x.d.high = x.d.high, x.d.turn = x.d.turn, (0 : Nat) = (0 : Nat), x.d.ps.n = x.d.ps.n, Cap.of (0 : Nat) = Cap.of (0 : Nat), (0 : Nat) = (0 : Nat), x.scans.n = x.scans.n, Cap.of (0 : Nat) = Cap.of (0 : Nat), (0 : Nat) = (0 : Nat), x.hang.n = x.hang.n, Cap.of (0 : Nat) = Cap.of (0 : Nat), x.lost = x.lost, x.foreign = x.foreign, x.d.ps.n ≤ x.d.ps.n, QC (28 : Nat) x.d.ps.n (fun i => QA.enc (x.d.ps.get i)) fun i => QA.enc (x.d.ps.get i), x.scans.n ≤ x.scans.n, QC (28 : Nat) x.scans.n (fun i => QA.enc (x.scans.get i)) fun i => QA.enc (x.scans.get i), x.hang.n ≤ x.hang.n, QC (4 : Nat) x.hang.n (fun i => QA.enc (x.hang.get i)) fun i => QA.enc (x.hang.get i)])) (QD.br (e != (0 : Int)) (QD.leaf (AV.tup [AV.nils, AV.int true i64 (0 : Int), AV.int false i64 e]) ([])) (QD.fail ("a call without a contract"))) := by kernel_rfl
def zm(pb:List Prop→Bool)(x:QE)(C:List (List QB))(U:UC):Tab:=Qe (Ko pb (opO x C)) 77 (Jj pb U)
abbrev QD2(P:Program)(T:Tab)(f:Nat→Int)(n:Nat):Hnd:={ hnd (mkE P T) 8 with loop:=fun _=>KN 8 [] (V2 f n (0:Nat)) [(True,.exit 0,QE9 f n)] }
theorem Qas(pb:List Prop→Bool)(x:QE)(C:List (List QB))(has':Int→Bool)(many':Int)(f':Nat→Int):Kc (mkE Try.prog (zm pb x C (plU x C (QM Try.f50 0).1 (QM Try.f50 0).2 [] noH 0 (fun _=>0) has' many' f'))) (QD2 Try.prog (zm pb x C (plU x C (QM Try.f50
  0).1 (QM Try.f50 0).2 [] noH 0 (fun _=>0) has' many' f')) f' x.scans.n) Try.f20 (QX.vals 0 ((x,()):QE×Unit)) (QX.blks 0 ((x,()):QE×Unit)) 8 = .need (pb
  ([x.d.play.length=x.d.play.length,x.d.play.slack=x.d.play.slack,x.d.play.loose=x.d.play.loose,x.d.play.damp.lo=x.d.play.damp.lo,x.d.play.damp.hi=x.d.play.damp.hi,
  x.d.wide=x.d.wide,x.d.high=x.d.high,x.d.turn=x.d.turn,0=0,x.d.ps.n=x.d.ps.n,cO=cO,0=0,x.scans.n=x.scans.n,cO=cO,0=0,x.hang.n =
  x.hang.n,cO=cO,x.lost=x.lost,x.foreign=x.foreign,x.d.ps.n≤x.d.ps.n,QC 28 x.d.ps.n (fun i=>QA.enc (x.d.ps.get i)) fun i=>QA.enc (x.d.ps.get i),
  x.scans.n≤x.scans.n,QC 28 x.scans.n (fun i=>QA.enc (x.scans.get i)) fun i=>QA.enc (x.scans.get i),x.hang.n≤x.hang.n,QC 4 x.hang.n (fun i=>QA.enc
  (x.hang.get i)) fun i=>QA.enc (x.hang.get i)])) (.need (pb ([0=0,0=0,0=0,0=0,0=0,0=0,0=0,0=0,0=0,0=0,0=0,0=0,([]:List MapEntry)=[],
  qD (.int true .i64 0) noH fun i => .int false .i64 (QH [] i),LoopState.ready=LoopState.ready,(none:Option Code)=none,Array.mk [12]=Array.mk [12],(QM Try.f50
  0).1=(QM Try.f50 0).1,(QM Try.f50 0).2=(QM Try.f50 0).2,0=0,0=0,(0:Int)=0,(0:Int)=0,(0:Int)=0,(0:Int)=0,(0:Int)=0,(0:Int)=0,(0
  : Int)=0,(0:Int)=0,(0:Int)=0,(0:Int)=0,(0:Int)=0,(0:Int)=0,(0:Int)=0,Fn.func 51=Fn.func 51,0=0,0=0,0=0,0=0,0=0,0=0,false =
  false,0=0,0=0,0=0,0=0,Fn.func 76=Fn.func 76,0=0,0=0,(0:Int)=0,(0:Int)=0,(0:Int)=0,(0:Int)=0,(0:Int)=0,(0:Int)=0,(0:Int)=0,(0
  : Int)=0,(0:Int)=0,(0:Int)=0,(0:Int)=0,(0:Int)=0,(0:Int)=0,(0:Int)=0,Fn.func 77=Fn.func 77,0=0,0=0,0=0,0=0,0=0,0=0,0=0,0 =
  0,0=0,0=0,0=0,0=0,Fn.func 51=Fn.func 51,x.d.play.length=x.d.play.length,x.d.play.slack=x.d.play.slack,x.d.play.loose=x.d.play.loose,x.d.play.damp.lo =
  x.d.play.damp.lo,x.d.play.damp.hi=x.d.play.damp.hi,x.d.wide=x.d.wide,x.d.high=x.d.high,x.d.turn=x.d.turn,0=0,x.d.ps.n=x.d.ps.n,cO=cO,0=0,
  x.scans.n=x.scans.n,cO=cO,0=0,x.hang.n=x.hang.n,cO=cO,x.lost=x.lost,x.foreign=x.foreign,0=0,C.length=C.length,cO=cO,
  C.length=C.length,Kd 2 C.length (fun i=>(QJ C i).length) (fun i=>(QJ C i).length) (fun i j=>QA.enc ((QJ C i).getD j ⟨0,0⟩)) fun i j=>QA.enc ((QJ C
  i).getD j ⟨0,0⟩),x.d.ps.n≤x.d.ps.n,QC 28 x.d.ps.n (fun i=>QA.enc (x.d.ps.get i)) fun i=>QA.enc (x.d.ps.get i),x.scans.n≤x.scans.n,QC 28 x.scans.n (fun i=>
  QA.enc (x.scans.get i)) fun i=>QA.enc (x.scans.get i),x.hang.n≤x.hang.n,QC 4 x.hang.n (fun i=>QA.enc (x.hang.get i)) fun i=>QA.enc (x.hang.get i)])) (.br
  (!decide (many'>0)) (.leaf (.tup [.nils,vj 0,vj 6]) ([])) (.ask (0=0) (.ask (0=0) (.ask (0=0) (.ask ((x.scans.n:Int)=(x.scans.n:Int)) (.ask
  ((0:Int)=0) (.ask (f' 0=f' 0) (.ask (f' 1=f' 1) (.ask (f' 2=f' 2) (.ask (f' 3=f' 3) (.ask (f' 4=f' 4) (.ask (f' 5=f' 5) (.ask (f' 6=f' 6) (.ask (f' 7=f' 7) (.ask
  (f' 8=f' 8) (.ask (f' 9=f' 9) (.ask (f' 10=f' 10) (.ask (f' 11=f' 11) (.ask (f' 12=f' 12) (.ask (0=0) (.asm (True) (.all (fun(g0:Nat→Value) => .leaf (.tup [.slz 440
  0 x.scans.n cO,vi (f' 12),vj 0]) ([(440,.rowz true 3 [.int .i64] x.scans.n fun i x=>f' i)]))))))))))))))))))))))))):=by kernel_rfl
noncomputable abbrev X3:List AV:=
  [.slz 520 0 (k+1) cO,.ptr 368 0 0,vi (n:Int),vi (i64.wrap ((k:Int)+1))]
abbrev X1:List Prop:=
  [0=0,k+1=k',cO=cO,0=0,0=0,(n:Int)=(n:Int),i64.wrap ((k:Int)+1)=(k':Int),f 0=f 0,f 1=f 1,f 2=f 2,f 3=f 3,f 4=f 4,f
  5=f 5,f 6=f 6,f 7=f 7,f 8=f 8,f 9=f 9,f 10=f 10,f 11=f 11,f 12=f 12]
theorem QYT(n k k':Nat):QK 8 (X3 k n) ([(520,.rowz true 3 [.int .i64] (k+1) (QY k (fun i x=>f i) (QR [[vi (f 0)]] 0))),(Jg f)]) (V2 f n k')=(some ((X1 f k k' n)++[k'
  ≤ k+1,QC 1 k' (QY k (fun i x=>f i) (QR [[vi (f 0)]] 0)) fun i x=>f i])):=by kernel_rfl
theorem QZb(n k k':Nat):QK 8 (X3 k n) ([(520,.rowz true 3 [.int .i64] (k+1) (QY k (fun i x=>f i) (QR [[vi (f 1)]] 0))),(Jg f)]) (V2 f n k')=(some ((X1 f k k' n)++[k'
  ≤ k+1,QC 1 k' (QY k (fun i x=>f i) (QR [[vi (f 1)]] 0)) fun i x=>f i])):=by kernel_rfl
theorem QS7(n k k':Nat):QK 8 (X3 k n) ([(520,.rowz true 3 [.int .i64] (k+1) (QY k (fun i x=>f i) (QR [[vi (f 2)]] 0))),(Jg f)]) (V2 f n k')=(some ((X1 f k k' n)++[k'
  ≤ k+1,QC 1 k' (QY k (fun i x=>f i) (QR [[vi (f 2)]] 0)) fun i x=>f i])):=by kernel_rfl
theorem QXk(n k k':Nat):QK 8 (X3 k n) ([(520,.rowz true 3 [.int .i64] (k+1) (QY k (fun i x=>f i) (QR [[vi (f 3)]] 0))),(Jg f)]) (V2 f n k')=(some ((X1 f k k' n)++[k'
  ≤ k+1,QC 1 k' (QY k (fun i x=>f i) (QR [[vi (f 3)]] 0)) fun i x=>f i])):=by kernel_rfl
theorem QSo(n k k':Nat):QK 8 (X3 k n) ([(520,.rowz true 3 [.int .i64] (k+1) (QY k (fun i x=>f i) (QR [[vi (f 4)]] 0))),(Jg f)]) (V2 f n k')=(some ((X1 f k k' n)++[k'
  ≤ k+1,QC 1 k' (QY k (fun i x=>f i) (QR [[vi (f 4)]] 0)) fun i x=>f i])):=by kernel_rfl
theorem QTZ(n k k':Nat):QK 8 (X3 k n) ([(520,.rowz true 3 [.int .i64] (k+1) (QY k (fun i x=>f i) (QR [[vi (f 5)]] 0))),(Jg f)]) (V2 f n k')=(some ((X1 f k k' n)++[k'
  ≤ k+1,QC 1 k' (QY k (fun i x=>f i) (QR [[vi (f 5)]] 0)) fun i x=>f i])):=by kernel_rfl
theorem QVW(n k k':Nat):QK 8 (X3 k n) ([(520,.rowz true 3 [.int .i64] (k+1) (QY k (fun i x=>f i) (QR [[vi (f 6)]] 0))),(Jg f)]) (V2 f n k')=(some ((X1 f k k' n)++[k'
  ≤ k+1,QC 1 k' (QY k (fun i x=>f i) (QR [[vi (f 6)]] 0)) fun i x=>f i])):=by kernel_rfl
theorem QZW(n k k':Nat):QK 8 (X3 k n) ([(520,.rowz true 3 [.int .i64] (k+1) (QY k (fun i x=>f i) (QR [[vi (f 7)]] 0))),(Jg f)]) (V2 f n k')=(some ((X1 f k k' n)++[k'
  ≤ k+1,QC 1 k' (QY k (fun i x=>f i) (QR [[vi (f 7)]] 0)) fun i x=>f i])):=by kernel_rfl
theorem QWZ(n k k':Nat):QK 8 (X3 k n) ([(520,.rowz true 3 [.int .i64] (k+1) (QY k (fun i x=>f i) (QR [[vi (f 8)]] 0))),(Jg f)]) (V2 f n k')=(some ((X1 f k k' n)++[k'
  ≤ k+1,QC 1 k' (QY k (fun i x=>f i) (QR [[vi (f 8)]] 0)) fun i x=>f i])):=by kernel_rfl
theorem Qcu(n k k':Nat):QK 8 (X3 k n) ([(520,.rowz true 3 [.int .i64] (k+1) (QY k (fun i x=>f i) (QR [[vi (f 9)]] 0))),(Jg f)]) (V2 f n k')=(some ((X1 f k k' n)++[k'
  ≤ k+1,QC 1 k' (QY k (fun i x=>f i) (QR [[vi (f 9)]] 0)) fun i x=>f i])):=by kernel_rfl
theorem Qb1(n k k':Nat):QK 8 (X3 k n) ((QL5 f k)) (V2 f n k')=(some ((X1 f k k' n)++[k'≤k+1,QC 1 k' (QY k (fun i x=>f i) (QR [[vi (f 10)]] 0)) fun i x=>f i])):=by kernel_rfl
theorem QWz(n k k':Nat):QK 8 (X3 k n) ((QLL f k)) (V2 f n k')=(some ((X1 f k k' n)++[k'≤k+1,QC 1 k' (QY k (fun i x=>f i) (QR [[vi (f 11)]] 0)) fun i x=>f i])):=by kernel_rfl
theorem QX8(n k:Nat):QK 8 [AV.slz (440:Nat) (0:Nat) k (Cap.of (0:Nat)),AV.ptr (368:Nat) (0:Nat) (0:Nat)] ([((440:Nat),Blk.rowz true (3:Nat) [CK.int i64] k fun i x=>f i),((368:Nat),Blk.cells (1:Nat) (95:Nat) [AV.int false i64 (f (0:Nat)),AV.int false i64 (f (1:Nat)),AV.int false i64 (f (2:Nat)),AV.int false i64 (f (3:Nat)),AV.int false i64 (f (4:Nat)),AV.int false i64 (f (5:Nat)),AV.int false i64 (f (6:Nat)),AV.int false i64 (f (7:Nat)),AV.int false i64 (f (8:Nat)),AV.int false i64 (f (9:Nat)),AV.int false i64 (f (10:Nat)),AV.int false i64 (f (11:Nat)),AV.int false i64 (f (12:Nat))])]) (QE9 f n)=(
  some [(0:Nat)=(0:Nat),k=n,Cap.of (0:Nat)=Cap.of (0:Nat),(0:Nat)=(0:Nat),(0:Nat)=(0:Nat),f (0:Nat)=f (0:Nat),f (1:Nat)=f (1:Nat),f (2 :
  Nat)=f (2:Nat),f (3:Nat)=f (3:Nat),f (4:Nat)=f (4:Nat),f (5:Nat)=f (5:Nat),f (6:Nat)=f (6:Nat),f (7:Nat)=f (7:Nat),f (8:Nat)=f (8:Nat),
  f (9:Nat)=f (9:Nat),f (10:Nat)=f (10:Nat),f (11:Nat)=f (11:Nat),f (12:Nat)=f (12:Nat),n≤k,QC (1:Nat) n (fun i x=>f i) fun i x=>f i]):=by kernel_rfl
theorem QT7(e:Int)(f:List Int)(a e':Int):QK 8 [(AV.tup [AV.nils,AV.int true i64 (0:Int),AV.int false i64 e])] ([]) (Km 8 (QAH f a e') [Ke 3 0 f 0])=(
  some [f.length=(0:Nat),(0:Int)=a,e=e',f.length=(0:Nat)]):=by kernel_rfl
theorem QbT(f:List Int)(a e':Int):QK 8 [(AV.tup [AV.nils,AV.int true i64 (0:Int),AV.int true i64 (6:Int)])] ([]) (Km 8 (QAH f a e') [Ke 3 0 f 0])=(
  some [f.length=(0:Nat),(0:Int)=a,(6:Int)=e',f.length=(0:Nat)]):=by kernel_rfl
theorem Qb8(x:QE)(f':Nat→Int)(f:List Int)(a e':Int):QK 8 [(AV.tup [AV.slz (440:Nat) (0:Nat) x.scans.n (Cap.of (0:Nat)),AV.int false i64 (f' (12:Nat)),AV.int true i64 (0:Int)])] ([((440:Nat),Blk.rowz true (3:Nat) [CK.int i64] x.scans.n fun i x=>f' i)]) (Km 8 (QAH f a e') [Ke 3 0 f 0])=(
  some [(0:Nat)=(0:Nat),x.scans.n=f.length,Cap.of (0:Nat)=Cap.of (0:Nat),f' (12:Nat)=a,(0:Int)=e',f.length≤x.scans.n,QC (1:Nat) f.length (fun i x
  => f' i) fun i=>QA.enc (f.getD i (0:Int))]):=by kernel_rfl
theorem YA:QC 1 (k+1) (QY k (fun i _=>f i) (QR [[.int false .i64 (f k)]] 0)) (fun i _=>f i):=by
 intro i hi;show eqF 1 0 (QY k (fun i _=>f i) (QR [[.int false .i64 (f k)]] 0) i) (fun _=>f i)
 by_cases h:i<k
 ·have e2:QY k (fun i _=>f i) (QR [[.int false .i64 (f k)]] 0) i=fun _=>f i:=by funext j;rw[VX,if_pos h]
  rw[e2];exact Xe _ _ _
 ·have q:i=k:=by omega
  subst q;have e2:QY i (fun i _=>f i) (QR [[.int false .i64 (f i)]] 0) i=QR [[.int false .i64 (f i)]] 0 0:=by funext j;rw[VX,if_neg h,Nat.sub_self]
  rw[e2];exact⟨rfl,trivial⟩
theorem QT2(hn:n≤12):Ji (fun k=>V2 f n k) (fun k=>k≤n) (fun k=>n-k) (fun _ e J=>e = .exit 0∧J=QE9 f n) 8 QI1 [] (mkF Try.prog Qn) (fun _=>hnd (mkF Try.prog Qn) 3) (Qd Try.f20 0):=by
 refine⟨fun k g hk=>Q0 (QXs f n k g) ?_⟩;refine QI (fun h => ?_) (fun h => ?_)
 ·have h:k<n:=by have:=qdt h;omega
  have hw:=K6 h (by omega:n≤1000)
  refine QF (by simp;omega) ?_
  refine QI (fun q => ?_) (fun q => ?_)
  ·refine QF (by simp;omega) ⟨k+1,h,by show n-(k+1)<n-k;omega,fun _ _ h=>h,rfl,rfl,_,QYT f n k (k+1),?_⟩
   obtain rfl:k=0:=by have:=qdt q;omega
   repeat' first|with_reducible refine QN ?_ ?_|exact trivial|with_reducible rfl|exact qlr _|exact qRr|exact QZ _ _ _ _|exact hw|exact YA f 0|refine And.intro ?_ ?_
  have q0:¬ (k:Int)=0:=of_decide_eq_false q;clear q;refine QI (fun q => ?_) (fun q => ?_)
  ·refine QF (by simp;omega) ⟨k+1,h,by show n-(k+1)<n-k;omega,fun _ _ h=>h,rfl,rfl,_,QZb f n k (k+1),?_⟩
   obtain rfl:k=1:=by have:=qdt q;omega
   repeat' first|with_reducible refine QN ?_ ?_|exact trivial|with_reducible rfl|exact qlr _|exact qRr|exact QZ _ _ _ _|exact hw|exact YA f 1|refine And.intro ?_ ?_
  have q1:¬ (k:Int)=1:=of_decide_eq_false q;clear q;refine QI (fun q => ?_) (fun q => ?_)
  ·refine QF (by simp;omega) ⟨k+1,h,by show n-(k+1)<n-k;omega,fun _ _ h=>h,rfl,rfl,_,QS7 f n k (k+1),?_⟩
   obtain rfl:k=2:=by have:=qdt q;omega
   repeat' first|with_reducible refine QN ?_ ?_|exact trivial|with_reducible rfl|exact qlr _|exact qRr|exact QZ _ _ _ _|exact hw|exact YA f 2|refine And.intro ?_ ?_
  have q2:¬ (k:Int)=2:=of_decide_eq_false q;clear q;refine QI (fun q => ?_) (fun q => ?_)
  ·refine QF (by simp;omega) ⟨k+1,h,by show n-(k+1)<n-k;omega,fun _ _ h=>h,rfl,rfl,_,QXk f n k (k+1),?_⟩
   obtain rfl:k=3:=by have:=qdt q;omega
   repeat' first|with_reducible refine QN ?_ ?_|exact trivial|with_reducible rfl|exact qlr _|exact qRr|exact QZ _ _ _ _|exact hw|exact YA f 3|refine And.intro ?_ ?_
  have q3:¬ (k:Int)=3:=of_decide_eq_false q;clear q;refine QI (fun q => ?_) (fun q => ?_)
  ·refine QF (by simp;omega) ⟨k+1,h,by show n-(k+1)<n-k;omega,fun _ _ h=>h,rfl,rfl,_,QSo f n k (k+1),?_⟩
   obtain rfl:k=4:=by have:=qdt q;omega
   repeat' first|with_reducible refine QN ?_ ?_|exact trivial|with_reducible rfl|exact qlr _|exact qRr|exact QZ _ _ _ _|exact hw|exact YA f 4|refine And.intro ?_ ?_
  have q4:¬ (k:Int)=4:=of_decide_eq_false q;clear q;refine QI (fun q => ?_) (fun q => ?_)
  ·refine QF (by simp;omega) ⟨k+1,h,by show n-(k+1)<n-k;omega,fun _ _ h=>h,rfl,rfl,_,QTZ f n k (k+1),?_⟩
   obtain rfl:k=5:=by have:=qdt q;omega
   repeat' first|with_reducible refine QN ?_ ?_|exact trivial|with_reducible rfl|exact qlr _|exact qRr|exact QZ _ _ _ _|exact hw|exact YA f 5|refine And.intro ?_ ?_
  have q5:¬ (k:Int)=5:=of_decide_eq_false q;clear q;refine QI (fun q => ?_) (fun q => ?_)
  ·refine QF (by simp;omega) ⟨k+1,h,by show n-(k+1)<n-k;omega,fun _ _ h=>h,rfl,rfl,_,QVW f n k (k+1),?_⟩
   obtain rfl:k=6:=by have:=qdt q;omega
   repeat' first|with_reducible refine QN ?_ ?_|exact trivial|with_reducible rfl|exact qlr _|exact qRr|exact QZ _ _ _ _|exact hw|exact YA f 6|refine And.intro ?_ ?_
  have q6:¬ (k:Int)=6:=of_decide_eq_false q;clear q;refine QI (fun q => ?_) (fun q => ?_)
  ·refine QF (by simp;omega) ⟨k+1,h,by show n-(k+1)<n-k;omega,fun _ _ h=>h,rfl,rfl,_,QZW f n k (k+1),?_⟩
   obtain rfl:k=7:=by have:=qdt q;omega
   repeat' first|with_reducible refine QN ?_ ?_|exact trivial|with_reducible rfl|exact qlr _|exact qRr|exact QZ _ _ _ _|exact hw|exact YA f 7|refine And.intro ?_ ?_
  have q7:¬ (k:Int)=7:=of_decide_eq_false q;clear q;refine QI (fun q => ?_) (fun q => ?_)
  ·refine QF (by simp;omega) ⟨k+1,h,by show n-(k+1)<n-k;omega,fun _ _ h=>h,rfl,rfl,_,QWZ f n k (k+1),?_⟩
   obtain rfl:k=8:=by have:=qdt q;omega
   repeat' first|with_reducible refine QN ?_ ?_|exact trivial|with_reducible rfl|exact qlr _|exact qRr|exact QZ _ _ _ _|exact hw|exact YA f 8|refine And.intro ?_ ?_
  have q8:¬ (k:Int)=8:=of_decide_eq_false q;clear q;refine QI (fun q => ?_) (fun q => ?_)
  ·refine QF (by simp;omega) ⟨k+1,h,by show n-(k+1)<n-k;omega,fun _ _ h=>h,rfl,rfl,_,Qcu f n k (k+1),?_⟩
   obtain rfl:k=9:=by have:=qdt q;omega
   repeat' first|with_reducible refine QN ?_ ?_|exact trivial|with_reducible rfl|exact qlr _|exact qRr|exact QZ _ _ _ _|exact hw|exact YA f 9|refine And.intro ?_ ?_
  have q9:¬ (k:Int)=9:=of_decide_eq_false q;clear q;refine QI (fun q => ?_) (fun q => ?_)
  ·refine QF (by simp;omega) ⟨k+1,h,by show n-(k+1)<n-k;omega,fun _ _ h=>h,rfl,rfl,_,Qb1 f n k (k+1),?_⟩
   obtain rfl:k=10:=by have:=qdt q;omega
   repeat' first|with_reducible refine QN ?_ ?_|exact trivial|with_reducible rfl|exact qlr _|exact qRr|exact QZ _ _ _ _|exact hw|exact YA f 10|refine And.intro ?_ ?_
  have q10:¬ (k:Int)=10:=of_decide_eq_false q;clear q;refine QF (by simp;omega) ⟨k+1,h,by show n-(k+1)<n-k;omega,fun _ _ h=>h,rfl,rfl,_,QWz f n k (k+1),?_⟩
  obtain rfl:k=11:=by omega
  repeat' first|with_reducible refine QN ?_ ?_|exact trivial|with_reducible rfl|exact qlr _|exact qRr|exact QZ _ _ _ _|exact hw|exact YA f 11|refine And.intro ?_ ?_
 ·have:k=n:=by have:=of_decide_eq_false h;omega
  subst this;refine⟨_,⟨rfl,rfl⟩,rfl,rfl,_,QX8 f k k,?_⟩
  repeat' first|with_reducible refine QN ?_ ?_|exact trivial|with_reducible rfl|exact qlr _|exact qRr|exact QZ _ _ _ _|refine And.intro ?_ ?_
theorem Qbo{T:Tab}(hT:Qc T)(f:Nat→Int)(n:Nat)(hn:n≤12)(G:Ctx)(hrd:G.rd=none)(hG:G.n=8):KH (mkE Try.prog T) G (QD2 Try.prog T f n) (Qr Try.f20):=by
 refine Jd (body:=Qd Try.f20 0) (QT hT) hrd (by kernel_rfl) ?_
 refine Ze (E:=mkF Try.prog Qn) rfl (Ju (n0:=8) (vD Q6) (by omega) (fun s hs=>Qz (vD Q6) 3 G _ hrd) (fun s hs=>(by decide:8≤448)) ?_ (QT2 f n hn) (s0:=0) (Nat.zero_le _) ?_)
 ·rintro s e J ⟨_,rfl⟩;exact(by decide:8≤448)
 ·rintro e J ⟨rfl,rfl⟩;exact⟨_,List.mem_cons_self,trivial,rfl,rfl⟩
def QHf:Res PlS:=onT x (Qo x x.scans.n) plY x.scans.n [] (0,fun _=>0) noH
def Qa:List Int×Int×Int:=match x.ok with
 | false=>([],0,1)
 | true=>match K5 x with
  | true=>([],0,11)
  | false=>match QHf x with
   | .stop s _ | .go s _=>match decide (s.1>0)with
    | false=>([],0,6)
    | true=>((List.range x.scans.n).map s.2,s.2 12,0)
def X4:WF (QE×Unit):=fun|(x,_)=>(decide (x.d.ps.n≤1000∧x.scans.n≤1000∧x.hang.n≤1000),QAH (Qa x).1 (Qa x).2.1 (Qa x).2.2,[Ke 3 0 (Qa x).1 0])
def QLv:FC:=wFC X4
theorem QIy:WOk (X4 (x,())).2.1 (X4 (x,())).2.2:=⟨rfl,by simp[X4,Ke,Blk.own,Blk.all],rfl⟩
theorem QH2(e:Int)(ht:QQ Try.prog 49 (uFC (opE x e)))(he:e≠0)(hv:Qa x=([],0,e)):QQ Try.prog 20 (wFC (Jq X4 (x,()))):=by
 have hT:Qc (Ko QS (opE x e)):=Q6.add ht;refine X8 (c:=Qr Try.f20) (E:=mkE Try.prog (Ko QS (opE x e))) (H:=hnd (mkE Try.prog (Ko QS (opE x e))) 1) (QT hT) Try.func20 (by kernel_rfl) (by kernel_rfl) (N:=8) (by decide) (x,()) (fun G h1 _=>Qz (QT hT) 1 G _ h1) (QIy x) ?_
 refine Q0 (QRz QS x e) ?_;refine QF (Q4.2 ?_) (QI (fun _ => ?_) (fun h=>by simp at h;exact absurd h he))
 ·repeat' first|with_reducible refine QN ?_ ?_|exact trivial|with_reducible rfl|exact qlr _|exact qRr|exact QZ _ _ _ _|refine And.intro ?_ ?_
 ·simp only[X4,hv];refine⟨rfl,rfl,_,QT7 e [] 0 e,?_⟩
  repeat' first|with_reducible refine QN ?_ ?_|exact trivial|with_reducible rfl|exact qlr _|exact qRr|exact QZ _ _ _ _|exact rfl|refine And.intro ?_ ?_
theorem QTz:QC 1 ((List.range n).map f).length (fun i _=>f i) (fun i=>QA.enc (((List.range n).map f).getD i (0:Int))):=by
 intro i hi;show eqF 1 0 (fun _=>f i) (QA.enc (((List.range n).map f).getD i (0:Int)));have hi:i<n:=by simpa using hi
 have:((List.range n).map f).getD i (0:Int)=f i:=by simp[List.getD_eq_getElem?_getD,hi]
 rw[this];exact⟨rfl,trivial⟩
theorem QZ8(hs:Xr x)(hx:x.ok=true)(hr:K5 x=false):QQ Try.prog 20 (wFC (Jq X4 (x,()))):=by
 have hg:=Vn hx;have hss:=hg.s;have hC:=QCD (x:=x) hg.d.n9;have hon:=QQY hg hC x.scans.n [] (0,fun _=>0) noH (by simp) (fun c hc=>by cases hc) trivial
 obtain⟨s,h,he⟩:=ZL (C:=Qo x x.scans.n) (x:=x) (Y:=plY) (fun _ _=>rfl) x.scans.n [] (0,fun _=>0) noH;rw[he]at hon;have hT:Qc (zm QS x (Qo x x.scans.n) (plU x (Qo x x.scans.n) Yr YY [] noH 0 (fun _=>0) h s.1 s.2)):=(Q6.add (jb x hs hx hr)).add hon
 have hv:Qa x=match decide (s.1>0)with
   | false=>([],0,6)
   | true=>((List.range x.scans.n).map s.2,s.2 12,0):=by
  simp only[Qa,hx,hr,QHf,he]
 refine X8 (c:=Qr Try.f20) (E:=mkE Try.prog (zm QS x (Qo x x.scans.n) (plU x (Qo x x.scans.n) Yr YY [] noH 0 (fun _=>0) h s.1 s.2))) (H:=QD2 Try.prog (zm QS x (Qo x x.scans.n) (plU x (Qo x x.scans.n) Yr YY [] noH 0 (fun _=>0) h s.1 s.2)) s.2 x.scans.n) (QT hT) Try.func20 (by kernel_rfl) (by kernel_rfl) (N:=8) (by decide) (x,()) (fun G h1 h2=>Qbo hT _ _ hss G h1 h2) (QIy x) ?_
 refine Q0 (Qas QS x (Qo x x.scans.n) h s.1 s.2) ?_;refine QF (Q4.2 ?_) (QF (Q4.2 ?_) (QI (fun q => ?_) (fun q => ?_)))
 ·repeat' first|with_reducible refine QN ?_ ?_|exact trivial|with_reducible rfl|exact qlr _|exact qRr|exact QZ _ _ _ _|refine And.intro ?_ ?_
 ·repeat' first|with_reducible refine QN ?_ ?_|exact trivial|with_reducible rfl|exact qlr _|exact qRr|exact QZ _ _ _ _|exact QAD _|exact rfl|refine And.intro ?_ ?_
 ·have q:decide (s.1>0)=false:=by simpa using q
  simp only[X4,hv,q];refine⟨rfl,rfl,_,QbT [] 0 6,?_⟩
  repeat' first|with_reducible refine QN ?_ ?_|exact trivial|with_reducible rfl|exact qlr _|exact qRr|exact QZ _ _ _ _|exact rfl|refine And.intro ?_ ?_
 ·have q:decide (s.1>0)=true:=by simpa using q
  repeat' first|refine Qb (p:=_=_) rfl ?_|refine Qb (p:=_≤_) (qlr _) ?_|refine Qb (p:=_≤_) (Nat.zero_le _) ?_|refine Qb (p:=QC _ _ _ _) (qRr) ?_|refine Qb (p:=QC _ _ _ _) (fun i hi=>absurd hi (Nat.not_lt_zero i)) ?_
  refine KO fun _=>KK fun g => ?_;simp only[X4,hv,q];refine⟨rfl,rfl,_,Qb8 x s.2 _ _ 0,?_⟩
  repeat' first|with_reducible refine QN ?_ ?_|exact trivial|with_reducible rfl|exact qlr _|exact qRr|exact QZ _ _ _ _|exact(by simp:x.scans.n=((List.range x.scans.n).map s.2).length)|exact(by simp:((List.range x.scans.n).map s.2).length≤x.scans.n)|exact QTz _ _|exact rfl|refine And.intro ?_ ?_
theorem QVU(hx:(X4 (x,())).1=true):QQ Try.prog 20 (wFC (Jq X4 (x,()))):=by
 obtain⟨h1,h2,h3⟩:=qdt hx;have hs:Xr x:=⟨h1,h2,h3⟩;cases ho:x.ok with
 | false=>exact QH2 x 1 (QBM x hs ho) (by decide) (by simp only[Qa,ho])
 | true=>cases hr:K5 x with
  | true=>exact QH2 x 11 (QAq x hs ho hr) (by decide) (by simp only[Qa,ho,hr])
  | false=>exact QZ8 x hs ho hr
theorem QN3:QQ Try.prog 20 QLv:=Gg (by kernel_rfl) fun|(x,()),hx=>QVU x hx
structure QLw where
 off:Sp
 wide:Sp
 deep:Sp
instance : Enc QLw where
  enc x := .agg [.int false .i64 x.off.lo,.int false .i64 x.off.hi,.int false .i64 x.wide.lo,.int false .i64 x.wide.hi,.int false .i64 x.deep.lo,.int false .i64 x.deep.hi]
  dec | .agg [.int _ .i64 a0,.int _ .i64 a1,.int _ .i64 a2,.int _ .i64 a3,.int _ .i64 a4,.int _ .i64 a5] => some ⟨⟨a0,a1⟩,⟨a2,a3⟩,⟨a4,a5⟩⟩ | _ => none
  ok v x h := by
    split at h <;> (try (cases h; done))
    simp only[qsI]at h; subst h; exact⟨fun _ => rfl,rfl⟩
theorem Qcx{p:Qm}{t h:Edge}(hB:Q5.B ⟨p,t,h⟩):((-100000≤(Qj p t h).lo∧(Qj p t h).lo≤100000) ∧ -100000≤(Qj p t h).hi∧(Qj p t h).hi≤100000)∧((-100000≤(Qi t h).lo∧(Qi t h).lo≤100000) ∧ -100000≤(Qi t h).hi∧(Qi t h).hi≤100000) ∧
  ((-100000≤(Qk t h).lo∧(Qk t h).lo≤100000) ∧ -100000≤(Qk t h).hi∧(Qk t h).hi≤100000)∧(0≤p.damp.lo∧p.damp.lo≤100)∧0≤p.damp.hi∧p.damp.hi≤100:=by
 obtain⟨h1,h2,h3⟩:=hB;unfold VN at h1;unfold VJ at h2 h3;simp only[Qj,Qi,Qk]at *;omega
def XX(s:Sp)(lo hi:Int)(d:Sp):Bool:=decide ((-100000≤s.lo∧s.lo≤100000)∧(-100000≤s.hi∧s.hi≤100000)∧(-500≤lo∧lo≤500)∧(-500≤hi∧hi≤500)∧0≤d.hi∧d.hi≤100)
def QOR:Int×Int×Int×Unit→Bool×AV:=fun|(n,(a,(b,_)))=>(true,.bool false (Qg n a b))
def QRK:FC:=KD (KE QOR)
theorem QWl(n:Int)(a:Int)(b:Int):Q8 (mkE Try.prog jC) (hnd (mkE Try.prog jC) 0) false Try.f79 (Qt.enc ((n,a,b,()):Int×Int×Int×Unit)) [] 0 =
  QD.br (decide (a≤n)) (QD.leaf (AV.bool false (decide (n≤b))) ([])) (QD.leaf (AV.bool true false) ([])):=by kernel_rfl
theorem QSM:QQ Try.prog 79 QRK:=by
 refine KQ QBg 0 Try.func79 (by kernel_rfl) (by kernel_rfl) ?_
 rintro⟨n,a,b,⟨⟩⟩ hp;rw[QWl n a b];simp only[QOR,QD.den,AV.same,AV.sameL,and_true,true_and]at hp ⊢
 (repeat' (first|(refine And.intro ?_ ?_)|(intro _)))<;>simp_all [Qg]<;>omega
def QDa:Tab:=Qe jC 79 QRK
theorem QJM:Qc QDa:=QBg.add QSM
def QK6:Sp×Int×Int×Unit→Bool×AV:=fun|(s,(a,(b,_)))=>(true,.bool false (s.isIn a b))
def QLj:FC:=KD (KE QK6)
theorem QbS(s:Sp)(a:Int)(b:Int):Q8 (mkE Try.prog QDa) (hnd (mkE Try.prog QDa) 0) false Try.f80 (Qt.enc ((s,a,b,()):Sp×Int×Int×Unit)) [] 0 =
  QD.br (decide (a≤s.lo)) (QD.br (decide (s.lo≤s.hi)) (QD.leaf (AV.bool false (decide (s.hi≤b))) ([])) (QD.leaf (AV.bool true false) ([]))) (QD.leaf (AV.bool true
  false) ([])):=by kernel_rfl
theorem QU6:QQ Try.prog 80 QLj:=by
 refine KQ QJM 0 Try.func80 (by kernel_rfl) (by kernel_rfl) ?_
 rintro⟨s,a,b,⟨⟩⟩ hp;rw[QbS s a b];simp only[QK6,QD.den,AV.same,AV.sameL,and_true,true_and]at hp ⊢
 (repeat' (first|(refine And.intro ?_ ?_)|(intro _)))<;>simp_all [Sp.isIn]<;>omega
def QBC:Tab:=Qe QDa 80 QLj
theorem QHm:Qc QBC:=QJM.add QU6
def QLt:Edge×Unit→Bool×AV:=fun|(a,_)=>(true,.bool false a.ok)
def QRG:FC:=KD (KE QLt)
theorem QYD(a:Edge):Q8 (mkE Try.prog QBC) (hnd (mkE Try.prog QBC) 0) false Try.f57 (Qt.enc ((a,()):Edge×Unit)) [] 0 =
  QD.br (a.kind==(0:Int)) (QD.leaf (AV.bool true true) ([])) (QD.need (true) (QD.br (Qg a.kind (1:Int) (2:Int)) (QD.need (true) (QD.br (a.at_.isIn (0:Int)
  (10000:Int)) (QD.need (true) (QD.br (a.wide.isIn (1:Int) (3000:Int)) (QD.need (true) (QD.leaf (AV.bool false (a.deep.isIn (1:Int) (3000:Int))) ([]))) (QD.leaf
  (AV.bool true false) ([])))) (QD.leaf (AV.bool true false) ([])))) (QD.leaf (AV.bool true false) ([])))):=by kernel_rfl
theorem QY5:QQ Try.prog 57 QRG:=by
 refine KQ QHm 0 Try.func57 (by kernel_rfl) (by kernel_rfl) ?_
 rintro⟨a,⟨⟩⟩ hp;rw[QYD a];simp only[QLt,QD.den,AV.same,AV.sameL,and_true,true_and]at hp ⊢
 have hw:Qg a.kind 1 2=((a.kind==1)||(a.kind==2)):=by
  unfold Qg;rw[Bool.eq_iff_iff];simp only[qdE,qbO,beq_iff_eq];omega
 simp only[hw];unfold Edge.ok;cases (a.kind==0)<;>cases ((a.kind==1)||(a.kind==2))<;>cases a.at_.isIn 0 10000<;>cases a.wide.isIn 1 3000<;>simp
def QAt:Tab:=Qe QBC 57 QRG
theorem QNb:Qc QAt:=QHm.add QY5
def QLX:Qm×Unit→Bool×AV:=fun|(p,_)=>(true,.bool false p.ok)
def QQk:FC:=KD (KE QLX)
theorem QcJ(p:Qm):Q8 (mkE Try.prog QAt) (hnd (mkE Try.prog QAt) 0) false Try.f67 (Qt.enc ((p,()):Qm×Unit)) [] 0 =
  QD.need (true) (QD.br (Qg p.length (1:Int) (10000:Int)) (QD.need (true) (QD.br (Qg p.slack (0:Int) (500:Int)) (QD.need (true) (QD.br (Qg p.loose (0 :
  Int) (500:Int)) (QD.need (true) (QD.leaf (AV.bool false (p.damp.isIn (0:Int) (100:Int))) ([]))) (QD.leaf (AV.bool true false) ([])))) (QD.leaf (AV.bool true false)
  ([])))) (QD.leaf (AV.bool true false) ([]))):=by kernel_rfl
theorem Qa4:QQ Try.prog 67 QQk:=by
 refine KQ QNb 0 Try.func67 (by kernel_rfl) (by kernel_rfl) ?_
 rintro⟨p,⟨⟩⟩ hp;rw[QcJ p];simp only[QLX,QD.den,AV.same,AV.sameL,and_true,true_and]at hp ⊢
 (repeat' (first|(refine And.intro ?_ ?_)|(intro _)))<;>simp_all [Qm.ok]
def QAS:Tab:=Qe QAt 67 QQk
theorem QH7:Qc QAS:=QNb.add Qa4
def QLg:Qm×Edge×Edge×Unit→Bool×AV:=fun|(p,(t,(h,_)))=>(decide (Q5.B ⟨p,t,h⟩),Enc.enc (⟨Qj p t h,Qi t h,Qk t h⟩:QLw))
def QKA:FC:=KD (KE QLg)
theorem Qah(p:Qm)(t:Edge)(h:Edge):Q8 (mkE Try.prog QAS) (hnd (mkE Try.prog QAS) 0) false Try.f104 (Qt.enc ((p,t,h,()):Qm×Edge×Edge×Unit)) [] 0 =
  QD.leaf (AV.agg [AV.int false i64 (i64.wrap (i64.wrap (t.at_.lo+h.at_.lo)-p.length)),AV.int false i64 (i64.wrap (i64.wrap
  (t.at_.hi+h.at_.hi)-p.length)),AV.int false i64 (i64.wrap (h.wide.lo-t.wide.hi)),AV.int false i64 (i64.wrap (h.wide.hi-t.wide.lo)),AV.int
  false i64 (i64.wrap (h.deep.lo-t.deep.hi)),AV.int false i64 (i64.wrap (h.deep.hi-t.deep.lo))]) ([]):=by kernel_rfl
theorem QUK:QQ Try.prog 104 QKA:=by
 refine KQ QH7 0 Try.func104 (by kernel_rfl) (by kernel_rfl) ?_
 rintro⟨p,t,h,⟨⟩⟩ hp;rw[Qah p t h];simp only[QLg,QD.den,AV.same,AV.sameL,and_true,true_and]at hp ⊢;have hq:=qdt hp;obtain⟨h1,h2,h3⟩:=hq;unfold VN at h1;unfold VJ at h2 h3;simp only at h1 h2 h3;simp only[Enc.enc,AV.same,AV.sameL,true_and,and_true,Qj,Qi,Qk];rw[w64 (n:=t.at_.lo+h.at_.lo) (by omega) (by omega),w64 (n:=t.at_.hi+h.at_.hi) (by omega) (by omega)]
 rw[w64 (by omega) (by omega),w64 (by omega) (by omega),w64 (by omega) (by omega),w64 (by omega) (by omega),w64 (by omega) (by omega),w64 (by omega) (by omega)]
 refine⟨?_,?_,?_,?_,?_,?_⟩<;>omega
def QDZ:Tab:=Qe QAS 104 QKA
theorem QRO:Qc QDZ:=QH7.add QUK
def QM0:Sp×Int×Int×Sp×Unit→Bool×AV:=fun|(s,(lo,(hi,(d,_))))=>(XX s lo hi d,.bool false (Kh s.lo s.hi lo hi d.hi))
def QLE:FC:=KD (KE QM0)
theorem QX1(s:Sp)(lo:Int)(hi:Int)(d:Sp):Q8 (mkE Try.prog QDZ) (hnd (mkE Try.prog QDZ) 0) false Try.f105 (Qt.enc ((s,lo,hi,d,()):Sp×Int×Int×Sp×Unit)) [] 0 =
  QD.br (decide (i64.wrap (s.lo*i64.wrap ((1000:Int)+d.hi))≥i64.wrap ((1000:Int)*lo))) (QD.leaf (AV.bool false (decide (i64.wrap (s.hi
  * i64.wrap ((1000:Int)+d.hi))≤i64.wrap ((1000:Int)*hi)))) ([])) (QD.leaf (AV.bool true false) ([])):=by kernel_rfl
theorem QSg:QQ Try.prog 105 QLE:=by
 refine KQ QRO 0 Try.func105 (by kernel_rfl) (by kernel_rfl) ?_
 rintro⟨s,lo,hi,d,⟨⟩⟩ hp;rw[QX1 s lo hi d];simp only[QM0,QD.den,AV.same,AV.sameL,and_true,true_and]at hp ⊢;have hq:=qdt hp;obtain⟨h1,h2,h3,h4,h5⟩:=hq;exact HU h1 h2 h3 h4 h5
def ZM:Tab:=Qe QDZ 105 QLE
theorem zd:Qc ZM:=QRO.add QSg
structure KZ where
 s:Sp
 d:Sp
 lo:Int
 hi:Int
 n:Int
def KZ.I(x:KZ):JSt:=⟨40,[(1,.int false .i64 x.lo),(2,.int false .i64 x.hi),(4,.ptr 0 0 0),(7,.ptr 8 0 0),(9,.int false .i64 x.n)],[(8,.cells 0 23 (Enc.enc x.d).cells),(0,.cells 0 23 (Enc.enc x.s).cells)],56⟩
def KZ.pre(x:KZ):Prop:=(-100000≤x.s.lo∧x.s.lo≤100000)∧(-100000≤x.s.hi∧x.s.hi≤100000)∧(-500≤x.lo∧x.lo≤0)∧(0≤x.hi∧x.hi≤500)∧(0≤x.d.lo∧x.d.lo≤100) ∧ -100000≤x.n∧x.n≤100001
def KZ.good(x:KZ)(n:Int):Prop:=n≤min x.s.hi x.hi∧1000*x.lo≤n*(1000+x.d.lo)∧n*(1000+x.d.lo)≤1000*x.hi
def KZ.yes(x:KZ):Prop:=∃ n,x.n≤n∧x.good n
def HF(x:KZ)(e:Ex)(J:JSt):Prop:=(e = .ret∧J=⟨40,[(8,.bool true true)],[],0⟩∧x.yes)∨(e = .exit 0∧J=⟨40,[],[],0⟩∧¬ x.yes)
def QBj:Ex→List Nat
 | .normal=>[1,2,4,7,9]
 | .ret=>[8]
 | .exit _=>[]
def KZ.mu(x:KZ):Nat:=(min x.s.hi x.hi+1-x.n).toNat
def KZ.next(x:KZ):KZ:={ x with n:=x.n+1 }
def QBJ(x:KZ):QD := .leaf (.tup [.nilp,.ptr 40 0 0,.int false .i64 x.lo,.int false .i64 x.hi,.ptr 0 0 0,.ptr 8 0 0,.int false .i64 (i64.wrap (x.n+1))]) [(8,.cells 0 23 (Enc.enc x.d).cells),(0,.cells 0 23 (Enc.enc x.s).cells)]
theorem QbU(x:KZ)(g:Nat→Value):exec (mkE Try.prog ZM) (hnd (mkE Try.prog ZM) 0) (Qd Try.f106 0) (JSt.inst x.I g) (QCe QBj) =
  .br (decide (x.n ≤ min x.s.hi x.hi))
    (.br (decide (i64.wrap (x.n * i64.wrap (1000 + x.d.lo)) ≥ i64.wrap (1000 * x.lo)))
      (.br (decide (i64.wrap (x.n * i64.wrap (1000 + x.d.lo)) ≤ i64.wrap (1000 * x.hi)))
        (.leaf (.tup [.nili,.ptr 40 0 0,.bool true true]) [(8,.cells 0 23 (Enc.enc x.d).cells),(0,.cells 0 23 (Enc.enc x.s).cells)])
        (QBJ x)) (QBJ x))
    (.leaf (.tup [.ptr 0 0 0,.ptr 40 0 0]) [(8,.cells 0 23 (Enc.enc x.d).cells),(0,.cells 0 23 (Enc.enc x.s).cells)]) := by kernel_rfl
theorem QOL{x:KZ}(h:x.pre):i64.wrap (x.n*i64.wrap (1000+x.d.lo))=x.n*(1000+x.d.lo)∧i64.wrap (1000*x.lo)=1000*x.lo∧i64.wrap (1000*x.hi)=1000*x.hi∧i64.wrap (x.n+1)=x.n+1:=by
 obtain⟨h1,h2,h3,h4,h5,h6,h7⟩:=h;have e:i64.wrap (1000+x.d.lo)=1000+x.d.lo:=w64 (by omega) (by omega)
 have m:=Int.mul_le_mul_of_nonneg_right h6 (show 0≤1000+x.d.lo by omega)
 have m':=Int.mul_le_mul_of_nonneg_right h7 (show 0≤1000+x.d.lo by omega)
 rw[e];exact⟨w64 (by omega) (by omega),w64 (by omega) (by omega),w64 (by omega) (by omega),w64 (by omega) (by omega)⟩
theorem QKB{x:KZ}(hp:x.pre)(hn:x.n≤min x.s.hi x.hi)(hb:¬ (1000*x.lo≤x.n*(1000+x.d.lo)∧x.n*(1000+x.d.lo)≤1000*x.hi)):(QBJ x).den (jx (QKW KZ.I KZ.pre KZ.mu HF 0 QBj x) (Go.SX.Leaves HF 0 QBj x)):=by
 unfold QBJ;rw[(QOL hp).2.2.2];refine⟨x.next,fun i=>i,?_,?_,?_,?_⟩
 ·obtain⟨h1,h2,h3,h4,h5,h6,h7⟩:=hp;refine⟨h1,h2,h3,h4,h5,?_,?_⟩<;>simp only[KZ.next]<;>omega
 ·simp only[KZ.mu,KZ.next];omega
 ·intro e J hR
  have hy:x.next.yes↔x.yes:=by
   constructor
   ·rintro⟨n,h1,h2⟩;simp only[KZ.next]at h1;exact⟨n,by omega,h2⟩
   ·rintro⟨n,h1,h2⟩;rcases(show n=x.n∨x.n+1≤n by omega)with rfl|h3
    ·exact absurd h2.2 hb
    ·exact⟨n,h3,h2⟩
  unfold HF at *;rw[hy]at hR;exact hR
 ·refine XM.same rfl rfl ?_ ?_ rfl rfl
  ·exact⟨⟨rfl,rfl⟩,⟨rfl,rfl⟩,⟨rfl,rfl,rfl⟩,⟨rfl,rfl,rfl⟩,⟨rfl,rfl⟩,trivial⟩
  ·exact⟨⟨_,rfl,rfl,rfl,⟨rfl,rfl⟩,⟨rfl,rfl⟩,trivial⟩,⟨_,rfl,rfl,rfl,⟨rfl,rfl⟩,⟨rfl,rfl⟩,trivial⟩,trivial⟩
theorem QTE:QFQ KZ.I KZ.pre KZ.mu HF 0 QBj (mkE Try.prog ZM) (hnd (mkE Try.prog ZM) 0) (Qd Try.f106 0):=by
 intro x g hp;rw[QbU];obtain⟨e1,e2,e3,_⟩:=QOL hp;simp only[QD.den,e1,e2,e3,qdE,decide_eq_false_iff_not];refine⟨fun hn=>⟨fun h1=>⟨fun h2 => ?_,fun h2 => ?_⟩,fun h1 => ?_⟩,fun hn => ?_⟩
 ·exact⟨⟨40,[(8,.bool true true)],[],0⟩,fun i=>i,.inl ⟨rfl,rfl,x.n,Int.le_refl _,hn,h1,h2⟩,XM.same rfl rfl ⟨rfl,trivial⟩ trivial rfl rfl⟩
 ·exact QKB hp hn (fun h=>h2 h.2)
 ·exact QKB hp hn (fun h=>h1 h.1)
 ·refine⟨⟨40,[],[],0⟩,fun i=>i,.inr ⟨rfl,rfl,?_⟩,XM.same rfl rfl trivial trivial rfl rfl⟩;rintro⟨n,h1,h2,_⟩;omega
instance (x : KZ) : Decidable x.pre := by unfold KZ.pre; infer_instance
def Y4:Code→St→(Ex→St→QD)→QD:=fun _ st K=>match st.tm.length==40&&V6 st.hp,QL st.tm 1,QL st.tm 2,QL st.tm 4,QL st.tm 7,QL st.tm 9,Go.SX.look st.hp 8,Go.SX.look st.hp 0 with
 | true,.int _ .i64 lo,.int _ .i64 hi,.ptr 0 0 0,.ptr 8 0 0,.int _ .i64 n,some (.cells 0 23 [.int _ .i64 dlo,.int _ .i64 dhi]),some (.cells 0 23 [.int _ .i64 slo,.int _ .i64 shi])=>
  .need (decide (KZ.pre ⟨⟨slo,shi⟩,⟨dlo,dhi⟩,lo,hi,n⟩)) (.both (.asm (KZ.yes ⟨⟨slo,shi⟩,⟨dlo,dhi⟩,lo,hi,n⟩) (.all fun g=>K .ret (JSt.inst ⟨40,[(8,.bool true true)],[],0⟩ g)))
   (.asm (¬ KZ.yes ⟨⟨slo,shi⟩,⟨dlo,dhi⟩,lo,hi,n⟩) (.all fun g=>K (.exit 0) (JSt.inst ⟨40,[],[],0⟩ g))))
 | _, _, _, _, _, _, _, _ => .fail "some"
theorem Qbq(body:Code)(st:St)(K:Ex→St→QD)(T:AV→List (Nat×Blk)→Prop)(h:(Y4 body st K).den T):∃ s q ls',KZ.pre s∧XM 0 q ls' st.tm.length (ls'.map (QL st.tm)) st.hp (KZ.I s)∧∀ e J g,HF s e J→(K e (J.inst g)).den T:=by
 unfold Y4 at h;split at h<;>(try (exact h.elim))
 rename_i k1 lo k2 hi k9 n kd dlo ke dhi ks slo kt shi c1 e1 e2 e4 e7 e9 h8 h0;simp only[QD.den,qdE]at h;rw[qbA]at c1;refine⟨⟨⟨slo,shi⟩,⟨dlo,dhi⟩,lo,hi,n⟩,fun i=>i,[1,2,4,7,9],h.1,XM.same rfl ?_ ?_ ?_ rfl rfl ?_,?_⟩
 ·exact beq_iff_eq.1 c1.1
 ·simp only[List.map_cons,List.map_nil, *];exact⟨⟨rfl,rfl⟩,⟨rfl,rfl⟩,⟨rfl,rfl,rfl⟩,⟨rfl,rfl,rfl⟩,⟨rfl,rfl⟩,trivial⟩
 ·exact⟨⟨_,h8,rfl,rfl,⟨rfl,rfl⟩,⟨rfl,rfl⟩,trivial⟩,⟨_,h0,rfl,rfl,⟨rfl,rfl⟩,⟨rfl,rfl⟩,trivial⟩,trivial⟩
 ·exact c1.2
 ·rintro e J g (⟨rfl,rfl,hy⟩|⟨rfl,rfl,hy⟩)
  ·exact h.2.1 hy g
  ·exact h.2.2 hy g
theorem Qc8(G:Ctx)(hG:G.n=0)(hrd:G.rd=none):KH (mkE Try.prog ZM) G { hnd (mkE Try.prog ZM) 0 with loop:=Y4 } (Qr Try.f106):=
 ⟨fun b hb=>by
  have e:JB (Qr Try.f106)=[.loop (Qd Try.f106 0)]:=by kernel_rfl
  rw[e,List.mem_singleton]at hb;subst hb;exact QdY (QT zd) (by omega) (Qz (QT zd) 0 G _ hrd) (fun _=>Nat.zero_le _) QTE (fun st K T h=>Qbq (Qd Try.f106 0) st K T h),(Qz (QT zd) 0 G (Qr Try.f106) hrd).call,(Qz (QT zd) 0 G (Qr Try.f106) hrd).yield⟩
def Ku(s:Sp)(lo hi:Int)(d:Sp):Bool:=decide (s.lo≤s.hi∧(-100000≤s.lo∧s.lo≤100000)∧(-100000≤s.hi∧s.hi≤100000)∧(-500≤lo∧lo≤0)∧(0≤hi∧hi≤500)∧0≤d.lo∧d.lo≤100)
def QQn:Sp×Int×Int×Sp×Unit→Bool×AV:=fun|(s,(lo,(hi,(d,_))))=>(Ku s lo hi d,.bool false (Qs s.lo s.hi lo hi d.lo))
def QQB:FC:=KD (KE QQn)
theorem QSO(s:Sp)(lo:Int)(hi:Int)(d:Sp):Q8 (mkE Try.prog ZM) { hnd (mkE Try.prog ZM) 0 with loop:=Y4 } false Try.f106 (Qt.enc ((s,lo,hi,d,()):Sp×Int×Int×Sp×Unit)) [] 0 =
  QD.need (decide (KZ.mk s d lo hi (max s.lo lo)).pre) (QD.both (QD.asm ((KZ.mk s d lo hi (max s.lo lo)).yes) (QD.all (fun(g0:Nat→Value)=>QD.leaf (AV.bool true
  true) ([])))) (QD.asm (¬(KZ.mk s d lo hi (max s.lo lo)).yes) (QD.all (fun(g1:Nat→Value)=>QD.leaf (AV.bool true false) ([]))))):=by kernel_rfl
theorem QaP:QQ Try.prog 106 QQB:=by
 refine QF8 (QT zd) Try.func106 (by kernel_rfl) (by kernel_rfl) Qc8 ?_
 rintro⟨s,lo,hi,d,⟨⟩⟩ hp;rw[QSO s lo hi d];simp only[QQn,QD.den,AV.same,AV.sameL,and_true,true_and]at hp ⊢;have hq:=qdt hp;obtain⟨h0,h1,h2,h3,h4,h5⟩:=hq;unfold KZ.yes KZ.good;refine⟨decide_eq_true ⟨h1,h2,h3,h4,h5,?_,?_⟩,?_,?_⟩
 ·show -100000≤max s.lo lo;omega
 ·show max s.lo lo≤100001;omega
 ·rintro⟨n,g1,g2,g3,g4⟩ _
  dsimp only at g1 g2 g3 g4
  exact(QEc (n:=n) (by omega) (by omega) (by omega) (by omega) (by omega) g3 g4).symm
 ·intro hn _
  dsimp only at hn
  refine(QUn (by omega) (by omega) (by omega) h0 fun n g1 g2 g3=>hn ⟨n,g1,g2,g3⟩).symm
def QDd:Tab:=Qe ZM 106 QQB
theorem QID:Qc QDd:=zd.add QaP
theorem QIw{p:Qm}{t h:Edge}(h1:p.ok=true)(h2:t.ok=true)(h3:h.ok=true)(ht:t.kind=1)(hh:h.kind=2):(Q5.B ⟨p,t,h⟩∧i64.wrap (0-p.slack) = -p.slack)∧(XX (Qj p t h) (-p.slack) p.slack p.damp=true∧XX (Qi t h) 0 p.loose p.damp=true∧XX (Qk t h) 0 p.loose p.damp=true) ∧
  Ku (Qj p t h) (-p.slack) p.slack p.damp=true∧Ku (Qi t h) 0 p.loose p.damp=true∧Ku (Qk t h) 0 p.loose p.damp=true:=by
 have hB:=QGS h1 h2 h3 ht hh;have hb:=Qcx hB;have h1':=hB.1;unfold VN at h1'
 have s2:(t.at_.lo≤t.at_.hi∧t.wide.lo≤t.wide.hi∧t.deep.lo≤t.deep.hi):=by
  unfold Edge.ok Sp.isIn at h2;simp[ht]at h2;omega
 have s3:(h.at_.lo≤h.at_.hi∧h.wide.lo≤h.wide.hi∧h.deep.lo≤h.deep.hi):=by
  unfold Edge.ok Sp.isIn at h3;simp[hh]at h3;omega
 obtain⟨o1,o2,o3,o4⟩:=hb;simp only at h1';have n1:(Qj p t h).lo≤(Qj p t h).hi:=by simp only[Qj];omega
 have n2:(Qi t h).lo≤(Qi t h).hi:=by simp only[Qi];omega
 have n3:(Qk t h).lo≤(Qk t h).hi:=by simp only[Qk];omega
 unfold XX Ku;refine⟨⟨hB,?_⟩,⟨decide_eq_true ?_,decide_eq_true ?_,decide_eq_true ?_⟩,decide_eq_true ?_,decide_eq_true ?_,decide_eq_true ?_⟩
 ·rw[w64 (by omega) (by omega)];omega
 all_goals omega
def QM8:Qm×Edge×Edge×Unit→Bool×AV:=fun|(p,(a,(b,_)))=>(okP p a b,.int false .i64 (Xh p a b))
def QMk:FC:=KD (KE QM8)
theorem Qbd(p:Qm)(a:Edge)(b:Edge):Q8 (mkE Try.prog QDd) (hnd (mkE Try.prog QDd) 4) false Try.f89 (Qt.enc ((p,a,b,()):Qm×Edge×Edge×Unit)) [] 0 = .br (a.kind==1) (.br (b.kind==2)
  (.need (decide (Q5.mk p a b).B) (.need (XX (Qj p a b) (i64.wrap ((0:Int)-p.slack)) p.slack p.damp) (.br (Kh (Qj p a b).lo (Qj p a b).hi
  (i64.wrap ((0:Int)-p.slack)) p.slack p.damp.hi) (.need (XX (Qi a b) (0:Int) p.loose p.damp) (.br (Kh (Qi a b).lo (Qi a b).hi (0:Int) p.loose
  p.damp.hi) (.need (XX (Qk a b) (0:Int) p.loose p.damp) (.br (Kh (Qk a b).lo (Qk a b).hi (0:Int) p.loose p.damp.hi) (.leaf (.int true .i64 2) ([])) (.need
  (Ku (Qj p a b) (i64.wrap ((0:Int)-p.slack)) p.slack p.damp) (.br (Qs (Qj p a b).lo (Qj p a b).hi (i64.wrap ((0:Int)-p.slack)) p.slack
  p.damp.lo) (.need (Ku (Qi a b) (0:Int) p.loose p.damp) (.br (Qs (Qi a b).lo (Qi a b).hi (0:Int) p.loose p.damp.lo) (.need (Ku (Qk a b) (0:Int)
  p.loose p.damp) (.br (Qs (Qk a b).lo (Qk a b).hi (0:Int) p.loose p.damp.lo) (.leaf (.int true .i64 1) ([])) (.leaf (.int true .i64 0) ([])))) (.leaf (.int true .i64
  0) ([])))) (.leaf (.int true .i64 0) ([])))))) (.need (Ku (Qj p a b) (i64.wrap ((0:Int)-p.slack)) p.slack p.damp) (.br (Qs (Qj p a b).lo (Qj p a b).hi
  (i64.wrap ((0:Int)-p.slack)) p.slack p.damp.lo) (.need (Ku (Qi a b) (0:Int) p.loose p.damp) (.br (Qs (Qi a b).lo (Qi a b).hi (0:Int) p.loose
  p.damp.lo) (.need (Ku (Qk a b) (0:Int) p.loose p.damp) (.br (Qs (Qk a b).lo (Qk a b).hi (0:Int) p.loose p.damp.lo) (.leaf (.int true .i64 1) ([])) (.leaf
  (.int true .i64 0) ([])))) (.leaf (.int true .i64 0) ([])))) (.leaf (.int true .i64 0) ([])))))) (.need (Ku (Qj p a b) (i64.wrap ((0:Int)-p.slack)) p.slack p.damp)
  (.br (Qs (Qj p a b).lo (Qj p a b).hi (i64.wrap ((0:Int)-p.slack)) p.slack p.damp.lo) (.need (Ku (Qi a b) (0:Int) p.loose p.damp) (.br (Qs
  (Qi a b).lo (Qi a b).hi (0:Int) p.loose p.damp.lo) (.need (Ku (Qk a b) (0:Int) p.loose p.damp) (.br (Qs (Qk a b).lo (Qk a b).hi (0:Int) p.loose
  p.damp.lo) (.leaf (.int true .i64 1) ([])) (.leaf (.int true .i64 0) ([])))) (.leaf (.int true .i64 0) ([])))) (.leaf (.int true .i64 0) ([]))))))) (.br (b.kind==1) (.br (a.kind
  == 2) (.need (decide (Q5.mk p b a).B) (.need (XX (Qj p b a) (i64.wrap ((0:Int)-p.slack)) p.slack p.damp) (.br (Kh (Qj p b a).lo (Qj p b a).hi
  (i64.wrap ((0:Int)-p.slack)) p.slack p.damp.hi) (.need (XX (Qi b a) (0:Int) p.loose p.damp) (.br (Kh (Qi b a).lo (Qi b a).hi (0:Int) p.loose
  p.damp.hi) (.need (XX (Qk b a) (0:Int) p.loose p.damp) (.br (Kh (Qk b a).lo (Qk b a).hi (0:Int) p.loose p.damp.hi) (.leaf (.int true .i64 2) ([])) (.need
  (Ku (Qj p b a) (i64.wrap ((0:Int)-p.slack)) p.slack p.damp) (.br (Qs (Qj p b a).lo (Qj p b a).hi (i64.wrap ((0:Int)-p.slack)) p.slack
  p.damp.lo) (.need (Ku (Qi b a) (0:Int) p.loose p.damp) (.br (Qs (Qi b a).lo (Qi b a).hi (0:Int) p.loose p.damp.lo) (.need (Ku (Qk b a) (0:Int)
  p.loose p.damp) (.br (Qs (Qk b a).lo (Qk b a).hi (0:Int) p.loose p.damp.lo) (.leaf (.int true .i64 1) ([])) (.leaf (.int true .i64 0) ([])))) (.leaf (.int true .i64
  0) ([])))) (.leaf (.int true .i64 0) ([])))))) (.need (Ku (Qj p b a) (i64.wrap ((0:Int)-p.slack)) p.slack p.damp) (.br (Qs (Qj p b a).lo (Qj p b a).hi
  (i64.wrap ((0:Int)-p.slack)) p.slack p.damp.lo) (.need (Ku (Qi b a) (0:Int) p.loose p.damp) (.br (Qs (Qi b a).lo (Qi b a).hi (0:Int) p.loose
  p.damp.lo) (.need (Ku (Qk b a) (0:Int) p.loose p.damp) (.br (Qs (Qk b a).lo (Qk b a).hi (0:Int) p.loose p.damp.lo) (.leaf (.int true .i64 1) ([])) (.leaf
  (.int true .i64 0) ([])))) (.leaf (.int true .i64 0) ([])))) (.leaf (.int true .i64 0) ([])))))) (.need (Ku (Qj p b a) (i64.wrap ((0:Int)-p.slack)) p.slack p.damp)
  (.br (Qs (Qj p b a).lo (Qj p b a).hi (i64.wrap ((0:Int)-p.slack)) p.slack p.damp.lo) (.need (Ku (Qi b a) (0:Int) p.loose p.damp) (.br (Qs
  (Qi b a).lo (Qi b a).hi (0:Int) p.loose p.damp.lo) (.need (Ku (Qk b a) (0:Int) p.loose p.damp) (.br (Qs (Qk b a).lo (Qk b a).hi (0:Int) p.loose
  p.damp.lo) (.leaf (.int true .i64 1) ([])) (.leaf (.int true .i64 0) ([])))) (.leaf (.int true .i64 0) ([])))) (.leaf (.int true .i64 0) ([]))))))) (.leaf (.int true .i64 0) ([])))
  (.leaf (.int true .i64 0) ([])))) (.br (b.kind==1) (.br (a.kind==2) (.need (decide (Q5.mk p b a).B) (.need (XX (Qj p b a) (i64.wrap ((0:Int)-p.slack))
  p.slack p.damp) (.br (Kh (Qj p b a).lo (Qj p b a).hi (i64.wrap ((0:Int)-p.slack)) p.slack p.damp.hi) (.need (XX (Qi b a) (0:Int) p.loose p.damp) (.br
  (Kh (Qi b a).lo (Qi b a).hi (0:Int) p.loose p.damp.hi) (.need (XX (Qk b a) (0:Int) p.loose p.damp) (.br (Kh (Qk b a).lo (Qk b a).hi (0:Int)
  p.loose p.damp.hi) (.leaf (.int true .i64 2) ([])) (.need (Ku (Qj p b a) (i64.wrap ((0:Int)-p.slack)) p.slack p.damp) (.br (Qs (Qj p b a).lo (Qj p b
  a).hi (i64.wrap ((0:Int)-p.slack)) p.slack p.damp.lo) (.need (Ku (Qi b a) (0:Int) p.loose p.damp) (.br (Qs (Qi b a).lo (Qi b a).hi (0:Int)
  p.loose p.damp.lo) (.need (Ku (Qk b a) (0:Int) p.loose p.damp) (.br (Qs (Qk b a).lo (Qk b a).hi (0:Int) p.loose p.damp.lo) (.leaf (.int true .i64 1) ([]))
  (.leaf (.int true .i64 0) ([])))) (.leaf (.int true .i64 0) ([])))) (.leaf (.int true .i64 0) ([])))))) (.need (Ku (Qj p b a) (i64.wrap ((0:Int)-p.slack)) p.slack
  p.damp) (.br (Qs (Qj p b a).lo (Qj p b a).hi (i64.wrap ((0:Int)-p.slack)) p.slack p.damp.lo) (.need (Ku (Qi b a) (0:Int) p.loose p.damp) (.br
  (Qs (Qi b a).lo (Qi b a).hi (0:Int) p.loose p.damp.lo) (.need (Ku (Qk b a) (0:Int) p.loose p.damp) (.br (Qs (Qk b a).lo (Qk b a).hi (0:Int)
  p.loose p.damp.lo) (.leaf (.int true .i64 1) ([])) (.leaf (.int true .i64 0) ([])))) (.leaf (.int true .i64 0) ([])))) (.leaf (.int true .i64 0) ([])))))) (.need (Ku (Qj p b
  a) (i64.wrap ((0:Int)-p.slack)) p.slack p.damp) (.br (Qs (Qj p b a).lo (Qj p b a).hi (i64.wrap ((0:Int)-p.slack)) p.slack p.damp.lo) (.need
  (Ku (Qi b a) (0:Int) p.loose p.damp) (.br (Qs (Qi b a).lo (Qi b a).hi (0:Int) p.loose p.damp.lo) (.need (Ku (Qk b a) (0:Int) p.loose p.damp) (.br
  (Qs (Qk b a).lo (Qk b a).hi (0:Int) p.loose p.damp.lo) (.leaf (.int true .i64 1) ([])) (.leaf (.int true .i64 0) ([])))) (.leaf (.int true .i64 0) ([])))) (.leaf
  (.int true .i64 0) ([]))))))) (.leaf (.int true .i64 0) ([]))) (.leaf (.int true .i64 0) ([]))):=by kernel_rfl
theorem QTL:QQ Try.prog 89 QMk:=by
 refine KQ QID 4 Try.func89 (by kernel_rfl) (by kernel_rfl) ?_
 rintro⟨p,a,b,⟨⟩⟩ hp;rw[Qbd p a b];simp only[QM8,QD.den,AV.same,AV.sameL,and_true,true_and]at hp ⊢;unfold okP at hp;simp only[qbA]at hp;obtain⟨h1,h2,h3⟩:=hp;unfold Xh
 by_cases c1:a.kind=1∧b.kind=2
 ·obtain⟨ha,hb⟩:=c1;obtain⟨⟨q1,q2⟩,⟨q3,q4,q5⟩,q6,q7,q8⟩:=QIw h1 h2 h3 ha hb;rw[if_neg (by omega),if_pos ⟨ha,hb⟩,QDX]
  simp only[ha,hb,q1,q2,q3,q4,q5,q6,q7,q8,alw,may,beq_self_eq_true,decide_true];generalize Kh (Qj p a b).lo (Qj p a b).hi (-p.slack) p.slack p.damp.hi=b1;generalize Kh (Qi a b).lo (Qi a b).hi 0 p.loose p.damp.hi=b2;generalize Kh (Qk a b).lo (Qk a b).hi 0 p.loose p.damp.hi=b3;generalize Qs (Qj p a b).lo (Qj p a b).hi (-p.slack) p.slack p.damp.lo=b4;generalize Qs (Qi a b).lo (Qi a b).hi 0 p.loose p.damp.lo=b5;generalize Qs (Qk a b).lo (Qk a b).hi 0 p.loose p.damp.lo=b6;cases b1<;>cases b2<;>cases b3<;>cases b4<;>cases b5<;>cases b6<;>simp
 by_cases c2:b.kind=1∧a.kind=2
 ·obtain⟨hb,ha⟩:=c2;obtain⟨⟨q1,q2⟩,⟨q3,q4,q5⟩,q6,q7,q8⟩:=QIw h1 h3 h2 hb ha;rw[if_pos ha,if_pos hb,QDX];simp only[ha,hb,q1,q2,q3,q4,q5,q6,q7,q8,alw,may,beq_self_eq_true,decide_true];generalize Kh (Qj p b a).lo (Qj p b a).hi (-p.slack) p.slack p.damp.hi=b1;generalize Kh (Qi b a).lo (Qi b a).hi 0 p.loose p.damp.hi=b2;generalize Kh (Qk b a).lo (Qk b a).hi 0 p.loose p.damp.hi=b3;generalize Qs (Qj p b a).lo (Qj p b a).hi (-p.slack) p.slack p.damp.lo=b4;generalize Qs (Qi b a).lo (Qi b a).hi 0 p.loose p.damp.lo=b5;generalize Qs (Qk b a).lo (Qk b a).hi 0 p.loose p.damp.lo=b6
  cases b1<;>cases b2<;>cases b3<;>cases b4<;>cases b5<;>cases b6<;>simp
 have e0:(if a.kind=2 then (if b.kind=1 then YL p b a else 0)else if a.kind=1∧b.kind=2 then YL p a b else 0)=0:=by
  split
  ·rename_i ha;rw[if_neg (fun h=>c2 ⟨h,ha⟩)]
  ·rfl
 rw[e0];simp only[beq_iff_eq,beq_eq_false_iff_ne];refine⟨fun ha=>⟨fun hb=>absurd ⟨ha,hb⟩ c1,fun _=>⟨fun hb=>⟨fun h=>absurd ⟨hb,h⟩ c2,fun _=>trivial⟩,fun _=>trivial⟩⟩,fun _=>⟨fun hb=>⟨fun h=>absurd ⟨hb,h⟩ c2,fun _=>trivial⟩,fun _=>trivial⟩⟩
def QC2:Tab:=Qe QDd 89 QMk
theorem QMM:Qc QC2:=QID.add QTL
def QNS:Qm×Edge×Edge×Unit→Bool×AV:=fun|(p,(a,(b,_)))=>(true,.tup [.int false .i64 (KG p a b).1,.int false .i64 (KG p a b).2])
def QH8:FC:=KD (KE QNS)
theorem QUU(p:Qm)(a:Edge)(b:Edge):Q8 (mkE Try.prog QC2) (hnd (mkE Try.prog QC2) 4) false Try.f69 (Qt.enc ((p,a,b,()):Qm×Edge×Edge×Unit)) [] 0 =
  QD.need (true) (QD.br (!p.ok) (QD.leaf (AV.tup [AV.int true i64 (0:Int),AV.int true i64 (1:Int)]) ([])) (QD.need (true) (QD.br (!a.ok) (QD.leaf
  (AV.tup [AV.int true i64 (0:Int),AV.int true i64 (1:Int)]) ([])) (QD.need (true) (QD.br (!b.ok) (QD.leaf (AV.tup [AV.int true i64 (0:Int),
  AV.int true i64 (1:Int)]) ([])) (QD.need (okP p a b) (QD.leaf (AV.tup [AV.int false i64 (Xh p a b),AV.int true i64 (0:Int)]) ([])))))))):=by kernel_rfl
theorem QTo:QQ Try.prog 69 QH8:=by
 refine KQ QMM 4 Try.func69 (by kernel_rfl) (by kernel_rfl) ?_
 rintro⟨p,a,b,⟨⟩⟩ hp;rw[QUU p a b];simp only[QNS,QD.den,AV.same,AV.sameL,and_true,true_and]at hp ⊢;unfold KG okP;cases p.ok<;>cases a.ok<;>cases b.ok<;>simp
def QBi:Tab:=Qe QC2 69 QH8
theorem QIc:Qc QBi:=QMM.add QTo
end Go.Proofs.Ytbpffdkemeoajaa
