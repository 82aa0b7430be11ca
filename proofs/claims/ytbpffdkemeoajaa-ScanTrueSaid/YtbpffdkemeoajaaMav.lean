/- - -/
import Derived.Test.YtbpffdkemeoajaaMat
import Derived.Test.YtbpffdkemeoajaaMau
open Go.IntKind (i64)
set_option maxRecDepth 100000
namespace Go.Proofs.Ytbpffdkemeoajaa
open Go.SX
def Yj(n:Int)(y:Jn):Bool := !Qg y.a 0 n||(!Qg y.b 0 n||((y.a==y.b)||(!Qg y.i 0 3 || !Qg y.j 0 3)))
variable (x:QE)
def JM(k:Nat):Bool:=Yj (i64.wrap ((x.scans.n:Int)-1)) (x.hang.get k)
def jxB:List (Nat×Blk):=[(3,.cellsR 0 141 [.fn (.func 92) [.ptr 4 0 0]]),(4,.cellsR 0 50 (Jt 0 x))]++VY 0 x
def QKs:JSt:=⟨2,[(0,.slz 2 0 x.hang.n (.of 0)),(1,.fn (.func 93) [.ptr 3 0 0])],jxB x,8⟩
def jxO:Option Nat:=QU (JM x) x.hang.n 0
def jxU:UC:=⟨0,QKs x,fun _ => .int false .i64 (Kl (jxO x)),fun _=>[]⟩
def cxU:UC:=⟨0,QKs x,fun _ => .bool false (decide (Kl (jxO x)≥0)),fun _=>[]⟩
def jxJ(k:Nat):JSt:=⟨19,[(0,.slz 2 0 x.hang.n (.of 0)),(1,.fn (.func 93) [.ptr 3 0 0]),(7,.int false .i64 x.hang.n),(8,.int false .i64 k)],jxB x,8⟩
noncomputable abbrev HZ(k:Nat):List AV:=
  [.nili,.ptr 19 0 0,vi (k:Int)]
abbrev QRQ:List CK:=
  [.int .i64,.int .i64,.int .i64,.int .i64,.int .i64,.int .i64,.int .i64,.int .i64,.int .i64,.int .i64,.int .i64,.int .i64,.int .i64,.int .i64,.int .i64,.int .i64,.int
  .i64,.int .i64,.int .i64,.int .i64,.int .i64,.int .i64,.int .i64,.int .i64,.int .i64,.int .i64,.int .i64,.int .i64]
noncomputable abbrev QNP:List (Nat×Blk):=
  [(2,.frz [.int .i64,.int .i64,.int .i64,.int .i64] x.hang.n fun i=>QA.enc (x.hang.get i)),(3,.cellsR 0 141 [.fn (Fn.func 92) [.ptr 4 0 0]]),(4,.cellsR 0 50 [.int false
  .i64 x.d.play.length,vi x.d.play.slack,vi x.d.play.loose,vi x.d.play.damp.lo,vi x.d.play.damp.hi,vi x.d.wide,
  .int false .i64 x.d.high,.bool false x.d.turn,.slz 0 0 x.d.ps.n cO,.slz 1 0 x.scans.n cO,.slz 2 0 x.hang.n cO,vi x.lost,.int false .i64
  x.foreign]),(0,.frz QRQ x.d.ps.n fun i=>QA.enc (x.d.ps.get i)),(1,.frz QRQ x.scans.n fun i=>QA.enc (x.scans.get i))]
theorem QYZ(k:Nat)(g:Nat→Value):exec (mkE Try.prog XU) (hnd (mkE Try.prog XU) 4) (Qd Try.f107 0) (JSt.inst (jxJ x k) g) (KS [] vE) = .br (decide ((k:Int)<(x.hang.n:Int))) (.need (decide
  ((0:Int)≤(k:Int)∧(k:Int)<(x.hang.n:Int))&&decide (x.hang.n≤x.hang.n)) (.need (decide (k<x.hang.n)) (.need (true) (.br (!Qg (x.hang.get k).a (0:Int)
  (i64.wrap ((x.scans.n:Int)-1))) (.leaf (.tup (HZ k)) ([])) (.need (true) (.br (!Qg (x.hang.get k).b (0:Int) (i64.wrap ((x.scans.n:Int)-1))) (.leaf
  (.tup (HZ k)) ([])) (.br ((x.hang.get k).a==(x.hang.get k).b) (.leaf (.tup (HZ k)) ([])) (.need (true) (.br (!Qg (x.hang.get k).i (0:Int) (3:Int)) (.leaf (.tup (HZ
  k)) ([])) (.need (true) (.br (!Qg (x.hang.get k).j (0:Int) (3:Int)) (.leaf (.tup (HZ k)) ([])) (.leaf (.tup [.nilp,.ptr 19 0 0,.slz 2 0 x.hang.n cO,.fn (Fn.func
  93) [.ptr 3 0 0],vi (x.hang.n:Int),vi (i64.wrap ((k:Int)+1))]) ((QNP x)))))))))))))) (.leaf (.tup [.ptr 0 0 0,.ptr 19 0 0]) ([])):=by kernel_rfl
theorem QZs(k k':Nat):QK 8 [.slz 2 0 x.hang.n cO,.fn (Fn.func 93) [.ptr 3 0 0],vi (x.hang.n:Int),vi (i64.wrap ((k:Int)+1))] ((QNP x)) (jxJ x k')=(
  some [0=0,x.hang.n=x.hang.n,cO=cO,Fn.func 93=Fn.func (93:FuncId),0=0,0=0,(x.hang.n:Int)=(x.hang.n:Int),i64.wrap ((k:Int)+1)=(k'
  : Int),Fn.func 92=Fn.func (92:FuncId),0=0,0=0,x.d.play.length=x.d.play.length,x.d.play.slack=x.d.play.slack,x.d.play.loose=x.d.play.loose,x.d.play.damp.lo =
  x.d.play.damp.lo,x.d.play.damp.hi=x.d.play.damp.hi,x.d.wide=x.d.wide,x.d.high=x.d.high,x.d.turn=x.d.turn,0=0,x.d.ps.n=x.d.ps.n,cO=cO,0=0,
  x.scans.n=x.scans.n,cO=cO,0=0,x.hang.n=x.hang.n,cO=cO,x.lost=x.lost,x.foreign=x.foreign,x.d.ps.n≤x.d.ps.n,QC 28 x.d.ps.n (fun i
  => QA.enc (x.d.ps.get i)) fun i=>QA.enc (x.d.ps.get i),x.scans.n≤x.scans.n,QC 28 x.scans.n (fun i=>QA.enc (x.scans.get i)) fun i=>QA.enc (x.scans.get i),
  x.hang.n≤x.hang.n,QC 4 x.hang.n (fun i=>QA.enc (x.hang.get i)) fun i=>QA.enc (x.hang.get i)]):=by kernel_rfl
end Go.Proofs.Ytbpffdkemeoajaa
