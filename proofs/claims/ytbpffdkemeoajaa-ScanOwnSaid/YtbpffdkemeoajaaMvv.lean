/- - -/
import Derived.Test.YtbpffdkemeoajaaMvt
import Derived.Test.YtbpffdkemeoajaaMvu
open Go.IntKind (i64)
set_option maxRecDepth 100000
namespace Go.Proofs.Ytbpffdkemeoajaa
open Go.SX
def ZP(n:Int)(y:Jn):Bool := !QY y.a 0 n||(!QY y.b 0 n||((y.a==y.b)||(!QY y.i 0 3 || !QY y.j 0 3)))
variable (x:QE)
def K3(k:Nat):Bool:=ZP (i64.wrap ((x.scans.n:Int)-1)) (x.hang.get k)
def jxB:List (Nat×Blk):=[(3,.cellsR 0 141 [.fn (.func 92) [.ptr 4 0 0]]),(4,.cellsR 0 50 (JR 0 x))]++Ve 0 x
def QGO:JSt:=⟨2,[(0,.slz 2 0 x.hang.n (.of 0)),(1,.fn (.func 93) [.ptr 3 0 0])],jxB x,8⟩
def jxO:Option Nat:=QP (K3 x) x.hang.n 0
def jxU:UC:=⟨0,QGO x,fun _ => .int false .i64 (KP (jxO x)),fun _=>[]⟩
def cxU:UC:=⟨0,QGO x,fun _ => .bool false (decide (KP (jxO x)≥0)),fun _=>[]⟩
def jxJ(k:Nat):JSt:=⟨19,[(0,.slz 2 0 x.hang.n (.of 0)),(1,.fn (.func 93) [.ptr 3 0 0]),(7,.int false .i64 x.hang.n),(8,.int false .i64 k)],jxB x,8⟩
noncomputable abbrev jp(k:Nat):List AV:=
  [.nili,.ptr 19 0 0,vi (k:Int)]
abbrev QH9:List CK:=
  [.int .i64,.int .i64,.int .i64,.int .i64,.int .i64,.int .i64,.int .i64,.int .i64,.int .i64,.int .i64,.int .i64,.int .i64,.int .i64,.int .i64,.int .i64,.int .i64,.int
  .i64,.int .i64,.int .i64,.int .i64,.int .i64,.int .i64,.int .i64,.int .i64,.int .i64,.int .i64,.int .i64,.int .i64]
noncomputable abbrev QKP:List (Nat×Blk):=
  [(2,.frz [.int .i64,.int .i64,.int .i64,.int .i64] x.hang.n fun i=>QA.enc (x.hang.get i)),(3,.cellsR 0 141 [.fn (Fn.func 92) [.ptr 4 0 0]]),(4,.cellsR 0 50 [.int false
  .i64 x.d.play.length,vi x.d.play.slack,vi x.d.play.loose,vi x.d.play.damp.lo,vi x.d.play.damp.hi,vi x.d.wide,
  .int false .i64 x.d.high,.bool false x.d.turn,.slz 0 0 x.d.ps.n cO,.slz 1 0 x.scans.n cO,.slz 2 0 x.hang.n cO,vi x.lost,.int false .i64
  x.foreign]),(0,.frz QH9 x.d.ps.n fun i=>QA.enc (x.d.ps.get i)),(1,.frz QH9 x.scans.n fun i=>QA.enc (x.scans.get i))]
theorem QNH(k:Nat)(g:Nat→Value):exec (mkE Try.prog Vx) (hnd (mkE Try.prog Vx) 4) (Qa Try.f107 0) (JSt.inst (jxJ x k) g) (KL [] W6) = .br (decide ((k:Int)<(x.hang.n:Int))) (.need (decide
  ((0:Int)≤(k:Int)∧(k:Int)<(x.hang.n:Int))&&decide (x.hang.n≤x.hang.n)) (.need (decide (k<x.hang.n)) (.need (true) (.br (!QY (x.hang.get k).a (0:Int)
  (i64.wrap ((x.scans.n:Int)-1))) (.leaf (.tup (jp k)) ([])) (.need (true) (.br (!QY (x.hang.get k).b (0:Int) (i64.wrap ((x.scans.n:Int)-1))) (.leaf
  (.tup (jp k)) ([])) (.br ((x.hang.get k).a==(x.hang.get k).b) (.leaf (.tup (jp k)) ([])) (.need (true) (.br (!QY (x.hang.get k).i (0:Int) (3:Int)) (.leaf (.tup (jp
  k)) ([])) (.need (true) (.br (!QY (x.hang.get k).j (0:Int) (3:Int)) (.leaf (.tup (jp k)) ([])) (.leaf (.tup [.nilp,.ptr 19 0 0,.slz 2 0 x.hang.n cO,.fn (Fn.func
  93) [.ptr 3 0 0],vi (x.hang.n:Int),vi (i64.wrap ((k:Int)+1))]) ((QKP x)))))))))))))) (.leaf (.tup [.ptr 0 0 0,.ptr 19 0 0]) ([])):=by kernel_rfl
theorem QVn(k k':Nat):QK 8 [.slz 2 0 x.hang.n cO,.fn (Fn.func 93) [.ptr 3 0 0],vi (x.hang.n:Int),vi (i64.wrap ((k:Int)+1))] ((QKP x)) (jxJ x k')=(
  some [0=0,x.hang.n=x.hang.n,cO=cO,Fn.func 93=Fn.func (93:FuncId),0=0,0=0,(x.hang.n:Int)=(x.hang.n:Int),i64.wrap ((k:Int)+1)=(k'
  : Int),Fn.func 92=Fn.func (92:FuncId),0=0,0=0,x.d.play.length=x.d.play.length,x.d.play.slack=x.d.play.slack,x.d.play.loose=x.d.play.loose,x.d.play.damp.lo =
  x.d.play.damp.lo,x.d.play.damp.hi=x.d.play.damp.hi,x.d.wide=x.d.wide,x.d.high=x.d.high,x.d.turn=x.d.turn,0=0,x.d.ps.n=x.d.ps.n,cO=cO,0=0,
  x.scans.n=x.scans.n,cO=cO,0=0,x.hang.n=x.hang.n,cO=cO,x.lost=x.lost,x.foreign=x.foreign,x.d.ps.n≤x.d.ps.n,QD 28 x.d.ps.n (fun i
  => QA.enc (x.d.ps.get i)) fun i=>QA.enc (x.d.ps.get i),x.scans.n≤x.scans.n,QD 28 x.scans.n (fun i=>QA.enc (x.scans.get i)) fun i=>QA.enc (x.scans.get i),
  x.hang.n≤x.hang.n,QD 4 x.hang.n (fun i=>QA.enc (x.hang.get i)) fun i=>QA.enc (x.hang.get i)]):=by kernel_rfl
end Go.Proofs.Ytbpffdkemeoajaa
