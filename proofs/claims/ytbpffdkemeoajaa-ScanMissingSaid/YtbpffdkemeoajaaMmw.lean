/- Is a pile valid? Its joins (layer 7). -/
import Derived.Test.YtbpffdkemeoajaaMmu
import Derived.Test.YtbpffdkemeoajaaMmv
set_option maxRecDepth 100000
namespace Go.Proofs.Ytbpffdkemeoajaa
open Go.SX
def YL (n:Int) (y:Jn):Bool := !QW y.a 0 n||(!QW y.b 0 n||((y.a == y.b)||(!QW y.i 0 3 || !QW y.j 0 3)))
def Km (x:QE) (k:Nat):Bool:=YL (IntKind.i64.wrap ((x.scans.n:Int) - 1)) (x.hang.get k)
def jxB (x:QE):List (Nat×Blk):=[(3,.cellsR 0 141 [.fn (.func 92) [.ptr 4 0 0]]),(4,.cellsR 0 50 (JG 0 x))]++K9 0 x
def QIS (x:QE):JSt:=⟨2,[(0,.slz 2 0 x.hang.n (.of 0)),(1,.fn (.func 93) [.ptr 3 0 0])],jxB x,8⟩
def jxO (x:QE):Option Nat:=QK (Km x) x.hang.n 0
def jxU (x:QE):UC:=⟨0,QIS x,fun _ => .int false .i64 (KH (jxO x)),fun _=>[]⟩
def cxU (x:QE):UC:=⟨0,QIS x,fun _ => .bool false (decide (KH (jxO x)≥0)),fun _=>[]⟩
def jxJ (x:QE) (k:Nat):JSt:=⟨19,[(0,.slz 2 0 x.hang.n (.of 0)),(1,.fn (.func 93) [.ptr 3 0 0]),(7,.int false .i64 x.hang.n),(8,.int false .i64 k)],jxB x,8⟩
abbrev jG (k:Nat):List AV:=
  [.nili,.ptr 19 0 0,.int false .i64 (↑k:Int)]
abbrev QFJ:List CK:=
  [.int .i64,.int .i64,.int .i64,.int .i64,.int .i64,.int .i64,.int .i64,.int .i64,.int .i64,.int .i64,.int .i64,.int .i64,.int .i64,.int .i64,.int .i64,.int .i64,.int
  .i64,.int .i64,.int .i64,.int .i64,.int .i64,.int .i64,.int .i64,.int .i64,.int .i64,.int .i64,.int .i64,.int .i64]
abbrev QHa (x:QE):List (Nat×Blk):=
  [(2,.frz [.int .i64,.int .i64,.int .i64,.int .i64] x.hang.n fun i=>QB.enc (x.hang.get i)),(3,.cellsR 0 141 [.fn (Fn.func 92) [.ptr 4 0 0]]),(4,.cellsR 0 50 [.int false
  .i64 x.d.play.length,.int false .i64 x.d.play.slack,.int false .i64 x.d.play.loose,.int false .i64 x.d.play.damp.lo,.int false .i64 x.d.play.damp.hi,.int false .i64 x.d.wide,
  .int false .i64 x.d.high,.bool false x.d.turn,.slz 0 0 x.d.ps.n (Cap.of 0),.slz 1 0 x.scans.n (Cap.of 0),.slz 2 0 x.hang.n (Cap.of 0),.int false .i64 x.lost,.int false .i64
  x.foreign]),(0,.frz QFJ x.d.ps.n fun i=>QB.enc (x.d.ps.get i)),(1,.frz QFJ x.scans.n fun i=>QB.enc (x.scans.get i))]
theorem QMU (x:QE) (k:Nat) (g:Nat→Value) :exec (mkE Try.prog VO) (hnd (mkE Try.prog VO) 4) (Qf Try.f107 0) (JSt.inst (jxJ x k) g) (KT [] Wg) = .br (decide ((↑k:Int) < (↑x.hang.n:Int))) (.need (decide
  ((0:Int)≤(↑k:Int)∧(↑k:Int) < (↑x.hang.n:Int))&&decide (x.hang.n≤x.hang.n)) (.need (decide (k < x.hang.n)) (.need (true) (.br (!QW (x.hang.get k).a (0:Int)
  (IntKind.i64.wrap ((↑x.scans.n:Int) - (1:Int)))) (.leaf (.tup (jG k)) ([])) (.need (true) (.br (!QW (x.hang.get k).b (0:Int) (IntKind.i64.wrap ((↑x.scans.n:Int) - (1 :
  Int)))) (.leaf (.tup (jG k)) ([])) (.br ((x.hang.get k).a == (x.hang.get k).b) (.leaf (.tup (jG k)) ([])) (.need (true) (.br (!QW (x.hang.get k).i (0:Int) (3:Int))
  (.leaf (.tup (jG k)) ([])) (.need (true) (.br (!QW (x.hang.get k).j (0:Int) (3:Int)) (.leaf (.tup (jG k)) ([])) (.leaf (.tup [.nilp,.ptr 19 0 0,.slz 2 0 x.hang.n
  (Cap.of 0),.fn (Fn.func 93) [.ptr 3 0 0],.int false .i64 (↑x.hang.n:Int),.int false .i64 (IntKind.i64.wrap ((↑k:Int) + (1:Int)))]) ((QHa x)))))))))))))) (.leaf (.tup [.ptr
  0 0 0,.ptr 19 0 0]) ([])):=by kernel_rfl
theorem QQj (x:QE) (k k':Nat) :QO 8 [.slz 2 0 x.hang.n (Cap.of 0),.fn (Fn.func 93) [.ptr 3 0 0],.int false .i64 (↑x.hang.n:Int),.int false .i64 (IntKind.i64.wrap ((↑k:Int) + (1:Int)))] ((QHa x)) (jxJ
  x k')=( some [0=0,x.hang.n=x.hang.n,Cap.of 0=Cap.of 0,Fn.func 93=Fn.func (93:FuncId),0=0,0=0,(↑x.hang.n:Int)=(↑x.hang.n:Int),IntKind.i64.wrap ((↑k :
  Int) + (1:Int))=(↑k':Int),Fn.func 92=Fn.func (92:FuncId),0=0,0=0,x.d.play.length=x.d.play.length,x.d.play.slack=x.d.play.slack,x.d.play.loose =
  x.d.play.loose,x.d.play.damp.lo=x.d.play.damp.lo,x.d.play.damp.hi=x.d.play.damp.hi,x.d.wide=x.d.wide,x.d.high=x.d.high,x.d.turn=x.d.turn,0=0,x.d.ps.n=x.d.ps.n,
  Cap.of 0=Cap.of 0,0=0,x.scans.n=x.scans.n,Cap.of 0=Cap.of 0,0=0,x.hang.n=x.hang.n,Cap.of 0=Cap.of 0,x.lost=x.lost,x.foreign=x.foreign,x.d.ps.n≤x.d.ps.n,
  QD 28 x.d.ps.n (fun i=>QB.enc (x.d.ps.get i)) fun i=>QB.enc (x.d.ps.get i),x.scans.n≤x.scans.n,QD 28 x.scans.n (fun i=>QB.enc (x.scans.get i)) fun i=>
  QB.enc (x.scans.get i),x.hang.n≤x.hang.n,QD 4 x.hang.n (fun i=>QB.enc (x.hang.get i)) fun i=>QB.enc (x.hang.get i)]):=by kernel_rfl
end Go.Proofs.Ytbpffdkemeoajaa
