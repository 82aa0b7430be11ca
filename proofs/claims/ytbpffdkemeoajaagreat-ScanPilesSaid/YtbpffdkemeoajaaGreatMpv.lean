/- - -/
import Derived.Test.YtbpffdkemeoajaaGreatMpt
import Derived.Test.YtbpffdkemeoajaaGreatMpu
open Go.Proofs.Tryz
open Go.IntKind (i64)
set_option maxRecDepth 100000
namespace Go.Proofs.YtbpffdkemeoajaaGreat
open Go.SX
def qU(n:Int)(y:Jn):Bool := !Qe y.a 0 n||(!Qe y.b 0 n||((y.a==y.b)||(!Qe y.i 0 3 || !Qe y.j 0 3)))
variable (x:QD)
def Jf(k:Nat):Bool:=qU (i64.wrap ((x.sK.n:Int)-1)) (x.hang.get k)
def jxB:List (Nat×Blk):=[(3,.cellsR 0 177 [.fn (.func 108) [.ptr 4 0 0]]),(4,.cellsR 0 31 (K2 0 x))]++JC 0 x
def QJz:JSt:=⟨2,[(0,.slz 2 0 x.hang.n (.of 0)),(1,.fn (.func 109) [.ptr 3 0 0])],jxB x,8⟩
def jxO:Option Nat:=QN (Jf x) x.hang.n 0
def jxU:UC:=⟨0,QJz x,λ_=>.int false .i64 (Kq (jxO x)),λ_=>[]⟩
def cxU:UC:=⟨0,QJz x,λ_=>.bool false (decide (Kq (jxO x)≥0)),λ_=>[]⟩
def jxJ(k:Nat):JSt:=⟨19,[(0,.slz 2 0 x.hang.n (.of 0)),(1,.fn (.func 109) [.ptr 3 0 0]),(7,vi x.hang.n),(8,vi k)],jxB x,8⟩
noncomputable abbrev QAx(k:Nat):List AV:=
  [.nili,.ptr 19 0 0,vi (k:Int)]
abbrev QPy:List CK:=
  [.int .i64,.int .i64,.int .i64,.int .i64,.int .i64,.int .i64,.int .i64,.int .i64,.int .i64,.int .i64,.int .i64,.int .i64,.int .i64,.int .i64,.int .i64,.int .i64,.int
  .i64,.int .i64,.int .i64,.int .i64,.int .i64,.int .i64,.int .i64,.int .i64,.int .i64,.int .i64,.int .i64,.int .i64]
noncomputable abbrev QOR:List (Nat×Blk):=
  [(2,.frz [.int .i64,.int .i64,.int .i64,.int .i64] x.hang.n λi=>QA.enc (x.hang.get i)),(3,.cellsR 0 177 [.fn (Fn.func 108) [.ptr 4 0 0]]),(4,.cellsR 0 31 [.int false
  .i64 x.d.pK.length,vi x.d.pK.aK,vi x.d.pK.oK,vi x.d.pK.dK.lo,vi x.d.pK.dK.hi,vi x.d.wide,
  vi x.d.high,.bool false x.d.turn,.slz 0 0 x.d.ps.n cO,.slz 1 0 x.sK.n cO,.slz 2 0 x.hang.n cO,vi x.lost,.int false .i64
  x.fK]),(0,.frz QPy x.d.ps.n λi=>QA.enc (x.d.ps.get i)),(1,.frz QPy x.sK.n λi=>QA.enc (x.sK.get i))]
theorem Qeo(k:Nat)(g:Nat->Value):exec (mkE prog K4) (hnd (mkE prog K4) 4) (QT f139 0) (JSt.inst (jxJ x k) g) (KG [] zM) = .br (decide ((k:Int)<(x.hang.n:Int))) (.need (decide ((0:Int)<=(k:Int)/\(k:Int)<(x.hang.n:Int))&&decide (x.hang.n<=x.hang.n)) (.need (decide (k<x.hang.n)) (.need (true) (.br (!Qe (x.hang.get k).a (0:Int) (i64.wrap ((x.sK.n:Int)-1))) (.leaf (.tup (QAx k)) ([])) (.need (true) (.br (!Qe (x.hang.get k).b (0:Int) (i64.wrap ((x.sK.n:Int)-1))) (.leaf (.tup (QAx k)) ([])) (.br ((x.hang.get k).a==(x.hang.get k).b) (.leaf (.tup (QAx k)) ([])) (.need (true) (.br (!Qe (x.hang.get k).i (0:Int) (3:Int)) (.leaf (.tup (QAx k)) ([])) (.need (true) (.br (!Qe (x.hang.get k).j (0:Int) (3:Int)) (.leaf (.tup (QAx k)) ([])) (.leaf (.tup [.nilp,.ptr 19 0 0,.slz 2 0 x.hang.n cO,.fn (Fn.func 109) [.ptr 3 0 0],vi (x.hang.n:Int),vi (i64.wrap ((k:Int)+1))]) ((QOR x)))))))))))))) (.leaf (.tup [.ptr 0 0 0,.ptr 19 0 0]) ([])):=by kernel_rfl
theorem QWG(k k':Nat):QI 8 [.slz 2 0 x.hang.n cO,.fn (Fn.func 109) [.ptr 3 0 0],vi (x.hang.n:Int),vi (i64.wrap ((k:Int)+1))] ((QOR x)) (jxJ x k')=( some ([0=0,x.hang.n=x.hang.n,cO=cO,Fn.func 109=Fn.func (109:FuncId),0=0,0=0,(x.hang.n:Int)=(x.hang.n:Int),i64.wrap ((k:Int)+1)=(k':Int),Fn.func 108=Fn.func (108:FuncId),0=0,0=0]++(xq x++(xp x)))):=by kernel_rfl
