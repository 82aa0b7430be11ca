/- - -/
import Derived.Test.YtbpffdkemeoajaaMvzi
open Go.IntKind (i64)
set_option maxRecDepth 100000
namespace Go.Proofs.Ytbpffdkemeoajaa
open Go Go.SX
abbrev mkX(P:Program)(C:Tab):Env:=⟨P,C,Zs P,true,fun _=>false,false,false,true⟩
theorem QLc{C:Tab}(hC:QV C):(mkX Try.prog C).Sound:={ c:=hC,m:=jc Try.prog,mixed:=W8 }
def ksP:List CK:=QA.ks (α:=QG)
def ksJ:List CK:=QA.ks (α:=Jn)
variable (d:Puz)(b:Qj)(c:Nat)(P:Nat→QG)(q:QG)(r:Bool)(q':QG)
def wnC(n:Nat):List AV:=GF d++[.slz 208 0 n (.of 0),.slz 216 0 0 (.of 0),.int true .i64 0,.int true .i64 0]
def wnB(n:Nat):List (Nat×Blk):=[(8,.cells 0 28 (GF d)),(200,.cells 0 50 (wnC d n)),(208,.rowz true 33 ksP n fun i=>QA.enc (P i)),(216,.rowz true 70 ksJ 0 fun i=>QA.enc (Jn.mk 0 0 0 0))]++Qz.blk 0 d.ps
def wnS(c:Nat):List (Nat×AV):=[(1,Enc.enc b),(2,.ptr 8 0 0),(5,.bool false r),(6,.ptr 200 0 0),(46,.slz 0 0 d.ps.n (.of 0)),(47,.int false .i64 d.ps.n),(48,.int false .i64 c)]
def zE(c:Nat):JSt:=⟨203,wnS d b r c,wnB d P c,300⟩
def Gr(n:Nat):JSt:=⟨203,[(2,.ptr 8 0 0),(5,.bool false r),(6,.ptr 200 0 0)],wnB d P n,300⟩
def wnL:List Nat:=[1,2,5,6,46,47,48]
def QGW:Ex→List Nat
 | .normal=>wnL
 | .exit _=>[2,5,6]
 | .ret=>[4]
def K9(c:Nat)(t:Int)(r:Bool)(q:QG)(s:Nat):JSt:=⟨203,wnS d b r c++[(7,.int false .i64 c),(9,.int false .i64 t),(10,.ptr 304 0 0),(60,Enc.enc (d.ps.get c)),(61,.int true .i64 s)],(304,.cells 7 33 (Enc.enc q).cells)::wnB d P c,320⟩
def jj(c:Nat)(t:Int)(r:Bool)(q:QG):JSt:=⟨203,wnS d b r c++[(7,.int false .i64 c),(9,.int false .i64 t),(10,.ptr 304 0 0)],(304,.cells 7 33 (Enc.enc q).cells)::wnB d P c,320⟩
def qp:Ex→List Nat
 | .normal=>wnL++[7,9,10,60,61]
 | .exit _=>wnL++[7,9,10]
 | .ret=>[]
def qF(c:Nat)(t:Int)(r:Bool)(q:QG)(e:Int)(L:List QB)(z:Bool)(k:Nat):JSt:=⟨203,wnS d b r c++[(7,.int false .i64 c),(9,.int false .i64 t),(10,.ptr 304 0 0),(17,.int false .i64 e),(18,.bool false z),(118,.slz 400 0 L.length (.of 0)),(119,.int false .i64 L.length),(120,.int false .i64 k)],(304,.cells 7 33 (Enc.enc q).cells)::rwL 400 L::wnB d P c,500⟩
def zN(c:Nat)(r:Bool)(q:QG)(e:Int)(z:Bool):JSt:=⟨203,wnS d b r c++[(10,.ptr 304 0 0),(17,.int false .i64 e),(18,.bool false z)],(304,.cells 7 33 (Enc.enc q).cells)::wnB d P c,500⟩
def QGa:Ex→List Nat
 | .normal=>wnL++[7,9,10,17,18,118,119,120]
 | .exit _=>wnL++[10,17,18]
 | .ret=>[]
def rwI(id:Nat)(l:List Int):Nat×Blk:=(id,.rowz true 3 [.int .i64] l.length fun i=>QA.enc (l.getD i (0:Int)))
noncomputable abbrev KN(d:Puz):List AV:=
  [vi (d.ps.get c).up.kind,vi (d.ps.get c).up.at_.lo,vi (d.ps.get c).up.at_.hi,vi (d.ps.get c).up.wide.lo,.int false .i64
  (d.ps.get c).up.wide.hi,vi (d.ps.get c).up.deep.lo,vi (d.ps.get c).up.deep.hi,vi (d.ps.get c).right.kind,vi (d.ps.get
  c).right.at_.lo,vi (d.ps.get c).right.at_.hi,vi (d.ps.get c).right.wide.lo,vi (d.ps.get c).right.wide.hi,vi (d.ps.get
  c).right.deep.lo,vi (d.ps.get c).right.deep.hi,vi (d.ps.get c).down.kind,vi (d.ps.get c).down.at_.lo,vi (d.ps.get
  c).down.at_.hi,vi (d.ps.get c).down.wide.lo,vi (d.ps.get c).down.wide.hi,vi (d.ps.get c).down.deep.lo,vi (d.ps.get
  c).down.deep.hi,vi (d.ps.get c).left.kind,vi (d.ps.get c).left.at_.lo,vi (d.ps.get c).left.at_.hi,vi (d.ps.get
  c).left.wide.lo,vi (d.ps.get c).left.wide.hi,vi (d.ps.get c).left.deep.lo,vi (d.ps.get c).left.deep.hi]
noncomputable abbrev Qu:Nat×Blk:=
  (8,.cells 0 28 [vi d.play.length,vi d.play.slack,vi d.play.loose,vi d.play.damp.lo,vi d.play.damp.hi,.int
  false .i64 d.wide,vi d.high,.bool false d.turn,.slz 0 0 d.ps.n cO])
noncomputable abbrev Q0(d:Puz):Nat×Blk:=
  (200,.cells 0 50 [vi d.play.length,vi d.play.slack,vi d.play.loose,vi d.play.damp.lo,vi d.play.damp.hi,.int
  false .i64 d.wide,vi d.high,.bool false d.turn,.slz 0 0 d.ps.n cO,.slz 208 0 c cO,.slz 216 0 0 cO,vj 0,vj 0])
abbrev Qq:List CK:=
  [.int .i64,.int .i64,.int .i64,.int .i64,.int .i64,.int .i64,.int .i64,.int .i64,.int .i64,.int .i64,.int .i64,.int .i64,.int .i64,.int .i64,.int .i64,.int .i64,.int
  .i64,.int .i64,.int .i64,.int .i64,.int .i64,.int .i64,.int .i64,.int .i64,.int .i64,.int .i64,.int .i64,.int .i64]
noncomputable abbrev QB4(d:Puz)(q:QG):Nat×Blk:=
  (304,.cells 7 33 [vi (d.ps.get c).up.kind,vi (d.ps.get c).up.at_.lo,vi (d.ps.get c).up.at_.hi,vi (d.ps.get c).up.wide.lo,
  .int false .i64 (d.ps.get c).up.wide.hi,vi (d.ps.get c).up.deep.lo,vi (d.ps.get c).up.deep.hi,vi q.right.kind,.int false .i64
  q.right.at_.lo,vi q.right.at_.hi,vi q.right.wide.lo,vi q.right.wide.hi,vi q.right.deep.lo,vi q.right.deep.hi,
  .int false .i64 q.down.kind,vi q.down.at_.lo,vi q.down.at_.hi,vi q.down.wide.lo,vi q.down.wide.hi,.int false .i64
  q.down.deep.lo,vi q.down.deep.hi,vi q.left.kind,vi q.left.at_.lo,vi q.left.at_.hi,vi q.left.wide.lo,.int false
  .i64 q.left.wide.hi,vi q.left.deep.lo,vi q.left.deep.hi])
noncomputable abbrev Qy(c:Nat):Nat×Blk:=
  (208,.rowz true 33 Qq c fun i=>QA.enc (P i))
noncomputable abbrev Qv:Nat×Blk:=
  (216,.rowz true 70 [.int .i64,.int .i64,.int .i64,.int .i64] 0 fun i=>QA.enc (Jn.mk (0:Int) (0:Int) (0:Int) (0:Int)))
noncomputable abbrev QDi(d:Puz)(q:QG):Nat×Blk:=
  (304,.cells 7 33 [vi q.up.kind,vi q.up.at_.lo,vi q.up.at_.hi,vi q.up.wide.lo,vi q.up.wide.hi,.int false .i64
  q.up.deep.lo,vi q.up.deep.hi,vi (d.ps.get c).up.kind,vi (d.ps.get c).up.at_.lo,vi (d.ps.get c).up.at_.hi,.int false .i64
  (d.ps.get c).up.wide.lo,vi (d.ps.get c).up.wide.hi,vi (d.ps.get c).up.deep.lo,vi (d.ps.get c).up.deep.hi,vi q.down.kind,.int
  false .i64 q.down.at_.lo,vi q.down.at_.hi,vi q.down.wide.lo,vi q.down.wide.hi,vi q.down.deep.lo,.int false .i64
  q.down.deep.hi,vi q.left.kind,vi q.left.at_.lo,vi q.left.at_.hi,vi q.left.wide.lo,vi q.left.wide.hi,.int false
  .i64 q.left.deep.lo,vi q.left.deep.hi])
noncomputable abbrev QCE(d:Puz)(q:QG):Nat×Blk:=
  (304,.cells 7 33 [vi q.up.kind,vi q.up.at_.lo,vi q.up.at_.hi,vi q.up.wide.lo,vi q.up.wide.hi,.int false .i64
  q.up.deep.lo,vi q.up.deep.hi,vi q.right.kind,vi q.right.at_.lo,vi q.right.at_.hi,vi q.right.wide.lo,.int false
  .i64 q.right.wide.hi,vi q.right.deep.lo,vi q.right.deep.hi,vi (d.ps.get c).up.kind,vi (d.ps.get c).up.at_.lo,.int false .i64
  (d.ps.get c).up.at_.hi,vi (d.ps.get c).up.wide.lo,vi (d.ps.get c).up.wide.hi,vi (d.ps.get c).up.deep.lo,vi (d.ps.get
  c).up.deep.hi,vi q.left.kind,vi q.left.at_.lo,vi q.left.at_.hi,vi q.left.wide.lo,vi q.left.wide.hi,.int false
  .i64 q.left.deep.lo,vi q.left.deep.hi])
noncomputable abbrev QCT(d:Puz)(q:QG):Nat×Blk:=
  (304,.cells 7 33 [vi q.up.kind,vi q.up.at_.lo,vi q.up.at_.hi,vi q.up.wide.lo,vi q.up.wide.hi,.int false .i64
  q.up.deep.lo,vi q.up.deep.hi,vi q.right.kind,vi q.right.at_.lo,vi q.right.at_.hi,vi q.right.wide.lo,.int false
  .i64 q.right.wide.hi,vi q.right.deep.lo,vi q.right.deep.hi,vi q.down.kind,vi q.down.at_.lo,vi q.down.at_.hi,
  .int false .i64 q.down.wide.lo,vi q.down.wide.hi,vi q.down.deep.lo,vi q.down.deep.hi,vi (d.ps.get c).up.kind,.int false .i64
  (d.ps.get c).up.at_.lo,vi (d.ps.get c).up.at_.hi,vi (d.ps.get c).up.wide.lo,vi (d.ps.get c).up.wide.hi,vi (d.ps.get
  c).up.deep.lo,vi (d.ps.get c).up.deep.hi])
theorem QUj(c:Nat)(t:Int)(r:Bool)(q:QG)(g:Nat→Value):exec (mkX Try.prog KZ) (hnd (mkX Try.prog KZ) 3) (VZ (Qa Try.f8 0)) (JSt.inst (K9 d b P c t r q 0) g) (KL [] qp) = .need (decide (d.ps.n≤d.ps.n)&&(true &&
  (true&&true))&&decide (((1:Int)≤d.wide∧d.wide≤100)∧((1:Int)≤d.high∧d.high≤100)∧(0:Int)≤(c:Int)∧(c:Int)≤100)) (.br (decide (QN d.wide d.high (c
  : Int) (0:Int)<0)) (.need (!r||r) (.need (!r||r) (.need (!r||r) (.bnd (r&&(d.ps.get c).up.kind==0) (fun(x0:Bool) => .need (decide ((0:Int)≤(i64.wrap ((4
  : Int)-t)).tmod (4:Int)∧(i64.wrap ((4:Int)-t)).tmod (4:Int)<4)) (.br (decide ((i64.wrap ((4:Int)-t)).tmod (4:Int)=0)) (.leaf (.tup [.nilp,.ptr
  203 0 0,.int false .u32 b.n,.ptr 8 0 0,.bool false x0,.ptr 200 0 0,.slz 0 0 d.ps.n cO,vi (d.ps.n:Int),vi (c:Int),vi (c :
  Int),vi t,.ptr 304 0 0,.agg (KN c d),vj 1]) ([(Qu d),(Q0 c d),(0,.frz Qq d.ps.n fun i=>QA.enc (d.ps.get i)),(QB4 c d q),(Qy P c),
  Qv])) (.br (decide ((i64.wrap ((4:Int)-t)).tmod (4:Int)=1)) (.leaf (.tup [.nilp,.ptr 203 0 0,.int false .u32 b.n,.ptr 8 0 0,.bool false x0,.ptr 200 0 0,.slz
  0 0 d.ps.n cO,vi (d.ps.n:Int),vi (c:Int),vi (c:Int),vi t,.ptr 304 0 0,.agg (KN c d),vj 1])
  ([(Qu d),(Q0 c d),(0,.frz Qq d.ps.n fun i=>QA.enc (d.ps.get i)),(QDi c d q),(Qy P c),Qv])) (.br (decide ((i64.wrap ((4:Int)-t)).tmod (4:Int) =
  2)) (.leaf (.tup [.nilp,.ptr 203 0 0,.int false .u32 b.n,.ptr 8 0 0,.bool false x0,.ptr 200 0 0,.slz 0 0 d.ps.n cO,vi (d.ps.n:Int),vi (c
  : Int),vi (c:Int),vi t,.ptr 304 0 0,.agg (KN c d),vj 1]) ([(Qu d),(Q0 c d),(0,.frz Qq d.ps.n fun i=>QA.enc (d.ps.get i)),
  (QCE c d q),(Qy P c),Qv])) (.leaf (.tup [.nilp,.ptr 203 0 0,.int false .u32 b.n,.ptr 8 0 0,.bool false x0,.ptr 200 0 0,.slz 0 0 d.ps.n cO,.int false .i64
  (d.ps.n:Int),vi (c:Int),vi (c:Int),vi t,.ptr 304 0 0,.agg (KN c d),vj 1]) ([(Qu d),(Q0 c d),(0,.frz Qq
  d.ps.n fun i=>QA.enc (d.ps.get i)),(QCT c d q),(Qy P c),Qv])))))))))) (.need (decide ((0:Int)≤QN d.wide d.high (c:Int) (0:Int)∧QN d.wide d.high (c:Int)
  (0:Int)<(d.ps.n:Int))&&decide (d.ps.n≤d.ps.n)) (.need (decide ((QN d.wide d.high (c:Int) (0:Int)).toNat<d.ps.n)) (.need (true) (.need (!r||r) (.need (!r||r)
  (.bnd (r&&(Qw d.play (d.ps.get c).up (d.ps.get (QN d.wide d.high (c:Int) (0:Int)).toNat).down).2==0) (fun(x1:Bool) => .need (!x1||x1) (.need (!x1||x1) (.bnd (x1
  && (Qw d.play (d.ps.get c).up (d.ps.get (QN d.wide d.high (c:Int) (0:Int)).toNat).down).1==2) (fun(x2:Bool) => .need (decide ((0:Int)≤(i64.wrap ((4:Int) -
  t)).tmod (4:Int)∧(i64.wrap ((4:Int)-t)).tmod (4:Int)<4)) (.br (decide ((i64.wrap ((4:Int)-t)).tmod (4:Int)=0)) (.leaf (.tup [.nilp,.ptr 203 0 0,
  .int false .u32 b.n,.ptr 8 0 0,.bool false x2,.ptr 200 0 0,.slz 0 0 d.ps.n cO,vi (d.ps.n:Int),vi (c:Int),vi (c:Int),.int
  false .i64 t,.ptr 304 0 0,.agg (KN c d),vj 1]) ([(Qu d),(Q0 c d),(0,.frz Qq d.ps.n fun i=>QA.enc (d.ps.get i)),(QB4 c d q),(Qy P c),Qv])) (.br
  (decide ((i64.wrap ((4:Int)-t)).tmod (4:Int)=1)) (.leaf (.tup [.nilp,.ptr 203 0 0,.int false .u32 b.n,.ptr 8 0 0,.bool false x2,.ptr 200 0 0,.slz 0 0 d.ps.n
  cO,vi (d.ps.n:Int),vi (c:Int),vi (c:Int),vi t,.ptr 304 0 0,.agg (KN c d),vj 1]) ([(Qu d),
  (Q0 c d),(0,.frz Qq d.ps.n fun i=>QA.enc (d.ps.get i)),(QDi c d q),(Qy P c),Qv])) (.br (decide ((i64.wrap ((4:Int)-t)).tmod (4:Int)=2)) (.leaf
  (.tup [.nilp,.ptr 203 0 0,.int false .u32 b.n,.ptr 8 0 0,.bool false x2,.ptr 200 0 0,.slz 0 0 d.ps.n cO,vi (d.ps.n:Int),vi (c:Int),
  .int false .i64 (c:Int),vi t,.ptr 304 0 0,.agg (KN c d),vj 1]) ([(Qu d),(Q0 c d),(0,.frz Qq d.ps.n fun i=>QA.enc (d.ps.get i)),(QCE
  c d q),(Qy P c),Qv])) (.leaf (.tup [.nilp,.ptr 203 0 0,.int false .u32 b.n,.ptr 8 0 0,.bool false x2,.ptr 200 0 0,.slz 0 0 d.ps.n cO,vi (d.ps.n :
  Int),vi (c:Int),vi (c:Int),vi t,.ptr 304 0 0,.agg (KN c d),vj 1]) ([(Qu d),(Q0 c d),(0,.frz Qq d.ps.n fun i
  => QA.enc (d.ps.get i)),(QCT c d q),(Qy P c),Qv])))))))))))))))):=by kernel_rfl
noncomputable abbrev QBn(d:Puz)(q:QG):Nat×Blk:=
  (304,.cells 7 33 [vi (d.ps.get c).right.kind,vi (d.ps.get c).right.at_.lo,vi (d.ps.get c).right.at_.hi,vi (d.ps.get
  c).right.wide.lo,vi (d.ps.get c).right.wide.hi,vi (d.ps.get c).right.deep.lo,vi (d.ps.get c).right.deep.hi,vi q.right.kind,
  .int false .i64 q.right.at_.lo,vi q.right.at_.hi,vi q.right.wide.lo,vi q.right.wide.hi,vi q.right.deep.lo,.int false .i64
  q.right.deep.hi,vi q.down.kind,vi q.down.at_.lo,vi q.down.at_.hi,vi q.down.wide.lo,vi q.down.wide.hi,.int
  false .i64 q.down.deep.lo,vi q.down.deep.hi,vi q.left.kind,vi q.left.at_.lo,vi q.left.at_.hi,vi q.left.wide.lo,
  .int false .i64 q.left.wide.hi,vi q.left.deep.lo,vi q.left.deep.hi])
noncomputable abbrev QDK(d:Puz)(q:QG):Nat×Blk:=
  (304,.cells 7 33 [vi q.up.kind,vi q.up.at_.lo,vi q.up.at_.hi,vi q.up.wide.lo,vi q.up.wide.hi,.int false .i64
  q.up.deep.lo,vi q.up.deep.hi,vi (d.ps.get c).right.kind,vi (d.ps.get c).right.at_.lo,vi (d.ps.get c).right.at_.hi,.int false
  .i64 (d.ps.get c).right.wide.lo,vi (d.ps.get c).right.wide.hi,vi (d.ps.get c).right.deep.lo,vi (d.ps.get c).right.deep.hi,.int false .i64
  q.down.kind,vi q.down.at_.lo,vi q.down.at_.hi,vi q.down.wide.lo,vi q.down.wide.hi,vi q.down.deep.lo,.int false
  .i64 q.down.deep.hi,vi q.left.kind,vi q.left.at_.lo,vi q.left.at_.hi,vi q.left.wide.lo,vi q.left.wide.hi,.int
  false .i64 q.left.deep.lo,vi q.left.deep.hi])
noncomputable abbrev QB2(d:Puz)(q:QG):Nat×Blk:=
  (304,.cells 7 33 [vi q.up.kind,vi q.up.at_.lo,vi q.up.at_.hi,vi q.up.wide.lo,vi q.up.wide.hi,.int false .i64
  q.up.deep.lo,vi q.up.deep.hi,vi q.right.kind,vi q.right.at_.lo,vi q.right.at_.hi,vi q.right.wide.lo,.int false
  .i64 q.right.wide.hi,vi q.right.deep.lo,vi q.right.deep.hi,vi (d.ps.get c).right.kind,vi (d.ps.get c).right.at_.lo,.int
  false .i64 (d.ps.get c).right.at_.hi,vi (d.ps.get c).right.wide.lo,vi (d.ps.get c).right.wide.hi,vi (d.ps.get c).right.deep.lo,.int false
  .i64 (d.ps.get c).right.deep.hi,vi q.left.kind,vi q.left.at_.lo,vi q.left.at_.hi,vi q.left.wide.lo,.int false .i64
  q.left.wide.hi,vi q.left.deep.lo,vi q.left.deep.hi])
noncomputable abbrev QEH(d:Puz)(q:QG):Nat×Blk:=
  (304,.cells 7 33 [vi q.up.kind,vi q.up.at_.lo,vi q.up.at_.hi,vi q.up.wide.lo,vi q.up.wide.hi,.int false .i64
  q.up.deep.lo,vi q.up.deep.hi,vi q.right.kind,vi q.right.at_.lo,vi q.right.at_.hi,vi q.right.wide.lo,.int false
  .i64 q.right.wide.hi,vi q.right.deep.lo,vi q.right.deep.hi,vi q.down.kind,vi q.down.at_.lo,vi q.down.at_.hi,
  .int false .i64 q.down.wide.lo,vi q.down.wide.hi,vi q.down.deep.lo,vi q.down.deep.hi,vi (d.ps.get c).right.kind,.int false
  .i64 (d.ps.get c).right.at_.lo,vi (d.ps.get c).right.at_.hi,vi (d.ps.get c).right.wide.lo,vi (d.ps.get c).right.wide.hi,.int false .i64
  (d.ps.get c).right.deep.lo,vi (d.ps.get c).right.deep.hi])
theorem QQZ(c:Nat)(t:Int)(r:Bool)(q:QG)(g:Nat→Value):exec (mkX Try.prog KZ) (hnd (mkX Try.prog KZ) 3) (VZ (Qa Try.f8 0)) (JSt.inst (K9 d b P c t r q 1) g) (KL [] qp) = .need (decide (d.ps.n≤d.ps.n)&&(true &&
  (true&&true))&&decide (((1:Int)≤d.wide∧d.wide≤100)∧((1:Int)≤d.high∧d.high≤100)∧(0:Int)≤(c:Int)∧(c:Int)≤100)) (.br (decide (QN d.wide d.high (c
  : Int) (1:Int)<0)) (.need (!r||r) (.need (!r||r) (.need (!r||r) (.bnd (r&&(d.ps.get c).right.kind==0) (fun(x0:Bool) => .need (decide ((0:Int)≤(i64.wrap
  ((5:Int)-t)).tmod (4:Int)∧(i64.wrap ((5:Int)-t)).tmod (4:Int)<4)) (.br (decide ((i64.wrap ((5:Int)-t)).tmod (4:Int)=0)) (.leaf (.tup [.nilp,
  .ptr 203 0 0,.int false .u32 b.n,.ptr 8 0 0,.bool false x0,.ptr 200 0 0,.slz 0 0 d.ps.n cO,vi (d.ps.n:Int),vi (c:Int),.int false .i64
  (c:Int),vi t,.ptr 304 0 0,.agg (KN c d),vj 2]) ([(Qu d),(Q0 c d),(0,.frz Qq d.ps.n fun i=>QA.enc (d.ps.get i)),(QBn c d q),(Qy P
  c),Qv])) (.br (decide ((i64.wrap ((5:Int)-t)).tmod (4:Int)=1)) (.leaf (.tup [.nilp,.ptr 203 0 0,.int false .u32 b.n,.ptr 8 0 0,.bool false x0,.ptr 200 0 0,
  .slz 0 0 d.ps.n cO,vi (d.ps.n:Int),vi (c:Int),vi (c:Int),vi t,.ptr 304 0 0,.agg (KN c d),.int true .i64
  2]) ([(Qu d),(Q0 c d),(0,.frz Qq d.ps.n fun i=>QA.enc (d.ps.get i)),(QDK c d q),(Qy P c),Qv])) (.br (decide ((i64.wrap ((5:Int)-t)).tmod (4:Int)
  = 2)) (.leaf (.tup [.nilp,.ptr 203 0 0,.int false .u32 b.n,.ptr 8 0 0,.bool false x0,.ptr 200 0 0,.slz 0 0 d.ps.n cO,vi (d.ps.n:Int),.int false .i64
  (c:Int),vi (c:Int),vi t,.ptr 304 0 0,.agg (KN c d),vj 2]) ([(Qu d),(Q0 c d),(0,.frz Qq d.ps.n fun i=>QA.enc (d.ps.get
  i)),(QB2 c d q),(Qy P c),Qv])) (.leaf (.tup [.nilp,.ptr 203 0 0,.int false .u32 b.n,.ptr 8 0 0,.bool false x0,.ptr 200 0 0,.slz 0 0 d.ps.n cO,.int false .i64
  (d.ps.n:Int),vi (c:Int),vi (c:Int),vi t,.ptr 304 0 0,.agg (KN c d),vj 2]) ([(Qu d),(Q0 c d),(0,.frz Qq
  d.ps.n fun i=>QA.enc (d.ps.get i)),(QEH c d q),(Qy P c),Qv])))))))))) (.need (decide ((0:Int)≤QN d.wide d.high (c:Int) (1:Int)∧QN d.wide d.high (c:Int)
  (1:Int)<(d.ps.n:Int))&&decide (d.ps.n≤d.ps.n)) (.need (decide ((QN d.wide d.high (c:Int) (1:Int)).toNat<d.ps.n)) (.need (true) (.need (!r||r) (.need (!r||r)
  (.bnd (r&&(Qw d.play (d.ps.get c).right (d.ps.get (QN d.wide d.high (c:Int) (1:Int)).toNat).left).2==0) (fun(x1:Bool) => .need (!x1||x1) (.need (!x1||x1) (.bnd
  (x1&&(Qw d.play (d.ps.get c).right (d.ps.get (QN d.wide d.high (c:Int) (1:Int)).toNat).left).1==2) (fun(x2:Bool) => .need (decide ((0:Int)≤(i64.wrap ((5 :
  Int)-t)).tmod (4:Int)∧(i64.wrap ((5:Int)-t)).tmod (4:Int)<4)) (.br (decide ((i64.wrap ((5:Int)-t)).tmod (4:Int)=0)) (.leaf (.tup [.nilp,.ptr
  203 0 0,.int false .u32 b.n,.ptr 8 0 0,.bool false x2,.ptr 200 0 0,.slz 0 0 d.ps.n cO,vi (d.ps.n:Int),vi (c:Int),vi (c :
  Int),vi t,.ptr 304 0 0,.agg (KN c d),vj 2]) ([(Qu d),(Q0 c d),(0,.frz Qq d.ps.n fun i=>QA.enc (d.ps.get i)),(QBn c d q),(Qy P c),
  Qv])) (.br (decide ((i64.wrap ((5:Int)-t)).tmod (4:Int)=1)) (.leaf (.tup [.nilp,.ptr 203 0 0,.int false .u32 b.n,.ptr 8 0 0,.bool false x2,.ptr 200 0 0,.slz
  0 0 d.ps.n cO,vi (d.ps.n:Int),vi (c:Int),vi (c:Int),vi t,.ptr 304 0 0,.agg (KN c d),vj 2])
  ([(Qu d),(Q0 c d),(0,.frz Qq d.ps.n fun i=>QA.enc (d.ps.get i)),(QDK c d q),(Qy P c),Qv])) (.br (decide ((i64.wrap ((5:Int)-t)).tmod (4:Int) =
  2)) (.leaf (.tup [.nilp,.ptr 203 0 0,.int false .u32 b.n,.ptr 8 0 0,.bool false x2,.ptr 200 0 0,.slz 0 0 d.ps.n cO,vi (d.ps.n:Int),vi (c
  : Int),vi (c:Int),vi t,.ptr 304 0 0,.agg (KN c d),vj 2]) ([(Qu d),(Q0 c d),(0,.frz Qq d.ps.n fun i=>QA.enc (d.ps.get i)),
  (QB2 c d q),(Qy P c),Qv])) (.leaf (.tup [.nilp,.ptr 203 0 0,.int false .u32 b.n,.ptr 8 0 0,.bool false x2,.ptr 200 0 0,.slz 0 0 d.ps.n cO,.int false .i64
  (d.ps.n:Int),vi (c:Int),vi (c:Int),vi t,.ptr 304 0 0,.agg (KN c d),vj 2]) ([(Qu d),(Q0 c d),(0,.frz Qq
  d.ps.n fun i=>QA.enc (d.ps.get i)),(QEH c d q),(Qy P c),Qv])))))))))))))))):=by kernel_rfl
noncomputable abbrev QD8(d:Puz)(q:QG):Nat×Blk:=
  (304,.cells 7 33 [vi (d.ps.get c).down.kind,vi (d.ps.get c).down.at_.lo,vi (d.ps.get c).down.at_.hi,vi (d.ps.get
  c).down.wide.lo,vi (d.ps.get c).down.wide.hi,vi (d.ps.get c).down.deep.lo,vi (d.ps.get c).down.deep.hi,vi q.right.kind,.int
  false .i64 q.right.at_.lo,vi q.right.at_.hi,vi q.right.wide.lo,vi q.right.wide.hi,vi q.right.deep.lo,.int false .i64
  q.right.deep.hi,vi q.down.kind,vi q.down.at_.lo,vi q.down.at_.hi,vi q.down.wide.lo,vi q.down.wide.hi,.int
  false .i64 q.down.deep.lo,vi q.down.deep.hi,vi q.left.kind,vi q.left.at_.lo,vi q.left.at_.hi,vi q.left.wide.lo,
  .int false .i64 q.left.wide.hi,vi q.left.deep.lo,vi q.left.deep.hi])
noncomputable abbrev QA6(d:Puz)(q:QG):Nat×Blk:=
  (304,.cells 7 33 [vi q.up.kind,vi q.up.at_.lo,vi q.up.at_.hi,vi q.up.wide.lo,vi q.up.wide.hi,.int false .i64
  q.up.deep.lo,vi q.up.deep.hi,vi (d.ps.get c).down.kind,vi (d.ps.get c).down.at_.lo,vi (d.ps.get c).down.at_.hi,.int false
  .i64 (d.ps.get c).down.wide.lo,vi (d.ps.get c).down.wide.hi,vi (d.ps.get c).down.deep.lo,vi (d.ps.get c).down.deep.hi,.int false .i64
  q.down.kind,vi q.down.at_.lo,vi q.down.at_.hi,vi q.down.wide.lo,vi q.down.wide.hi,vi q.down.deep.lo,.int false
  .i64 q.down.deep.hi,vi q.left.kind,vi q.left.at_.lo,vi q.left.at_.hi,vi q.left.wide.lo,vi q.left.wide.hi,.int
  false .i64 q.left.deep.lo,vi q.left.deep.hi])
noncomputable abbrev QDZ(d:Puz)(q:QG):Nat×Blk:=
  (304,.cells 7 33 [vi q.up.kind,vi q.up.at_.lo,vi q.up.at_.hi,vi q.up.wide.lo,vi q.up.wide.hi,.int false .i64
  q.up.deep.lo,vi q.up.deep.hi,vi q.right.kind,vi q.right.at_.lo,vi q.right.at_.hi,vi q.right.wide.lo,.int false
  .i64 q.right.wide.hi,vi q.right.deep.lo,vi q.right.deep.hi,vi (d.ps.get c).down.kind,vi (d.ps.get c).down.at_.lo,.int false
  .i64 (d.ps.get c).down.at_.hi,vi (d.ps.get c).down.wide.lo,vi (d.ps.get c).down.wide.hi,vi (d.ps.get c).down.deep.lo,.int false .i64
  (d.ps.get c).down.deep.hi,vi q.left.kind,vi q.left.at_.lo,vi q.left.at_.hi,vi q.left.wide.lo,vi q.left.wide.hi,
  .int false .i64 q.left.deep.lo,vi q.left.deep.hi])
noncomputable abbrev QDl(d:Puz)(q:QG):Nat×Blk:=
  (304,.cells 7 33 [vi q.up.kind,vi q.up.at_.lo,vi q.up.at_.hi,vi q.up.wide.lo,vi q.up.wide.hi,.int false .i64
  q.up.deep.lo,vi q.up.deep.hi,vi q.right.kind,vi q.right.at_.lo,vi q.right.at_.hi,vi q.right.wide.lo,.int false
  .i64 q.right.wide.hi,vi q.right.deep.lo,vi q.right.deep.hi,vi q.down.kind,vi q.down.at_.lo,vi q.down.at_.hi,
  .int false .i64 q.down.wide.lo,vi q.down.wide.hi,vi q.down.deep.lo,vi q.down.deep.hi,vi (d.ps.get c).down.kind,.int false
  .i64 (d.ps.get c).down.at_.lo,vi (d.ps.get c).down.at_.hi,vi (d.ps.get c).down.wide.lo,vi (d.ps.get c).down.wide.hi,.int false .i64
  (d.ps.get c).down.deep.lo,vi (d.ps.get c).down.deep.hi])
theorem QPT(c:Nat)(t:Int)(r:Bool)(q:QG)(g:Nat→Value):exec (mkX Try.prog KZ) (hnd (mkX Try.prog KZ) 3) (VZ (Qa Try.f8 0)) (JSt.inst (K9 d b P c t r q 2) g) (KL [] qp) = .need (decide (d.ps.n≤d.ps.n)&&(true &&
  (true&&true))&&decide (((1:Int)≤d.wide∧d.wide≤100)∧((1:Int)≤d.high∧d.high≤100)∧(0:Int)≤(c:Int)∧(c:Int)≤100)) (.br (decide (QN d.wide d.high (c
  : Int) (2:Int)<0)) (.need (!r||r) (.need (!r||r) (.need (!r||r) (.bnd (r&&(d.ps.get c).down.kind==0) (fun(x0:Bool) => .need (decide ((0:Int)≤(i64.wrap
  ((6:Int)-t)).tmod (4:Int)∧(i64.wrap ((6:Int)-t)).tmod (4:Int)<4)) (.br (decide ((i64.wrap ((6:Int)-t)).tmod (4:Int)=0)) (.leaf (.tup [.nilp,
  .ptr 203 0 0,.int false .u32 b.n,.ptr 8 0 0,.bool false x0,.ptr 200 0 0,.slz 0 0 d.ps.n cO,vi (d.ps.n:Int),vi (c:Int),.int false .i64
  (c:Int),vi t,.ptr 304 0 0,.agg (KN c d),vj 3]) ([(Qu d),(Q0 c d),(0,.frz Qq d.ps.n fun i=>QA.enc (d.ps.get i)),(QD8 c d q),(Qy P
  c),Qv])) (.br (decide ((i64.wrap ((6:Int)-t)).tmod (4:Int)=1)) (.leaf (.tup [.nilp,.ptr 203 0 0,.int false .u32 b.n,.ptr 8 0 0,.bool false x0,.ptr 200 0 0,
  .slz 0 0 d.ps.n cO,vi (d.ps.n:Int),vi (c:Int),vi (c:Int),vi t,.ptr 304 0 0,.agg (KN c d),.int true .i64
  3]) ([(Qu d),(Q0 c d),(0,.frz Qq d.ps.n fun i=>QA.enc (d.ps.get i)),(QA6 c d q),(Qy P c),Qv])) (.br (decide ((i64.wrap ((6:Int)-t)).tmod (4:Int)
  = 2)) (.leaf (.tup [.nilp,.ptr 203 0 0,.int false .u32 b.n,.ptr 8 0 0,.bool false x0,.ptr 200 0 0,.slz 0 0 d.ps.n cO,vi (d.ps.n:Int),.int false .i64
  (c:Int),vi (c:Int),vi t,.ptr 304 0 0,.agg (KN c d),vj 3]) ([(Qu d),(Q0 c d),(0,.frz Qq d.ps.n fun i=>QA.enc (d.ps.get
  i)),(QDZ c d q),(Qy P c),Qv])) (.leaf (.tup [.nilp,.ptr 203 0 0,.int false .u32 b.n,.ptr 8 0 0,.bool false x0,.ptr 200 0 0,.slz 0 0 d.ps.n cO,.int false .i64
  (d.ps.n:Int),vi (c:Int),vi (c:Int),vi t,.ptr 304 0 0,.agg (KN c d),vj 3]) ([(Qu d),(Q0 c d),(0,.frz Qq
  d.ps.n fun i=>QA.enc (d.ps.get i)),(QDl c d q),(Qy P c),Qv])))))))))) (.need (decide ((0:Int)≤QN d.wide d.high (c:Int) (2:Int)∧QN d.wide d.high (c:Int)
  (2:Int)<(d.ps.n:Int))&&decide (d.ps.n≤d.ps.n)) (.need (decide ((QN d.wide d.high (c:Int) (2:Int)).toNat<d.ps.n)) (.need (true) (.need (!r||r) (.need (!r||r)
  (.bnd (r&&(Qw d.play (d.ps.get c).down (d.ps.get (QN d.wide d.high (c:Int) (2:Int)).toNat).up).2==0) (fun(x1:Bool) => .need (!x1||x1) (.need (!x1||x1) (.bnd (x1
  && (Qw d.play (d.ps.get c).down (d.ps.get (QN d.wide d.high (c:Int) (2:Int)).toNat).up).1==2) (fun(x2:Bool) => .need (decide ((0:Int)≤(i64.wrap ((6:Int) -
  t)).tmod (4:Int)∧(i64.wrap ((6:Int)-t)).tmod (4:Int)<4)) (.br (decide ((i64.wrap ((6:Int)-t)).tmod (4:Int)=0)) (.leaf (.tup [.nilp,.ptr 203 0 0,
  .int false .u32 b.n,.ptr 8 0 0,.bool false x2,.ptr 200 0 0,.slz 0 0 d.ps.n cO,vi (d.ps.n:Int),vi (c:Int),vi (c:Int),.int
  false .i64 t,.ptr 304 0 0,.agg (KN c d),vj 3]) ([(Qu d),(Q0 c d),(0,.frz Qq d.ps.n fun i=>QA.enc (d.ps.get i)),(QD8 c d q),(Qy P c),Qv])) (.br
  (decide ((i64.wrap ((6:Int)-t)).tmod (4:Int)=1)) (.leaf (.tup [.nilp,.ptr 203 0 0,.int false .u32 b.n,.ptr 8 0 0,.bool false x2,.ptr 200 0 0,.slz 0 0 d.ps.n
  cO,vi (d.ps.n:Int),vi (c:Int),vi (c:Int),vi t,.ptr 304 0 0,.agg (KN c d),vj 3]) ([(Qu d),
  (Q0 c d),(0,.frz Qq d.ps.n fun i=>QA.enc (d.ps.get i)),(QA6 c d q),(Qy P c),Qv])) (.br (decide ((i64.wrap ((6:Int)-t)).tmod (4:Int)=2)) (.leaf
  (.tup [.nilp,.ptr 203 0 0,.int false .u32 b.n,.ptr 8 0 0,.bool false x2,.ptr 200 0 0,.slz 0 0 d.ps.n cO,vi (d.ps.n:Int),vi (c:Int),
  .int false .i64 (c:Int),vi t,.ptr 304 0 0,.agg (KN c d),vj 3]) ([(Qu d),(Q0 c d),(0,.frz Qq d.ps.n fun i=>QA.enc (d.ps.get i)),(QDZ
  c d q),(Qy P c),Qv])) (.leaf (.tup [.nilp,.ptr 203 0 0,.int false .u32 b.n,.ptr 8 0 0,.bool false x2,.ptr 200 0 0,.slz 0 0 d.ps.n cO,vi (d.ps.n :
  Int),vi (c:Int),vi (c:Int),vi t,.ptr 304 0 0,.agg (KN c d),vj 3]) ([(Qu d),(Q0 c d),(0,.frz Qq d.ps.n fun i
  => QA.enc (d.ps.get i)),(QDl c d q),(Qy P c),Qv])))))))))))))))):=by kernel_rfl
noncomputable abbrev QCk(d:Puz)(q:QG):Nat×Blk:=
  (304,.cells 7 33 [vi (d.ps.get c).left.kind,vi (d.ps.get c).left.at_.lo,vi (d.ps.get c).left.at_.hi,vi (d.ps.get
  c).left.wide.lo,vi (d.ps.get c).left.wide.hi,vi (d.ps.get c).left.deep.lo,vi (d.ps.get c).left.deep.hi,vi q.right.kind,.int
  false .i64 q.right.at_.lo,vi q.right.at_.hi,vi q.right.wide.lo,vi q.right.wide.hi,vi q.right.deep.lo,.int false .i64
  q.right.deep.hi,vi q.down.kind,vi q.down.at_.lo,vi q.down.at_.hi,vi q.down.wide.lo,vi q.down.wide.hi,.int
  false .i64 q.down.deep.lo,vi q.down.deep.hi,vi q.left.kind,vi q.left.at_.lo,vi q.left.at_.hi,vi q.left.wide.lo,
  .int false .i64 q.left.wide.hi,vi q.left.deep.lo,vi q.left.deep.hi])
noncomputable abbrev QEU(d:Puz)(q:QG):Nat×Blk:=
  (304,.cells 7 33 [vi q.up.kind,vi q.up.at_.lo,vi q.up.at_.hi,vi q.up.wide.lo,vi q.up.wide.hi,.int false .i64
  q.up.deep.lo,vi q.up.deep.hi,vi (d.ps.get c).left.kind,vi (d.ps.get c).left.at_.lo,vi (d.ps.get c).left.at_.hi,.int false
  .i64 (d.ps.get c).left.wide.lo,vi (d.ps.get c).left.wide.hi,vi (d.ps.get c).left.deep.lo,vi (d.ps.get c).left.deep.hi,.int false .i64
  q.down.kind,vi q.down.at_.lo,vi q.down.at_.hi,vi q.down.wide.lo,vi q.down.wide.hi,vi q.down.deep.lo,.int false
  .i64 q.down.deep.hi,vi q.left.kind,vi q.left.at_.lo,vi q.left.at_.hi,vi q.left.wide.lo,vi q.left.wide.hi,.int
  false .i64 q.left.deep.lo,vi q.left.deep.hi])
noncomputable abbrev QBo(d:Puz)(q:QG):Nat×Blk:=
  (304,.cells 7 33 [vi q.up.kind,vi q.up.at_.lo,vi q.up.at_.hi,vi q.up.wide.lo,vi q.up.wide.hi,.int false .i64
  q.up.deep.lo,vi q.up.deep.hi,vi q.right.kind,vi q.right.at_.lo,vi q.right.at_.hi,vi q.right.wide.lo,.int false
  .i64 q.right.wide.hi,vi q.right.deep.lo,vi q.right.deep.hi,vi (d.ps.get c).left.kind,vi (d.ps.get c).left.at_.lo,.int false
  .i64 (d.ps.get c).left.at_.hi,vi (d.ps.get c).left.wide.lo,vi (d.ps.get c).left.wide.hi,vi (d.ps.get c).left.deep.lo,.int false .i64
  (d.ps.get c).left.deep.hi,vi q.left.kind,vi q.left.at_.lo,vi q.left.at_.hi,vi q.left.wide.lo,vi q.left.wide.hi,
  .int false .i64 q.left.deep.lo,vi q.left.deep.hi])
noncomputable abbrev QDb(d:Puz)(q:QG):Nat×Blk:=
  (304,.cells 7 33 [vi q.up.kind,vi q.up.at_.lo,vi q.up.at_.hi,vi q.up.wide.lo,vi q.up.wide.hi,.int false .i64
  q.up.deep.lo,vi q.up.deep.hi,vi q.right.kind,vi q.right.at_.lo,vi q.right.at_.hi,vi q.right.wide.lo,.int false
  .i64 q.right.wide.hi,vi q.right.deep.lo,vi q.right.deep.hi,vi q.down.kind,vi q.down.at_.lo,vi q.down.at_.hi,
  .int false .i64 q.down.wide.lo,vi q.down.wide.hi,vi q.down.deep.lo,vi q.down.deep.hi,vi (d.ps.get c).left.kind,.int false
  .i64 (d.ps.get c).left.at_.lo,vi (d.ps.get c).left.at_.hi,vi (d.ps.get c).left.wide.lo,vi (d.ps.get c).left.wide.hi,.int false .i64
  (d.ps.get c).left.deep.lo,vi (d.ps.get c).left.deep.hi])
theorem QO8(c:Nat)(t:Int)(r:Bool)(q:QG)(g:Nat→Value):exec (mkX Try.prog KZ) (hnd (mkX Try.prog KZ) 3) (VZ (Qa Try.f8 0)) (JSt.inst (K9 d b P c t r q 3) g) (KL [] qp) = .need (decide (d.ps.n≤d.ps.n)&&(true &&
  (true&&true))&&decide (((1:Int)≤d.wide∧d.wide≤100)∧((1:Int)≤d.high∧d.high≤100)∧(0:Int)≤(c:Int)∧(c:Int)≤100)) (.br (decide (QN d.wide d.high (c
  : Int) (3:Int)<0)) (.need (!r||r) (.need (!r||r) (.need (!r||r) (.bnd (r&&(d.ps.get c).left.kind==0) (fun(x0:Bool) => .need (decide ((0:Int)≤(i64.wrap
  ((7:Int)-t)).tmod (4:Int)∧(i64.wrap ((7:Int)-t)).tmod (4:Int)<4)) (.br (decide ((i64.wrap ((7:Int)-t)).tmod (4:Int)=0)) (.leaf (.tup [.nilp,
  .ptr 203 0 0,.int false .u32 b.n,.ptr 8 0 0,.bool false x0,.ptr 200 0 0,.slz 0 0 d.ps.n cO,vi (d.ps.n:Int),vi (c:Int),.int false .i64
  (c:Int),vi t,.ptr 304 0 0,.agg (KN c d),vj 4]) ([(Qu d),(Q0 c d),(0,.frz Qq d.ps.n fun i=>QA.enc (d.ps.get i)),(QCk c d q),(Qy P
  c),Qv])) (.br (decide ((i64.wrap ((7:Int)-t)).tmod (4:Int)=1)) (.leaf (.tup [.nilp,.ptr 203 0 0,.int false .u32 b.n,.ptr 8 0 0,.bool false x0,.ptr 200 0 0,
  .slz 0 0 d.ps.n cO,vi (d.ps.n:Int),vi (c:Int),vi (c:Int),vi t,.ptr 304 0 0,.agg (KN c d),.int true .i64
  4]) ([(Qu d),(Q0 c d),(0,.frz Qq d.ps.n fun i=>QA.enc (d.ps.get i)),(QEU c d q),(Qy P c),Qv])) (.br (decide ((i64.wrap ((7:Int)-t)).tmod (4:Int)
  = 2)) (.leaf (.tup [.nilp,.ptr 203 0 0,.int false .u32 b.n,.ptr 8 0 0,.bool false x0,.ptr 200 0 0,.slz 0 0 d.ps.n cO,vi (d.ps.n:Int),.int false .i64
  (c:Int),vi (c:Int),vi t,.ptr 304 0 0,.agg (KN c d),vj 4]) ([(Qu d),(Q0 c d),(0,.frz Qq d.ps.n fun i=>QA.enc (d.ps.get
  i)),(QBo c d q),(Qy P c),Qv])) (.leaf (.tup [.nilp,.ptr 203 0 0,.int false .u32 b.n,.ptr 8 0 0,.bool false x0,.ptr 200 0 0,.slz 0 0 d.ps.n cO,.int false .i64
  (d.ps.n:Int),vi (c:Int),vi (c:Int),vi t,.ptr 304 0 0,.agg (KN c d),vj 4]) ([(Qu d),(Q0 c d),(0,.frz Qq
  d.ps.n fun i=>QA.enc (d.ps.get i)),(QDb c d q),(Qy P c),Qv])))))))))) (.need (decide ((0:Int)≤QN d.wide d.high (c:Int) (3:Int)∧QN d.wide d.high (c:Int)
  (3:Int)<(d.ps.n:Int))&&decide (d.ps.n≤d.ps.n)) (.need (decide ((QN d.wide d.high (c:Int) (3:Int)).toNat<d.ps.n)) (.need (true) (.need (!r||r) (.need (!r||r)
  (.bnd (r&&(Qw d.play (d.ps.get c).left (d.ps.get (QN d.wide d.high (c:Int) (3:Int)).toNat).right).2==0) (fun(x1:Bool) => .need (!x1||x1) (.need (!x1||x1) (.bnd
  (x1&&(Qw d.play (d.ps.get c).left (d.ps.get (QN d.wide d.high (c:Int) (3:Int)).toNat).right).1==2) (fun(x2:Bool) => .need (decide ((0:Int)≤(i64.wrap ((7 :
  Int)-t)).tmod (4:Int)∧(i64.wrap ((7:Int)-t)).tmod (4:Int)<4)) (.br (decide ((i64.wrap ((7:Int)-t)).tmod (4:Int)=0)) (.leaf (.tup [.nilp,.ptr
  203 0 0,.int false .u32 b.n,.ptr 8 0 0,.bool false x2,.ptr 200 0 0,.slz 0 0 d.ps.n cO,vi (d.ps.n:Int),vi (c:Int),vi (c :
  Int),vi t,.ptr 304 0 0,.agg (KN c d),vj 4]) ([(Qu d),(Q0 c d),(0,.frz Qq d.ps.n fun i=>QA.enc (d.ps.get i)),(QCk c d q),(Qy P c),
  Qv])) (.br (decide ((i64.wrap ((7:Int)-t)).tmod (4:Int)=1)) (.leaf (.tup [.nilp,.ptr 203 0 0,.int false .u32 b.n,.ptr 8 0 0,.bool false x2,.ptr 200 0 0,.slz
  0 0 d.ps.n cO,vi (d.ps.n:Int),vi (c:Int),vi (c:Int),vi t,.ptr 304 0 0,.agg (KN c d),vj 4])
  ([(Qu d),(Q0 c d),(0,.frz Qq d.ps.n fun i=>QA.enc (d.ps.get i)),(QEU c d q),(Qy P c),Qv])) (.br (decide ((i64.wrap ((7:Int)-t)).tmod (4:Int) =
  2)) (.leaf (.tup [.nilp,.ptr 203 0 0,.int false .u32 b.n,.ptr 8 0 0,.bool false x2,.ptr 200 0 0,.slz 0 0 d.ps.n cO,vi (d.ps.n:Int),vi (c
  : Int),vi (c:Int),vi t,.ptr 304 0 0,.agg (KN c d),vj 4]) ([(Qu d),(Q0 c d),(0,.frz Qq d.ps.n fun i=>QA.enc (d.ps.get i)),
  (QBo c d q),(Qy P c),Qv])) (.leaf (.tup [.nilp,.ptr 203 0 0,.int false .u32 b.n,.ptr 8 0 0,.bool false x2,.ptr 200 0 0,.slz 0 0 d.ps.n cO,.int false .i64
  (d.ps.n:Int),vi (c:Int),vi (c:Int),vi t,.ptr 304 0 0,.agg (KN c d),vj 4]) ([(Qu d),(Q0 c d),(0,.frz Qq
  d.ps.n fun i=>QA.enc (d.ps.get i)),(QDb c d q),(Qy P c),Qv])))))))))))))))):=by kernel_rfl
noncomputable abbrev Yj:List AV:=
  [vi q.up.kind,vi q.up.at_.lo,vi q.up.at_.hi,vi q.up.wide.lo,vi q.up.wide.hi,vi q.up.deep.lo,.int
  false .i64 q.up.deep.hi,vi q.right.kind,vi q.right.at_.lo,vi q.right.at_.hi,vi q.right.wide.lo,.int false .i64
  q.right.wide.hi,vi q.right.deep.lo,vi q.right.deep.hi,vi q.down.kind,vi q.down.at_.lo,vi q.down.at_.hi,.int
  false .i64 q.down.wide.lo,vi q.down.wide.hi,vi q.down.deep.lo,vi q.down.deep.hi,vi q.left.kind,.int false .i64
  q.left.at_.lo,vi q.left.at_.hi,vi q.left.wide.lo,vi q.left.wide.hi,vi q.left.deep.lo,vi q.left.deep.hi]
theorem QRq(c:Nat)(t:Int)(r:Bool)(q:QG)(g:Nat→Value):exec (mkX Try.prog KZ) (hnd (mkX Try.prog KZ) 3) (VZ (Qa Try.f8 0)) (JSt.inst (K9 d b P c t r q 4) g) (KL [] qp) = .leaf (.tup [.ptr 2 0 0,.ptr 203 0 0,.int
  false .u32 b.n,.ptr 8 0 0,.bool false r,.ptr 200 0 0,.slz 0 0 d.ps.n cO,vi (d.ps.n:Int),vi (c:Int),vi (c:Int),.int false
  .i64 t,.ptr 304 0 0]) ([(Qu d),(Q0 c d),(0,.frz Qq d.ps.n fun i=>QA.enc (d.ps.get i)),(304,.cells 7 33 (Yj q)),(Qy P c),Qv]):=by kernel_rfl
theorem QRP(c:Nat)(t:Int)(r:Bool)(q:QG)(e:Int)(L:List QB)(z:Bool)(k:Nat)(g:Nat→Value):exec (mkS Try.prog KZ) (hnd (mkS Try.prog KZ) 3) (G8 (Qa Try.f8 0)) (JSt.inst (qF d b P c t r q e L z k) g) (KL [] QGa) = .br (decide ((k:Int)<(L.length :
  Int))) (.need (decide ((0:Int)≤(k:Int)∧(k:Int)<(L.length:Int))&&decide (L.length≤L.length)) (.need (decide (k<L.length)) (.need (!!z || !z && !z) (.need (!!z ||
  !z && !z) (.need (z || !z) (.bnd (z||(L.getD k ⟨0,0⟩).cell==(c:Int)&&((L.getD k ⟨0,0⟩).turn==t&&true)) (fun(x0:Bool) => .leaf (.tup [.nilp,.ptr 203 0 0,.int false
  .u32 b.n,.ptr 8 0 0,.bool false r,.ptr 200 0 0,.slz 0 0 d.ps.n cO,vi (d.ps.n:Int),vi (c:Int),vi (c:Int),.int false .i64
  t,.ptr 304 0 0,vi e,.bool false x0,.slz 400 0 L.length cO,vi (L.length:Int),vi (i64.wrap ((k:Int)+1))]) ([(Qu
  d),(Q0 c d),(0,.frz Qq d.ps.n fun i=>QA.enc (d.ps.get i)),(304,.cells 7 33 (Yj q)),(400,.rowz true 56 [.int .i64,.int .i64] L.length fun i=>QA.enc (L.getD i
  ⟨0,0⟩)),(Qy P c),Qv])))))))) (.leaf (.tup [.ptr 4 0 0,.ptr 203 0 0,.int false .u32 b.n,.ptr 8 0 0,.bool false r,.ptr 200 0 0,.slz 0 0 d.ps.n cO,.int false .i64
  (d.ps.n:Int),vi (c:Int),.ptr 304 0 0,vi e,.bool false z]) ([(Qu d),(Q0 c d),(0,.frz Qq d.ps.n fun i=>QA.enc (d.ps.get i)),(304,
  .cells 7 33 (Yj q)),(Qy P c),Qv])):=by kernel_rfl
noncomputable abbrev QAI(d:Puz)(t:Int)(x0:Bool):List AV:=
  [.int false .u32 b.n,.ptr 8 0 0,.bool false x0,.ptr 200 0 0,.slz 0 0 d.ps.n cO,vi (d.ps.n:Int),vi (c:Int),vi (c:Int),
  .int false .i64 t,.ptr 304 0 0,.agg (KN c d),vj 1]
abbrev VK(d:Puz)(r':Bool)(t:Int)(x0:Bool):List Prop:=
  [x0=r',0=0,0=0,0=0,d.ps.n=d.ps.n,cO=cO,(d.ps.n:Int)=(d.ps.n:Int),(c:Int)=(c:Int),(c:Int)=(c:Int),t=t,0=0,0=0,(d.ps.get
  c).up.kind=(d.ps.get c).up.kind,(d.ps.get c).up.at_.lo=(d.ps.get c).up.at_.lo,(d.ps.get c).up.at_.hi=(d.ps.get c).up.at_.hi,(d.ps.get c).up.wide.lo=(d.ps.get
  c).up.wide.lo,(d.ps.get c).up.wide.hi=(d.ps.get c).up.wide.hi,(d.ps.get c).up.deep.lo=(d.ps.get c).up.deep.lo,(d.ps.get c).up.deep.hi=(d.ps.get c).up.deep.hi,(d.ps.get
  c).right.kind=(d.ps.get c).right.kind,(d.ps.get c).right.at_.lo=(d.ps.get c).right.at_.lo,(d.ps.get c).right.at_.hi=(d.ps.get c).right.at_.hi,(d.ps.get c).right.wide.lo =
  (d.ps.get c).right.wide.lo,(d.ps.get c).right.wide.hi=(d.ps.get c).right.wide.hi,(d.ps.get c).right.deep.lo=(d.ps.get c).right.deep.lo,(d.ps.get c).right.deep.hi=(d.ps.get
  c).right.deep.hi,(d.ps.get c).down.kind=(d.ps.get c).down.kind,(d.ps.get c).down.at_.lo=(d.ps.get c).down.at_.lo,(d.ps.get c).down.at_.hi=(d.ps.get c).down.at_.hi,
  (d.ps.get c).down.wide.lo=(d.ps.get c).down.wide.lo,(d.ps.get c).down.wide.hi=(d.ps.get c).down.wide.hi,(d.ps.get c).down.deep.lo=(d.ps.get c).down.deep.lo,(d.ps.get
  c).down.deep.hi=(d.ps.get c).down.deep.hi,(d.ps.get c).left.kind=(d.ps.get c).left.kind,(d.ps.get c).left.at_.lo=(d.ps.get c).left.at_.lo,(d.ps.get c).left.at_.hi =
  (d.ps.get c).left.at_.hi,(d.ps.get c).left.wide.lo=(d.ps.get c).left.wide.lo,(d.ps.get c).left.wide.hi=(d.ps.get c).left.wide.hi,(d.ps.get c).left.deep.lo=(d.ps.get
  c).left.deep.lo,(d.ps.get c).left.deep.hi=(d.ps.get c).left.deep.hi]
abbrev QAh:List Prop:=
  [q.right.at_.lo=q'.right.at_.lo,q.right.at_.hi=q'.right.at_.hi,q.right.wide.lo=q'.right.wide.lo,q.right.wide.hi=q'.right.wide.hi,q.right.deep.lo=q'.right.deep.lo,
  q.right.deep.hi=q'.right.deep.hi]
abbrev Zc:List Prop:=
  [q.down.kind=q'.down.kind,q.down.at_.lo=q'.down.at_.lo,q.down.at_.hi=q'.down.at_.hi,q.down.wide.lo=q'.down.wide.lo,q.down.wide.hi=q'.down.wide.hi,q.down.deep.lo =
  q'.down.deep.lo,q.down.deep.hi=q'.down.deep.hi,q.left.kind=q'.left.kind,q.left.at_.lo=q'.left.at_.lo,q.left.at_.hi=q'.left.at_.hi,q.left.wide.lo=q'.left.wide.lo,
  q.left.wide.hi=q'.left.wide.hi,q.left.deep.lo=q'.left.deep.lo,q.left.deep.hi=q'.left.deep.hi,d.play.length=d.play.length,d.play.slack=d.play.slack,d.play.loose =
  d.play.loose,d.play.damp.lo=d.play.damp.lo,d.play.damp.hi=d.play.damp.hi,d.wide=d.wide]
abbrev JU(c:Nat)(d:Puz):List Prop:=
  [d.high=d.high,d.turn=d.turn,0=0,d.ps.n=d.ps.n,cO=cO,d.play.length=d.play.length,d.play.slack=d.play.slack,d.play.loose=d.play.loose,
  d.play.damp.lo=d.play.damp.lo,d.play.damp.hi=d.play.damp.hi,d.wide=d.wide,d.high=d.high,d.turn=d.turn,0=0,d.ps.n=d.ps.n,cO=cO,0=0,c=c,
  cO=cO,0=0,0=0,cO=cO,(0:Int)=0,(0:Int)=0,c≤c,QD 28 c (fun i=>QA.enc (P i)) fun i=>QA.enc (P i),0≤0,QD 4 0 (fun i
  => QA.enc (Jn.mk (0:Int) (0:Int) (0:Int) (0:Int))) fun i=>QA.enc (Jn.mk (0:Int) (0:Int) (0:Int) (0:Int)),d.ps.n≤d.ps.n,QD 28 d.ps.n (fun i=>QA.enc
  (d.ps.get i)) fun i=>QA.enc (d.ps.get i)]
theorem QLG(c:Nat)(t:Int)(r r' x0:Bool)(q q':QG):QK 8 (QAI b c d t x0) ([(Qu d),(Q0 c d),(0,.frz Qq d.ps.n fun i=>QA.enc (d.ps.get i)),(QB4 c d q),(Qy P c),Qv]) (K9 d b P c t r' q' 1)=(some ([b.n =
  b.n,0=0,0=0]++(VK c d r' t x0)++[(1:Int)=1,(d.ps.get c).up.kind=q'.up.kind,(d.ps.get c).up.at_.lo=q'.up.at_.lo,(d.ps.get c).up.at_.hi=q'.up.at_.hi,
  (d.ps.get c).up.wide.lo=q'.up.wide.lo,(d.ps.get c).up.wide.hi=q'.up.wide.hi,(d.ps.get c).up.deep.lo=q'.up.deep.lo,(d.ps.get c).up.deep.hi=q'.up.deep.hi,q.right.kind =
  q'.right.kind]++(QAh q q')++(Zc d q q')++(JU P c d))):=by kernel_rfl
abbrev Gg:List Prop:=
  [q.up.at_.lo=q'.up.at_.lo,q.up.at_.hi=q'.up.at_.hi,q.up.wide.lo=q'.up.wide.lo,q.up.wide.hi=q'.up.wide.hi,q.up.deep.lo=q'.up.deep.lo,q.up.deep.hi=q'.up.deep.hi]
theorem QGG(c:Nat)(t:Int)(r r' x0:Bool)(q q':QG):QK 8 (QAI b c d t x0) ([(Qu d),(Q0 c d),(0,.frz Qq d.ps.n fun i=>QA.enc (d.ps.get i)),(QDi c d q),(Qy P c),Qv]) (K9 d b P c t r' q' 1)=(some ([b.n =
  b.n,0=0,0=0]++(VK c d r' t x0)++[(1:Int)=1,q.up.kind=q'.up.kind]++(Gg q q')++[(d.ps.get c).up.kind=q'.right.kind,(d.ps.get c).up.at_.lo =
  q'.right.at_.lo,(d.ps.get c).up.at_.hi=q'.right.at_.hi,(d.ps.get c).up.wide.lo=q'.right.wide.lo,(d.ps.get c).up.wide.hi=q'.right.wide.hi,(d.ps.get c).up.deep.lo =
  q'.right.deep.lo,(d.ps.get c).up.deep.hi=q'.right.deep.hi]++(Zc d q q')++(JU P c d))):=by kernel_rfl
abbrev ZS:List Prop:=
  [q.up.at_.lo=q'.up.at_.lo,q.up.at_.hi=q'.up.at_.hi,q.up.wide.lo=q'.up.wide.lo,q.up.wide.hi=q'.up.wide.hi,q.up.deep.lo=q'.up.deep.lo,q.up.deep.hi=q'.up.deep.hi,
  q.right.kind=q'.right.kind,q.right.at_.lo=q'.right.at_.lo,q.right.at_.hi=q'.right.at_.hi,q.right.wide.lo=q'.right.wide.lo,q.right.wide.hi=q'.right.wide.hi,
  q.right.deep.lo=q'.right.deep.lo,q.right.deep.hi=q'.right.deep.hi]
abbrev Hx:List Prop:=
  [q.left.at_.lo=q'.left.at_.lo,q.left.at_.hi=q'.left.at_.hi,q.left.wide.lo=q'.left.wide.lo,q.left.wide.hi=q'.left.wide.hi,q.left.deep.lo=q'.left.deep.lo,q.left.deep.hi
  = q'.left.deep.hi]
abbrev V0:List Prop:=
  [d.play.length=d.play.length,d.play.slack=d.play.slack,d.play.loose=d.play.loose,d.play.damp.lo=d.play.damp.lo,d.play.damp.hi=d.play.damp.hi,d.wide=d.wide]
theorem QHI(c:Nat)(t:Int)(r r' x0:Bool)(q q':QG):QK 8 (QAI b c d t x0) ([(Qu d),(Q0 c d),(0,.frz Qq d.ps.n fun i=>QA.enc (d.ps.get i)),(QCE c d q),(Qy P c),Qv]) (K9 d b P c t r' q' 1)=(some ([b.n =
  b.n,0=0,0=0]++(VK c d r' t x0)++[(1:Int)=1,q.up.kind=q'.up.kind]++(ZS q q')++[(d.ps.get c).up.kind=q'.down.kind,(d.ps.get c).up.at_.lo =
  q'.down.at_.lo,(d.ps.get c).up.at_.hi=q'.down.at_.hi,(d.ps.get c).up.wide.lo=q'.down.wide.lo,(d.ps.get c).up.wide.hi=q'.down.wide.hi,(d.ps.get c).up.deep.lo =
  q'.down.deep.lo,(d.ps.get c).up.deep.hi=q'.down.deep.hi,q.left.kind=q'.left.kind]++(Hx q q')++(V0 d)++(JU P c d))):=by kernel_rfl
abbrev QAx:List Prop:=
  [q.down.at_.lo=q'.down.at_.lo,q.down.at_.hi=q'.down.at_.hi,q.down.wide.lo=q'.down.wide.lo,q.down.wide.hi=q'.down.wide.hi,q.down.deep.lo=q'.down.deep.lo,q.down.deep.hi
  = q'.down.deep.hi]
theorem QHa(c:Nat)(t:Int)(r r' x0:Bool)(q q':QG):QK 8 (QAI b c d t x0) ([(Qu d),(Q0 c d),(0,.frz Qq d.ps.n fun i=>QA.enc (d.ps.get i)),(QCT c d q),(Qy P c),Qv]) (K9 d b P c t r' q' 1)=(some ([b.n =
  b.n,0=0,0=0]++(VK c d r' t x0)++[(1:Int)=1,q.up.kind=q'.up.kind]++(ZS q q')++[q.down.kind=q'.down.kind]++(QAx q q')++[(d.ps.get c).up.kind =
  q'.left.kind,(d.ps.get c).up.at_.lo=q'.left.at_.lo,(d.ps.get c).up.at_.hi=q'.left.at_.hi,(d.ps.get c).up.wide.lo=q'.left.wide.lo,(d.ps.get c).up.wide.hi=q'.left.wide.hi,
  (d.ps.get c).up.deep.lo=q'.left.deep.lo,(d.ps.get c).up.deep.hi=q'.left.deep.hi]++(V0 d)++(JU P c d))):=by kernel_rfl
noncomputable abbrev HO(d:Puz)(t:Int)(x0:Bool):List AV:=
  [.int false .u32 b.n,.ptr 8 0 0,.bool false x0,.ptr 200 0 0,.slz 0 0 d.ps.n cO,vi (d.ps.n:Int),vi (c:Int),vi (c:Int),
  .int false .i64 t,.ptr 304 0 0,.agg (KN c d),vj 2]
theorem QHJ(c:Nat)(t:Int)(r r' x0:Bool)(q q':QG):QK 8 (HO b c d t x0) ([(Qu d),(Q0 c d),(0,.frz Qq d.ps.n fun i=>QA.enc (d.ps.get i)),(QBn c d q),(Qy P c),Qv]) (K9 d b P c t r' q' 2)=(some ([b.n =
  b.n,0=0,0=0]++(VK c d r' t x0)++[(2:Int)=2,(d.ps.get c).right.kind=q'.up.kind,(d.ps.get c).right.at_.lo=q'.up.at_.lo,(d.ps.get c).right.at_.hi =
  q'.up.at_.hi,(d.ps.get c).right.wide.lo=q'.up.wide.lo,(d.ps.get c).right.wide.hi=q'.up.wide.hi,(d.ps.get c).right.deep.lo=q'.up.deep.lo,(d.ps.get c).right.deep.hi =
  q'.up.deep.hi,q.right.kind=q'.right.kind]++(QAh q q')++(Zc d q q')++(JU P c d))):=by kernel_rfl
theorem QHj(c:Nat)(t:Int)(r r' x0:Bool)(q q':QG):QK 8 (HO b c d t x0) ([(Qu d),(Q0 c d),(0,.frz Qq d.ps.n fun i=>QA.enc (d.ps.get i)),(QDK c d q),(Qy P c),Qv]) (K9 d b P c t r' q' 2)=(some ([b.n =
  b.n,0=0,0=0]++(VK c d r' t x0)++[(2:Int)=2,q.up.kind=q'.up.kind]++(Gg q q')++[(d.ps.get c).right.kind=q'.right.kind,(d.ps.get c).right.at_.lo =
  q'.right.at_.lo,(d.ps.get c).right.at_.hi=q'.right.at_.hi,(d.ps.get c).right.wide.lo=q'.right.wide.lo,(d.ps.get c).right.wide.hi=q'.right.wide.hi,(d.ps.get
  c).right.deep.lo=q'.right.deep.lo,(d.ps.get c).right.deep.hi=q'.right.deep.hi]++(Zc d q q')++(JU P c d))):=by kernel_rfl
theorem QGE(c:Nat)(t:Int)(r r' x0:Bool)(q q':QG):QK 8 (HO b c d t x0) ([(Qu d),(Q0 c d),(0,.frz Qq d.ps.n fun i=>QA.enc (d.ps.get i)),(QB2 c d q),(Qy P c),Qv]) (K9 d b P c t r' q' 2)=(some ([b.n =
  b.n,0=0,0=0]++(VK c d r' t x0)++[(2:Int)=2,q.up.kind=q'.up.kind]++(ZS q q')++[(d.ps.get c).right.kind=q'.down.kind,(d.ps.get c).right.at_.lo =
  q'.down.at_.lo,(d.ps.get c).right.at_.hi=q'.down.at_.hi,(d.ps.get c).right.wide.lo=q'.down.wide.lo,(d.ps.get c).right.wide.hi=q'.down.wide.hi,(d.ps.get c).right.deep.lo =
  q'.down.deep.lo,(d.ps.get c).right.deep.hi=q'.down.deep.hi,q.left.kind=q'.left.kind]++(Hx q q')++(V0 d)++(JU P c d))):=by kernel_rfl
theorem QEy(c:Nat)(t:Int)(r r' x0:Bool)(q q':QG):QK 8 (HO b c d t x0) ([(Qu d),(Q0 c d),(0,.frz Qq d.ps.n fun i=>QA.enc (d.ps.get i)),(QEH c d q),(Qy P c),Qv]) (K9 d b P c t r' q' 2)=(some ([b.n =
  b.n,0=0,0=0]++(VK c d r' t x0)++[(2:Int)=2,q.up.kind=q'.up.kind]++(ZS q q')++[q.down.kind=q'.down.kind]++(QAx q q')++[(d.ps.get c).right.kind =
  q'.left.kind,(d.ps.get c).right.at_.lo=q'.left.at_.lo,(d.ps.get c).right.at_.hi=q'.left.at_.hi,(d.ps.get c).right.wide.lo=q'.left.wide.lo,(d.ps.get c).right.wide.hi =
  q'.left.wide.hi,(d.ps.get c).right.deep.lo=q'.left.deep.lo,(d.ps.get c).right.deep.hi=q'.left.deep.hi]++(V0 d)++(JU P c d))):=by kernel_rfl
noncomputable abbrev QAz(d:Puz)(t:Int)(x0:Bool):List AV:=
  [.int false .u32 b.n,.ptr 8 0 0,.bool false x0,.ptr 200 0 0,.slz 0 0 d.ps.n cO,vi (d.ps.n:Int),vi (c:Int),vi (c:Int),
  .int false .i64 t,.ptr 304 0 0,.agg (KN c d),vj 3]
theorem QJ1(c:Nat)(t:Int)(r r' x0:Bool)(q q':QG):QK 8 (QAz b c d t x0) ([(Qu d),(Q0 c d),(0,.frz Qq d.ps.n fun i=>QA.enc (d.ps.get i)),(QD8 c d q),(Qy P c),Qv]) (K9 d b P c t r' q' 3)=(some ([b.n =
  b.n,0=0,0=0]++(VK c d r' t x0)++[(3:Int)=3,(d.ps.get c).down.kind=q'.up.kind,(d.ps.get c).down.at_.lo=q'.up.at_.lo,(d.ps.get c).down.at_.hi=q'.up.at_.hi,
  (d.ps.get c).down.wide.lo=q'.up.wide.lo,(d.ps.get c).down.wide.hi=q'.up.wide.hi,(d.ps.get c).down.deep.lo=q'.up.deep.lo,(d.ps.get c).down.deep.hi=q'.up.deep.hi,
  q.right.kind=q'.right.kind]++(QAh q q')++(Zc d q q')++(JU P c d))):=by kernel_rfl
theorem QGI(c:Nat)(t:Int)(r r' x0:Bool)(q q':QG):QK 8 (QAz b c d t x0) ([(Qu d),(Q0 c d),(0,.frz Qq d.ps.n fun i=>QA.enc (d.ps.get i)),(QA6 c d q),(Qy P c),Qv]) (K9 d b P c t r' q' 3)=(some ([b.n =
  b.n,0=0,0=0]++(VK c d r' t x0)++[(3:Int)=3,q.up.kind=q'.up.kind]++(Gg q q')++[(d.ps.get c).down.kind=q'.right.kind,(d.ps.get c).down.at_.lo =
  q'.right.at_.lo,(d.ps.get c).down.at_.hi=q'.right.at_.hi,(d.ps.get c).down.wide.lo=q'.right.wide.lo,(d.ps.get c).down.wide.hi=q'.right.wide.hi,(d.ps.get c).down.deep.lo =
  q'.right.deep.lo,(d.ps.get c).down.deep.hi=q'.right.deep.hi]++(Zc d q q')++(JU P c d))):=by kernel_rfl
theorem QGQ(c:Nat)(t:Int)(r r' x0:Bool)(q q':QG):QK 8 (QAz b c d t x0) ([(Qu d),(Q0 c d),(0,.frz Qq d.ps.n fun i=>QA.enc (d.ps.get i)),(QDZ c d q),(Qy P c),Qv]) (K9 d b P c t r' q' 3)=(some ([b.n =
  b.n,0=0,0=0]++(VK c d r' t x0)++[(3:Int)=3,q.up.kind=q'.up.kind]++(ZS q q')++[(d.ps.get c).down.kind=q'.down.kind,(d.ps.get c).down.at_.lo =
  q'.down.at_.lo,(d.ps.get c).down.at_.hi=q'.down.at_.hi,(d.ps.get c).down.wide.lo=q'.down.wide.lo,(d.ps.get c).down.wide.hi=q'.down.wide.hi,(d.ps.get c).down.deep.lo =
  q'.down.deep.lo,(d.ps.get c).down.deep.hi=q'.down.deep.hi,q.left.kind=q'.left.kind]++(Hx q q')++(V0 d)++(JU P c d))):=by kernel_rfl
theorem QGx(c:Nat)(t:Int)(r r' x0:Bool)(q q':QG):QK 8 (QAz b c d t x0) ([(Qu d),(Q0 c d),(0,.frz Qq d.ps.n fun i=>QA.enc (d.ps.get i)),(QDl c d q),(Qy P c),Qv]) (K9 d b P c t r' q' 3)=(some ([b.n =
  b.n,0=0,0=0]++(VK c d r' t x0)++[(3:Int)=3,q.up.kind=q'.up.kind]++(ZS q q')++[q.down.kind=q'.down.kind]++(QAx q q')++[(d.ps.get c).down.kind =
  q'.left.kind,(d.ps.get c).down.at_.lo=q'.left.at_.lo,(d.ps.get c).down.at_.hi=q'.left.at_.hi,(d.ps.get c).down.wide.lo=q'.left.wide.lo,(d.ps.get c).down.wide.hi =
  q'.left.wide.hi,(d.ps.get c).down.deep.lo=q'.left.deep.lo,(d.ps.get c).down.deep.hi=q'.left.deep.hi]++(V0 d)++(JU P c d))):=by kernel_rfl
noncomputable abbrev QAE(d:Puz)(t:Int)(x0:Bool):List AV:=
  [.int false .u32 b.n,.ptr 8 0 0,.bool false x0,.ptr 200 0 0,.slz 0 0 d.ps.n cO,vi (d.ps.n:Int),vi (c:Int),vi (c:Int),
  .int false .i64 t,.ptr 304 0 0,.agg (KN c d),vj 4]
theorem QJv(c:Nat)(t:Int)(r r' x0:Bool)(q q':QG):QK 8 (QAE b c d t x0) ([(Qu d),(Q0 c d),(0,.frz Qq d.ps.n fun i=>QA.enc (d.ps.get i)),(QCk c d q),(Qy P c),Qv]) (K9 d b P c t r' q' 4)=(some ([b.n =
  b.n,0=0,0=0]++(VK c d r' t x0)++[(4:Int)=4,(d.ps.get c).left.kind=q'.up.kind,(d.ps.get c).left.at_.lo=q'.up.at_.lo,(d.ps.get c).left.at_.hi=q'.up.at_.hi,
  (d.ps.get c).left.wide.lo=q'.up.wide.lo,(d.ps.get c).left.wide.hi=q'.up.wide.hi,(d.ps.get c).left.deep.lo=q'.up.deep.lo,(d.ps.get c).left.deep.hi=q'.up.deep.hi,
  q.right.kind=q'.right.kind]++(QAh q q')++(Zc d q q')++(JU P c d))):=by kernel_rfl
theorem QGV(c:Nat)(t:Int)(r r' x0:Bool)(q q':QG):QK 8 (QAE b c d t x0) ([(Qu d),(Q0 c d),(0,.frz Qq d.ps.n fun i=>QA.enc (d.ps.get i)),(QEU c d q),(Qy P c),Qv]) (K9 d b P c t r' q' 4)=(some ([b.n =
  b.n,0=0,0=0]++(VK c d r' t x0)++[(4:Int)=4,q.up.kind=q'.up.kind]++(Gg q q')++[(d.ps.get c).left.kind=q'.right.kind,(d.ps.get c).left.at_.lo =
  q'.right.at_.lo,(d.ps.get c).left.at_.hi=q'.right.at_.hi,(d.ps.get c).left.wide.lo=q'.right.wide.lo,(d.ps.get c).left.wide.hi=q'.right.wide.hi,(d.ps.get c).left.deep.lo =
  q'.right.deep.lo,(d.ps.get c).left.deep.hi=q'.right.deep.hi]++(Zc d q q')++(JU P c d))):=by kernel_rfl
theorem QLs(c:Nat)(t:Int)(r r' x0:Bool)(q q':QG):QK 8 (QAE b c d t x0) ([(Qu d),(Q0 c d),(0,.frz Qq d.ps.n fun i=>QA.enc (d.ps.get i)),(QBo c d q),(Qy P c),Qv]) (K9 d b P c t r' q' 4)=(some ([b.n =
  b.n,0=0,0=0]++(VK c d r' t x0)++[(4:Int)=4,q.up.kind=q'.up.kind]++(ZS q q')++[(d.ps.get c).left.kind=q'.down.kind,(d.ps.get c).left.at_.lo =
  q'.down.at_.lo,(d.ps.get c).left.at_.hi=q'.down.at_.hi,(d.ps.get c).left.wide.lo=q'.down.wide.lo,(d.ps.get c).left.wide.hi=q'.down.wide.hi,(d.ps.get c).left.deep.lo =
  q'.down.deep.lo,(d.ps.get c).left.deep.hi=q'.down.deep.hi,q.left.kind=q'.left.kind]++(Hx q q')++(V0 d)++(JU P c d))):=by kernel_rfl
theorem QIW(c:Nat)(t:Int)(r r' x0:Bool)(q q':QG):QK 8 (QAE b c d t x0) ([(Qu d),(Q0 c d),(0,.frz Qq d.ps.n fun i=>QA.enc (d.ps.get i)),(QDb c d q),(Qy P c),Qv]) (K9 d b P c t r' q' 4)=(some ([b.n =
  b.n,0=0,0=0]++(VK c d r' t x0)++[(4:Int)=4,q.up.kind=q'.up.kind]++(ZS q q')++[q.down.kind=q'.down.kind]++(QAx q q')++[(d.ps.get c).left.kind =
  q'.left.kind,(d.ps.get c).left.at_.lo=q'.left.at_.lo,(d.ps.get c).left.at_.hi=q'.left.at_.hi,(d.ps.get c).left.wide.lo=q'.left.wide.lo,(d.ps.get c).left.wide.hi =
  q'.left.wide.hi,(d.ps.get c).left.deep.lo=q'.left.deep.lo,(d.ps.get c).left.deep.hi=q'.left.deep.hi]++(V0 d)++(JU P c d))):=by kernel_rfl
abbrev zv:List Prop:=
  [0=0,0=0,0=0,d.ps.n=d.ps.n,cO=cO,(d.ps.n:Int)=(d.ps.n:Int)]
abbrev QEC:List Prop:=
  [q.up.kind=q.up.kind,q.up.at_.lo=q.up.at_.lo,q.up.at_.hi=q.up.at_.hi,q.up.wide.lo=q.up.wide.lo]
abbrev QCa:List Prop:=
  [q.up.wide.hi=q.up.wide.hi,q.up.deep.lo=q.up.deep.lo,q.up.deep.hi=q.up.deep.hi,q.right.kind=q.right.kind,q.right.at_.lo=q.right.at_.lo,q.right.at_.hi =
  q.right.at_.hi,q.right.wide.lo=q.right.wide.lo,q.right.wide.hi=q.right.wide.hi,q.right.deep.lo=q.right.deep.lo,q.right.deep.hi=q.right.deep.hi,q.down.kind =
  q.down.kind,q.down.at_.lo=q.down.at_.lo,q.down.at_.hi=q.down.at_.hi,q.down.wide.lo=q.down.wide.lo,q.down.wide.hi=q.down.wide.hi,q.down.deep.lo=q.down.deep.lo,
  q.down.deep.hi=q.down.deep.hi,q.left.kind=q.left.kind,q.left.at_.lo=q.left.at_.lo,q.left.at_.hi=q.left.at_.hi,q.left.wide.lo=q.left.wide.lo,q.left.wide.hi =
  q.left.wide.hi,q.left.deep.lo=q.left.deep.lo,q.left.deep.hi=q.left.deep.hi]
theorem QO3(c:Nat)(t:Int)(r:Bool)(q:QG):QK 8 [.int false .u32 b.n,.ptr 8 0 0,.bool false r,.ptr 200 0 0,.slz 0 0 d.ps.n cO,vi (d.ps.n:Int),vi (c:Int),vi (c :
  Int),vi t,.ptr 304 0 0] ([(Qu d),(Q0 c d),(0,.frz Qq d.ps.n fun i=>QA.enc (d.ps.get i)),(304,.cells 7 33 (Yj q)),(Qy P c),Qv]) (jj d b P c t
  r q)=(some ([b.n=b.n,0=0,0=0,r=r]++(zv d)++[(c:Int)=(c:Int),(c:Int)=(c:Int),t=t,0=0,0=0]++(QEC q)++(QCa q)++(V0 d)++(JU
  P c d))):=by kernel_rfl
theorem QRp(c:Nat)(t:Int)(r:Bool)(q:QG)(e:Int)(L:List QB)(z z' x0:Bool)(k k':Nat):QK 8 [.int false .u32 b.n,.ptr 8 0 0,.bool false r,.ptr 200 0 0,.slz 0 0 d.ps.n cO,vi (d.ps.n:Int),vi (c:Int),vi (c :
  Int),vi t,.ptr 304 0 0,vi e,.bool false x0,.slz 400 0 L.length cO,vi (L.length:Int),vi (i64.wrap ((k :
  Int)+1))] ([(Qu d),(Q0 c d),(0,.frz Qq d.ps.n fun i=>QA.enc (d.ps.get i)),(304,.cells 7 33 (Yj q)),(400,.rowz true 56 [.int .i64,.int .i64] L.length fun i=>
  QA.enc (L.getD i ⟨0,0⟩)),(Qy P c),Qv]) (qF d b P c t r q e L z' k')=(some ([b.n=b.n,0=0,0=0,r=r]++(zv d)++[(c:Int)=(c:Int),(c:Int)=(c :
  Int),t=t,0=0,0=0,e=e,x0=z',0=0,L.length=L.length,cO=cO,(L.length:Int)=(L.length:Int),i64.wrap ((k:Int)+1)=(k':Int)] ++
  (QEC q)++(QCa q)++[L.length≤L.length,QD 2 L.length (fun i=>QA.enc (L.getD i ⟨0,0⟩)) fun i=>QA.enc (L.getD i ⟨0,0⟩)]++(V0 d)++(JU P c d))):=by kernel_rfl
theorem QQ5(c:Nat)(r:Bool)(q:QG)(e:Int)(z:Bool):QK 8 [.int false .u32 b.n,.ptr 8 0 0,.bool false r,.ptr 200 0 0,.slz 0 0 d.ps.n cO,vi (d.ps.n:Int),vi (c:Int),.ptr 304 0 0,.int false
  .i64 e,.bool false z] ([(Qu d),(Q0 c d),(0,.frz Qq d.ps.n fun i=>QA.enc (d.ps.get i)),(304,.cells 7 33 (Yj q)),(Qy P c),Qv]) (zN d b P c r q e z)=(some
  ([b.n=b.n,0=0,0=0,r=r]++(zv d)++[(c:Int)=(c:Int),0=0,0=0,e=e,z=z]++(QEC q)++(QCa q)++(V0 d)++(JU P c d))):=by kernel_rfl
def zi(L:List Int)(k:Nat):JSt:=⟨203,[(189,.slz 600 0 L.length (.of 0)),(190,.int false .i64 L.length),(191,.int false .i64 k)],[rwI 600 L],700⟩
def Hd:JSt:=⟨203,[],[],700⟩
def QFa:Ex→List Nat
 | .normal=>[189,190,191]
 | .exit _=>[]
 | .ret=>[4]
theorem QRy(L:List Int)(k:Nat)(g:Nat→Value):exec (mkE Try.prog KZ) (hnd (mkE Try.prog KZ) 3) (Qa Try.f8 1) (JSt.inst (zi L k) g) (KL [] QFa) =
  QC.br (decide ((↑k:Int)<(↑L.length:Int))) (QC.need (decide ((0:Int)≤(↑k:Int)∧(↑k:Int)<(↑L.length:Int))&&decide (L.length≤L.length)) (QC.need (decide (k
  < L.length)) (QC.need (decide ((0:Int)≤(↑k:Int))) (QC.br (i64.wrap (↑(BitVec.ofInt (64:Nat) ((L.getD k (0:Int)).fdiv ((2:Int)^min k (64:Nat))) &&&
  BitVec.ofInt (64:Nat) (1:Int)).toNat:Int)==(0:Int)) (QC.leaf (AV.tup [AV.nili,AV.ptr (203:Nat) (0:Nat) (0:Nat),AV.bool true false]) ([])) (QC.leaf (AV.tup
  [AV.nilp,AV.ptr (203:Nat) (0:Nat) (0:Nat),AV.slz (600:Nat) (0:Nat) L.length (Cap.of (0:Nat)),AV.int false i64 (↑L.length:Int),AV.int false i64
  (i64.wrap ((↑k:Int)+(1:Int)))]) ([((600:Nat),Blk.rowz true (3:Nat) [CK.int i64] L.length fun i=>QA.enc (L.getD i (0:Int)))])))))) (QC.leaf (AV.tup
  [AV.ptr (6:Nat) (0:Nat) (0:Nat),AV.ptr (203:Nat) (0:Nat) (0:Nat)]) ([])):=by kernel_rfl
abbrev QFS(P0:Program)(d:Puz)(b:Qj)(P:Nat→QG)(c:Nat)(r:Bool)(t:Int)(r':Bool)(q0 q:QG)(e:Int)(L:List QB)(z:Bool):Hnd:={ hnd (mkS P0 KZ) 3 with loop:=z7 [(11,Xh (c<d.ps.n∧d.ok=true) (KF 8 [] (K9 d b P c t r q0 0) [(True,.exit 2,jj d b P c t r' q)])),(23,Xh (L.length≤1000) (KF 8 [] (qF d b P c t r' q e L false 0) [(True,.exit 4,zN d b P c r' q e z)]))] }
noncomputable abbrev QMN(d:Puz):Nat×Blk:=
  (200,.cells 0 50 [vi d.play.length,vi d.play.slack,vi d.play.loose,vi d.play.damp.lo,vi d.play.damp.hi,.int
  false .i64 d.wide,vi d.high,.bool false d.turn,.slz 0 0 d.ps.n cO,.slz 580 0 (c+1) cO,.slz 216 0 0 cO,vj 0,.int true .i64
  0])
theorem QVT(c:Nat)(r:Bool)(t:Int)(r':Bool)(q0 q:QG)(e:Int)(L:List QB)(z:Bool)(g:Nat→Value):exec (mkS Try.prog KZ) (QFS Try.prog d b P c r t r' q0 q e L z) (Qa Try.f8 0) (JSt.inst (zE d b P r c) g) (KL [] QGW) = .br (decide ((c:Int)<(d.ps.n:Int)))
  (.need (decide ((0:Int)≤(c:Int)∧(c:Int)<(d.ps.n:Int))&&decide (d.ps.n≤d.ps.n)) (.need (decide (c<d.ps.n)) (.need (decide ((0:Int)≤i64.wrap ((2:Int)
  * (c:Int)))) (.ask (c<d.ps.n∧d.ok=true) (.ask (b.n=b.n) (.ask (0=0) (.ask (0=0) (.ask (r=r) (.ask (0=0) (.ask (0=0) (.ask (0=0) (.ask (d.ps.n=d.ps.n) (.ask
  (cO=cO) (.ask ((d.ps.n:Int)=(d.ps.n:Int)) (.ask ((c:Int)=(c:Int)) (.ask ((c:Int)=(c:Int)) (.ask (i64.wrap (IntKind.u32.wrap (↑(BitVec.ofInt
  32 (b.n.fdiv ((2:Int)^min (i64.wrap ((2:Int)*(c:Int))).toNat 32)) &&& BitVec.ofInt 32 (3:Int)).toNat:Int))=t) (.ask (0=0) (.ask (0=0) (.ask ((d.ps.get
  c).up.kind=(d.ps.get c).up.kind) (.ask ((d.ps.get c).up.at_.lo=(d.ps.get c).up.at_.lo) (.ask ((d.ps.get c).up.at_.hi=(d.ps.get c).up.at_.hi) (.ask ((d.ps.get c).up.wide.lo =
  (d.ps.get c).up.wide.lo) (.ask ((d.ps.get c).up.wide.hi=(d.ps.get c).up.wide.hi) (.ask ((d.ps.get c).up.deep.lo=(d.ps.get c).up.deep.lo) (.ask ((d.ps.get c).up.deep.hi =
  (d.ps.get c).up.deep.hi) (.ask ((d.ps.get c).right.kind=(d.ps.get c).right.kind) (.ask ((d.ps.get c).right.at_.lo=(d.ps.get c).right.at_.lo) (.ask ((d.ps.get c).right.at_.hi =
  (d.ps.get c).right.at_.hi) (.ask ((d.ps.get c).right.wide.lo=(d.ps.get c).right.wide.lo) (.ask ((d.ps.get c).right.wide.hi=(d.ps.get c).right.wide.hi) (.ask ((d.ps.get
  c).right.deep.lo=(d.ps.get c).right.deep.lo) (.ask ((d.ps.get c).right.deep.hi=(d.ps.get c).right.deep.hi) (.ask ((d.ps.get c).down.kind=(d.ps.get c).down.kind) (.ask
  ((d.ps.get c).down.at_.lo=(d.ps.get c).down.at_.lo) (.ask ((d.ps.get c).down.at_.hi=(d.ps.get c).down.at_.hi) (.ask ((d.ps.get c).down.wide.lo=(d.ps.get c).down.wide.lo) (.ask
  ((d.ps.get c).down.wide.hi=(d.ps.get c).down.wide.hi) (.ask ((d.ps.get c).down.deep.lo=(d.ps.get c).down.deep.lo) (.ask ((d.ps.get c).down.deep.hi=(d.ps.get c).down.deep.hi)
  (.ask ((d.ps.get c).left.kind=(d.ps.get c).left.kind) (.ask ((d.ps.get c).left.at_.lo=(d.ps.get c).left.at_.lo) (.ask ((d.ps.get c).left.at_.hi=(d.ps.get c).left.at_.hi) (.ask
  ((d.ps.get c).left.wide.lo=(d.ps.get c).left.wide.lo) (.ask ((d.ps.get c).left.wide.hi=(d.ps.get c).left.wide.hi) (.ask ((d.ps.get c).left.deep.lo=(d.ps.get c).left.deep.lo)
  (.ask ((d.ps.get c).left.deep.hi=(d.ps.get c).left.deep.hi) (.ask ((0:Int)=0) (.ask ((0:Int)=q0.up.kind) (.ask ((0:Int)=q0.up.at_.lo) (.ask ((0:Int)=q0.up.at_.hi)
  (.ask ((0:Int)=q0.up.wide.lo) (.ask ((0:Int)=q0.up.wide.hi) (.ask ((0:Int)=q0.up.deep.lo) (.ask ((0:Int)=q0.up.deep.hi) (.ask ((0:Int)=q0.right.kind) (.ask ((0 :
  Int)=q0.right.at_.lo) (.ask ((0:Int)=q0.right.at_.hi) (.ask ((0:Int)=q0.right.wide.lo) (.ask ((0:Int)=q0.right.wide.hi) (.ask ((0:Int)=q0.right.deep.lo) (.ask ((0
  : Int)=q0.right.deep.hi) (.ask ((0:Int)=q0.down.kind) (.ask ((0:Int)=q0.down.at_.lo) (.ask ((0:Int)=q0.down.at_.hi) (.ask ((0:Int)=q0.down.wide.lo) (.ask ((0 :
  Int)=q0.down.wide.hi) (.ask ((0:Int)=q0.down.deep.lo) (.ask ((0:Int)=q0.down.deep.hi) (.ask ((0:Int)=q0.left.kind) (.ask ((0:Int)=q0.left.at_.lo) (.ask ((0:Int)
  = q0.left.at_.hi) (.ask ((0:Int)=q0.left.wide.lo) (.ask ((0:Int)=q0.left.wide.hi) (.ask ((0:Int)=q0.left.deep.lo) (.ask ((0:Int)=q0.left.deep.hi) (.ask
  (d.play.length=d.play.length) (.ask (d.play.slack=d.play.slack) (.ask (d.play.loose=d.play.loose) (.ask (d.play.damp.lo=d.play.damp.lo) (.ask (d.play.damp.hi =
  d.play.damp.hi) (.ask (d.wide=d.wide) (.ask (d.high=d.high) (.ask (d.turn=d.turn) (.ask (0=0) (.ask (d.ps.n=d.ps.n) (.ask (cO=cO) (.ask (d.play.length =
  d.play.length) (.ask (d.play.slack=d.play.slack) (.ask (d.play.loose=d.play.loose) (.ask (d.play.damp.lo=d.play.damp.lo) (.ask (d.play.damp.hi=d.play.damp.hi) (.ask (d.wide
  = d.wide) (.ask (d.high=d.high) (.ask (d.turn=d.turn) (.ask (0=0) (.ask (d.ps.n=d.ps.n) (.ask (cO=cO) (.ask (0=0) (.ask (c=c) (.ask (cO=cO)
  (.ask (0=0) (.ask (0=0) (.ask (cO=cO) (.ask ((0:Int)=0) (.ask ((0:Int)=0) (.ask (c≤c) (.ask (QD 28 c (fun i=>QA.enc (P i)) fun i=>QA.enc (P
  i)) (.ask (0≤0) (.ask (QD 4 0 (fun i=>QA.enc (Jn.mk (0:Int) (0:Int) (0:Int) (0:Int))) fun i=>QA.enc (Jn.mk (0:Int) (0:Int) (0:Int) (0:Int))) (.ask
  (d.ps.n≤d.ps.n) (.ask (QD 28 d.ps.n (fun i=>QA.enc (d.ps.get i)) fun i=>QA.enc (d.ps.get i)) (.asm (True) (.all (fun(g0:Nat→Value) => .need (decide (d.ps.n ≤
  d.ps.n)&&(true&&true)&&decide (d.ps.n≤900)) (.ask (L.length≤1000) (.ask (b.n=b.n) (.ask (0=0) (.ask (0=0) (.ask (r'=r') (.ask (0=0) (.ask (0=0) (.ask (0=0)
  (.ask (d.ps.n=d.ps.n) (.ask (cO=cO) (.ask ((d.ps.n:Int)=(d.ps.n:Int)) (.ask ((c:Int)=(c:Int)) (.ask ((c:Int)=(c:Int)) (.ask (t=t) (.ask (0=0)
  (.ask (0=0) (.ask (Xb d q=e) (.ask (false=false) (.ask (0=0) (.ask ((JD d q).length=L.length) (.ask (cO=cO) (.ask ((↑(JD d q).length:Int)=(L.length
  : Int)) (.ask ((0:Int)=0) (.ask (q.up.kind=q.up.kind) (.ask (q.up.at_.lo=q.up.at_.lo) (.ask (q.up.at_.hi=q.up.at_.hi) (.ask (q.up.wide.lo=q.up.wide.lo) (.ask
  (q.up.wide.hi=q.up.wide.hi) (.ask (q.up.deep.lo=q.up.deep.lo) (.ask (q.up.deep.hi=q.up.deep.hi) (.ask (q.right.kind=q.right.kind) (.ask (q.right.at_.lo=q.right.at_.lo)
  (.ask (q.right.at_.hi=q.right.at_.hi) (.ask (q.right.wide.lo=q.right.wide.lo) (.ask (q.right.wide.hi=q.right.wide.hi) (.ask (q.right.deep.lo=q.right.deep.lo) (.ask
  (q.right.deep.hi=q.right.deep.hi) (.ask (q.down.kind=q.down.kind) (.ask (q.down.at_.lo=q.down.at_.lo) (.ask (q.down.at_.hi=q.down.at_.hi) (.ask (q.down.wide.lo =
  q.down.wide.lo) (.ask (q.down.wide.hi=q.down.wide.hi) (.ask (q.down.deep.lo=q.down.deep.lo) (.ask (q.down.deep.hi=q.down.deep.hi) (.ask (q.left.kind=q.left.kind) (.ask
  (q.left.at_.lo=q.left.at_.lo) (.ask (q.left.at_.hi=q.left.at_.hi) (.ask (q.left.wide.lo=q.left.wide.lo) (.ask (q.left.wide.hi=q.left.wide.hi) (.ask (q.left.deep.lo =
  q.left.deep.lo) (.ask (q.left.deep.hi=q.left.deep.hi) (.ask (L.length≤(JD d q).length) (.ask (QD 2 L.length (fun i=>QA.enc ((JD d q).getD i ⟨0,0⟩)) fun i=>
  QA.enc (L.getD i ⟨0,0⟩)) (.ask (d.play.length=d.play.length) (.ask (d.play.slack=d.play.slack) (.ask (d.play.loose=d.play.loose) (.ask (d.play.damp.lo=d.play.damp.lo)
  (.ask (d.play.damp.hi=d.play.damp.hi) (.ask (d.wide=d.wide) (.ask (d.high=d.high) (.ask (d.turn=d.turn) (.ask (0=0) (.ask (d.ps.n=d.ps.n) (.ask (cO=cO)
  (.ask (d.play.length=d.play.length) (.ask (d.play.slack=d.play.slack) (.ask (d.play.loose=d.play.loose) (.ask (d.play.damp.lo=d.play.damp.lo) (.ask (d.play.damp.hi =
  d.play.damp.hi) (.ask (d.wide=d.wide) (.ask (d.high=d.high) (.ask (d.turn=d.turn) (.ask (0=0) (.ask (d.ps.n=d.ps.n) (.ask (cO=cO) (.ask (0=0) (.ask (c=c)
  (.ask (cO=cO) (.ask (0=0) (.ask (0=0) (.ask (cO=cO) (.ask ((0:Int)=0) (.ask ((0:Int)=0) (.ask (c≤c) (.ask (QD 28 c (fun i=>QA.enc
  (P i)) fun i=>QA.enc (P i)) (.ask (0≤0) (.ask (QD 4 0 (fun i=>QA.enc (Jn.mk (0:Int) (0:Int) (0:Int) (0:Int))) fun i=>QA.enc (Jn.mk (0:Int) (0:Int) (0 :
  Int) (0:Int))) (.ask (d.ps.n≤d.ps.n) (.ask (QD 28 d.ps.n (fun i=>QA.enc (d.ps.get i)) fun i=>QA.enc (d.ps.get i)) (.asm (True) (.all (fun(g1:Nat→Value) => .need
  (!!e != 0 || !e != 0) (.need (e != 0 || !e != 0) (.bnd (e != 0 || !z) (fun(x2:Bool) => .br (x2) (.leaf (.tup [.nili,.ptr 203 0 0,.bool true false]) ([])) (.need (decide (c≤c)
  && (true&&decide ((c+1+(c+1) / 4+192)*224≤281474976710656∧c+1≤9223372036854775807))) (.leaf (.tup [.nilp,.ptr 203 0 0,.int false .u32 b.n,.ptr 8 0 0,.bool
  false r',.ptr 200 0 0,.slz 0 0 d.ps.n cO,vi (d.ps.n:Int),vi (i64.wrap ((c:Int)+1))]) ([(Qu d),(QMN c d),(0,.frz Qq
  d.ps.n fun i=>QA.enc (d.ps.get i)),(580,.rowz true 33 Qq (c+1) (QX c (fun i=>QA.enc (P i)) (QR [(Yj q)] 0))),
  Qv])))))))))))))))))))))))))))))))))))))))))))))))))))))))))))))))))))))))))))))))))))))))))))))))))))))))))))))))))))))))))))))))))))))))))))))))))))))))))))))))))))))))))))))))))))))))))))))))))))))))))))))))))))))
  (.leaf (.tup [.ptr 0 0 0,.ptr 203 0 0,.ptr 8 0 0,.bool false r,.ptr 200 0 0]) ([(Qu d),(Q0 c d),(0,.frz Qq d.ps.n fun i=>QA.enc (d.ps.get i)),(Qy P c),Qv])):=by kernel_rfl
theorem QPy(c:Nat)(r':Bool)(q:QG)(c':Nat):QK 8 [.int false .u32 b.n,.ptr 8 0 0,.bool false r',.ptr 200 0 0,.slz 0 0 d.ps.n cO,vi (d.ps.n:Int),vi (i64.wrap ((c:Int) +
  1))] ([(Qu d),(QMN c d),(0,.frz Qq d.ps.n fun i=>QA.enc (d.ps.get i)),(580,.rowz true 33 Qq (c+1) (QX c (fun i=>QA.enc (P i)) (QR [(Yj q)] 0))),Qv])
  (zE d b P r' c')=(some ([b.n=b.n,0=0,0=0,r'=r']++(zv d)++[i64.wrap ((c:Int)+1)=(c':Int)]++(V0 d)++[d.high=d.high,d.turn=d.turn,0
  = 0,d.ps.n=d.ps.n,cO=cO]++(V0 d)++[d.high=d.high,d.turn=d.turn,0=0,d.ps.n=d.ps.n,cO=cO,0=0,c+1=c',cO=cO,0
  = 0,0=0,cO=cO,(0:Int)=0,(0:Int)=0,c'≤c+1,QD 28 c' (QX c (fun i=>QA.enc (P i)) (QR [(Yj q)] 0)) fun i=>QA.enc (P i),0≤0,
  QD 4 0 (fun i=>QA.enc (Jn.mk (0:Int) (0:Int) (0:Int) (0:Int))) fun i=>QA.enc (Jn.mk (0:Int) (0:Int) (0:Int) (0:Int)),d.ps.n≤d.ps.n,QD 28 d.ps.n
  (fun i=>QA.enc (d.ps.get i)) fun i=>QA.enc (d.ps.get i)])):=by kernel_rfl
theorem QV2(c:Nat)(r:Bool):QK 8 [.ptr 8 0 0,.bool false r,.ptr 200 0 0] ([(Qu d),(Q0 c d),(0,.frz Qq d.ps.n fun i=>QA.enc (d.ps.get i)),(Qy P c),Qv]) (Gr d P r c)=(some ([0=0,0
  = 0,r=r,0=0,0=0]++(V0 d)++(JU P c d))):=by kernel_rfl
theorem QU3(L:List Int)(k k':Nat):QK 8 [AV.slz (600:Nat) (0:Nat) L.length (Cap.of (0:Nat)),AV.int false i64 (↑L.length:Int),AV.int false i64 (i64.wrap ((↑k:Int)+(1:Int)))] ([((600:Nat),Blk.rowz true (3:Nat) [CK.int i64] L.length fun i=>QA.enc (L.getD i (0:Int)))]) (zi L k')=(
  some [(0:Nat)=(0:Nat),L.length=L.length,Cap.of (0:Nat)=Cap.of (0:Nat),(↑L.length:Int)=(↑L.length:Int),i64.wrap ((↑k:Int)+(1:Int))=(↑k' :
  Int),L.length≤L.length,QD (1:Nat) L.length (fun i=>QA.enc (L.getD i (0:Int))) fun i=>QA.enc (L.getD i (0:Int))]):=by kernel_rfl
theorem QSZ :QK 8 [] ([]) Hd=(
  some []):=by kernel_rfl
end Go.Proofs.Ytbpffdkemeoajaa
