/- - -/
import Derived.Test.YtbpffdkemeoajaaMwr
open Go.IntKind (i64)
set_option maxRecDepth 100000
namespace Go.Proofs.Ytbpffdkemeoajaa
open Go.SX
variable (d:Puz)(c:Nat)(g:Nat→Value)
def QI2:List AV:=[.int false .i64 d.play.length,.int false .i64 d.play.slack,.int false .i64 d.play.loose,.int false .i64 d.play.damp.lo,.int false .i64 d.play.damp.hi,.int false .i64 d.wide,.int false .i64 d.high,.bool false d.turn,.slz 0 0 d.ps.n (.of 0)]
def QBp:JSt:=⟨62,[(1,.ptr 8 0 0),(16,.slz 0 0 d.ps.n (.of 0)),(17,.int false .i64 d.ps.n),(18,.int false .i64 c)],[(8,.cells 0 28 (QI2 d))]++Qw.blk 0 d.ps,96⟩
def QJ4:Ex→List Nat
 | .normal=>[1,16,17,18]
 | .exit _=>[]
 | .ret=>[2,3,4]
noncomputable abbrev QLI:List AV:=
  [.nili,.ptr 62 0 0,vi (c:Int),vj 0,vj 0]
noncomputable abbrev Hk:List AV:=
  [.nili,.ptr 62 0 0,vi (c:Int),vj 1,vj 0]
noncomputable abbrev Zz:List AV:=
  [.nili,.ptr 62 0 0,vi (c:Int),vj 2,vj 0]
noncomputable abbrev VF:List AV:=
  [.nili,.ptr 62 0 0,vi (c:Int),vj 3,vj 0]
noncomputable abbrev VS(d:Puz):List AV:=
  [.nilp,.ptr 62 0 0,.ptr 8 0 0,.slz 0 0 d.ps.n cO,vi (d.ps.n:Int),vi (i64.wrap ((c:Int)+1))]
noncomputable abbrev J8:List (Nat×Blk):=
  [(8,.cells 0 28 [vi d.play.length,vi d.play.slack,vi d.play.loose,vi d.play.damp.lo,vi d.play.damp.hi,.int
  false .i64 d.wide,vi d.high,.bool false d.turn,.slz 0 0 d.ps.n cO]),(0,.frz [.int .i64,.int .i64,.int .i64,.int .i64,.int .i64,.int .i64,.int .i64,
  .int .i64,.int .i64,.int .i64,.int .i64,.int .i64,.int .i64,.int .i64,.int .i64,.int .i64,.int .i64,.int .i64,.int .i64,.int .i64,.int .i64,.int .i64,.int .i64,.int
  .i64,.int .i64,.int .i64,.int .i64,.int .i64] d.ps.n fun i=>QA.enc (d.ps.get i))]
theorem QZr :exec (mkE Try.prog X7) (hnd (mkE Try.prog X7) 6) (QW Try.f13 0) (JSt.inst (QBp d c) g) (KF [] QJ4) = .br (decide ((c:Int)<(d.ps.n:Int))) (.need
  (decide ((0:Int)≤(c:Int)∧(c:Int)<(d.ps.n:Int))&&decide (d.ps.n≤d.ps.n)) (.need (decide (c<d.ps.n)) (.need (decide (d.ps.n≤d.ps.n)&&(true&&(true&&true))
  && decide (((1:Int)≤d.wide∧d.wide≤100)∧((1:Int)≤d.high∧d.high≤100)∧(0:Int)≤(c:Int)∧(c:Int)≤100)) (.br (Qb d.wide d.high (c:Int) (0:Int) == -1)
  (.br ((d.ps.get c).up.kind != 0) (.leaf (.tup (QLI c)) ([])) (.need (decide (d.ps.n≤d.ps.n)&&(true&&(true&&true))&&decide (((1:Int)≤d.wide∧d.wide≤100)∧((1 :
  Int)≤d.high∧d.high≤100)∧(0:Int)≤(c:Int)∧(c:Int)≤100)) (.br (Qb d.wide d.high (c:Int) (1:Int) == -1) (.br ((d.ps.get c).right.kind != 0) (.leaf (.tup (Hk
  c)) ([])) (.need (decide (d.ps.n≤d.ps.n)&&(true&&(true&&true))&&decide (((1:Int)≤d.wide∧d.wide≤100)∧((1:Int)≤d.high∧d.high≤100)∧(0:Int)≤(c:Int) ∧
  (c:Int)≤100)) (.br (Qb d.wide d.high (c:Int) (2:Int) == -1) (.br ((d.ps.get c).down.kind != 0) (.leaf (.tup (Zz c)) ([])) (.need (decide (d.ps.n≤d.ps.n)&&(true &&
  (true&&true))&&decide (((1:Int)≤d.wide∧d.wide≤100)∧((1:Int)≤d.high∧d.high≤100)∧(0:Int)≤(c:Int)∧(c:Int)≤100)) (.br (Qb d.wide d.high (c:Int)
  (3:Int) == -1) (.br ((d.ps.get c).left.kind != 0) (.leaf (.tup (VF c)) ([])) (.leaf (.tup (VS c d)) ((J8 d)))) (.need (decide ((0:Int)≤Qb d.wide d.high (c:Int) (3 :
  Int)∧Qb d.wide d.high (c:Int) (3:Int)<(d.ps.n:Int))&&decide (d.ps.n≤d.ps.n)) (.need (decide ((Qb d.wide d.high (c:Int) (3:Int)).toNat<d.ps.n)) (.need (true)
  (.br ((KH d.play (d.ps.get c).left (d.ps.get (Qb d.wide d.high (c:Int) (3:Int)).toNat).right).1 != 2) (.leaf (.tup (VF c)) ([])) (.leaf (.tup (VS c d)) ((J8
  d)))))))))) (.need (decide ((0:Int)≤Qb d.wide d.high (c:Int) (2:Int)∧Qb d.wide d.high (c:Int) (2:Int)<(d.ps.n:Int))&&decide (d.ps.n≤d.ps.n)) (.need (decide
  ((Qb d.wide d.high (c:Int) (2:Int)).toNat<d.ps.n)) (.need (true) (.br ((KH d.play (d.ps.get c).down (d.ps.get (Qb d.wide d.high (c:Int) (2:Int)).toNat).up).1 != 2)
  (.leaf (.tup (Zz c)) ([])) (.need (decide (d.ps.n≤d.ps.n)&&(true&&(true&&true))&&decide (((1:Int)≤d.wide∧d.wide≤100)∧((1:Int)≤d.high∧d.high≤100)∧(0 :
  Int)≤(c:Int)∧(c:Int)≤100)) (.br (Qb d.wide d.high (c:Int) (3:Int) == -1) (.br ((d.ps.get c).left.kind != 0) (.leaf (.tup (VF c)) ([])) (.leaf (.tup (VS c d))
  ((J8 d)))) (.need (decide ((0:Int)≤Qb d.wide d.high (c:Int) (3:Int)∧Qb d.wide d.high (c:Int) (3:Int)<(d.ps.n:Int))&&decide (d.ps.n≤d.ps.n)) (.need
  (decide ((Qb d.wide d.high (c:Int) (3:Int)).toNat<d.ps.n)) (.need (true) (.br ((KH d.play (d.ps.get c).left (d.ps.get (Qb d.wide d.high (c:Int) (3 :
  Int)).toNat).right).1 != 2) (.leaf (.tup (VF c)) ([])) (.leaf (.tup (VS c d)) ((J8 d)))))))))))))))) (.need (decide ((0:Int)≤Qb d.wide d.high (c:Int) (1:Int)∧Qb
  d.wide d.high (c:Int) (1:Int)<(d.ps.n:Int))&&decide (d.ps.n≤d.ps.n)) (.need (decide ((Qb d.wide d.high (c:Int) (1:Int)).toNat<d.ps.n)) (.need (true) (.br ((KH
  d.play (d.ps.get c).right (d.ps.get (Qb d.wide d.high (c:Int) (1:Int)).toNat).left).1 != 2) (.leaf (.tup (Hk c)) ([])) (.need (decide (d.ps.n≤d.ps.n)&&(true&&(true &&
  true))&&decide (((1:Int)≤d.wide∧d.wide≤100)∧((1:Int)≤d.high∧d.high≤100)∧(0:Int)≤(c:Int)∧(c:Int)≤100)) (.br (Qb d.wide d.high (c:Int) (2:Int)
  == -1) (.br ((d.ps.get c).down.kind != 0) (.leaf (.tup (Zz c)) ([])) (.need (decide (d.ps.n≤d.ps.n)&&(true&&(true&&true))&&decide (((1:Int)≤d.wide∧d.wide≤100) ∧
  ((1:Int)≤d.high∧d.high≤100)∧(0:Int)≤(c:Int)∧(c:Int)≤100)) (.br (Qb d.wide d.high (c:Int) (3:Int) == -1) (.br ((d.ps.get c).left.kind != 0) (.leaf (.tup
  (VF c)) ([])) (.leaf (.tup (VS c d)) ((J8 d)))) (.need (decide ((0:Int)≤Qb d.wide d.high (c:Int) (3:Int)∧Qb d.wide d.high (c:Int) (3:Int)<(d.ps.n:Int))
  && decide (d.ps.n≤d.ps.n)) (.need (decide ((Qb d.wide d.high (c:Int) (3:Int)).toNat<d.ps.n)) (.need (true) (.br ((KH d.play (d.ps.get c).left (d.ps.get (Qb d.wide
  d.high (c:Int) (3:Int)).toNat).right).1 != 2) (.leaf (.tup (VF c)) ([])) (.leaf (.tup (VS c d)) ((J8 d)))))))))) (.need (decide ((0:Int)≤Qb d.wide d.high (c:Int)
  (2:Int)∧Qb d.wide d.high (c:Int) (2:Int)<(d.ps.n:Int))&&decide (d.ps.n≤d.ps.n)) (.need (decide ((Qb d.wide d.high (c:Int) (2:Int)).toNat<d.ps.n)) (.need
  (true) (.br ((KH d.play (d.ps.get c).down (d.ps.get (Qb d.wide d.high (c:Int) (2:Int)).toNat).up).1 != 2) (.leaf (.tup (Zz c)) ([])) (.need (decide (d.ps.n≤d.ps.n) &&
  (true&&(true&&true))&&decide (((1:Int)≤d.wide∧d.wide≤100)∧((1:Int)≤d.high∧d.high≤100)∧(0:Int)≤(c:Int)∧(c:Int)≤100)) (.br (Qb d.wide d.high (c
  : Int) (3:Int) == -1) (.br ((d.ps.get c).left.kind != 0) (.leaf (.tup (VF c)) ([])) (.leaf (.tup (VS c d)) ((J8 d)))) (.need (decide ((0:Int)≤Qb d.wide d.high (c :
  Int) (3:Int)∧Qb d.wide d.high (c:Int) (3:Int)<(d.ps.n:Int))&&decide (d.ps.n≤d.ps.n)) (.need (decide ((Qb d.wide d.high (c:Int) (3:Int)).toNat<d.ps.n))
  (.need (true) (.br ((KH d.play (d.ps.get c).left (d.ps.get (Qb d.wide d.high (c:Int) (3:Int)).toNat).right).1 != 2) (.leaf (.tup (VF c)) ([])) (.leaf (.tup (VS c d))
  ((J8 d)))))))))))))))))))))) (.need (decide ((0:Int)≤Qb d.wide d.high (c:Int) (0:Int)∧Qb d.wide d.high (c:Int) (0:Int)<(d.ps.n:Int))&&decide (d.ps.n ≤
  d.ps.n)) (.need (decide ((Qb d.wide d.high (c:Int) (0:Int)).toNat<d.ps.n)) (.need (true) (.br ((KH d.play (d.ps.get c).up (d.ps.get (Qb d.wide d.high (c:Int) (0 :
  Int)).toNat).down).1 != 2) (.leaf (.tup (QLI c)) ([])) (.need (decide (d.ps.n≤d.ps.n)&&(true&&(true&&true))&&decide (((1:Int)≤d.wide∧d.wide≤100)∧((1:Int) ≤
  d.high∧d.high≤100)∧(0:Int)≤(c:Int)∧(c:Int)≤100)) (.br (Qb d.wide d.high (c:Int) (1:Int) == -1) (.br ((d.ps.get c).right.kind != 0) (.leaf (.tup (Hk c))
  ([])) (.need (decide (d.ps.n≤d.ps.n)&&(true&&(true&&true))&&decide (((1:Int)≤d.wide∧d.wide≤100)∧((1:Int)≤d.high∧d.high≤100)∧(0:Int)≤(c:Int)∧(c
  : Int)≤100)) (.br (Qb d.wide d.high (c:Int) (2:Int) == -1) (.br ((d.ps.get c).down.kind != 0) (.leaf (.tup (Zz c)) ([])) (.need (decide (d.ps.n≤d.ps.n)&&(true&&(true
  && true))&&decide (((1:Int)≤d.wide∧d.wide≤100)∧((1:Int)≤d.high∧d.high≤100)∧(0:Int)≤(c:Int)∧(c:Int)≤100)) (.br (Qb d.wide d.high (c:Int) (3 :
  Int) == -1) (.br ((d.ps.get c).left.kind != 0) (.leaf (.tup (VF c)) ([])) (.leaf (.tup (VS c d)) ((J8 d)))) (.need (decide ((0:Int)≤Qb d.wide d.high (c:Int) (3:Int)
  ∧ Qb d.wide d.high (c:Int) (3:Int)<(d.ps.n:Int))&&decide (d.ps.n≤d.ps.n)) (.need (decide ((Qb d.wide d.high (c:Int) (3:Int)).toNat<d.ps.n)) (.need (true) (.br
  ((KH d.play (d.ps.get c).left (d.ps.get (Qb d.wide d.high (c:Int) (3:Int)).toNat).right).1 != 2) (.leaf (.tup (VF c)) ([])) (.leaf (.tup (VS c d)) ((J8 d))))))))))
  (.need (decide ((0:Int)≤Qb d.wide d.high (c:Int) (2:Int)∧Qb d.wide d.high (c:Int) (2:Int)<(d.ps.n:Int))&&decide (d.ps.n≤d.ps.n)) (.need (decide ((Qb
  d.wide d.high (c:Int) (2:Int)).toNat<d.ps.n)) (.need (true) (.br ((KH d.play (d.ps.get c).down (d.ps.get (Qb d.wide d.high (c:Int) (2:Int)).toNat).up).1 != 2) (.leaf
  (.tup (Zz c)) ([])) (.need (decide (d.ps.n≤d.ps.n)&&(true&&(true&&true))&&decide (((1:Int)≤d.wide∧d.wide≤100)∧((1:Int)≤d.high∧d.high≤100)∧(0:Int) ≤
  (c:Int)∧(c:Int)≤100)) (.br (Qb d.wide d.high (c:Int) (3:Int) == -1) (.br ((d.ps.get c).left.kind != 0) (.leaf (.tup (VF c)) ([])) (.leaf (.tup (VS c d)) ((J8
  d)))) (.need (decide ((0:Int)≤Qb d.wide d.high (c:Int) (3:Int)∧Qb d.wide d.high (c:Int) (3:Int)<(d.ps.n:Int))&&decide (d.ps.n≤d.ps.n)) (.need (decide
  ((Qb d.wide d.high (c:Int) (3:Int)).toNat<d.ps.n)) (.need (true) (.br ((KH d.play (d.ps.get c).left (d.ps.get (Qb d.wide d.high (c:Int) (3:Int)).toNat).right).1 !=
  2) (.leaf (.tup (VF c)) ([])) (.leaf (.tup (VS c d)) ((J8 d)))))))))))))))) (.need (decide ((0:Int)≤Qb d.wide d.high (c:Int) (1:Int)∧Qb d.wide d.high (c:Int)
  (1:Int)<(d.ps.n:Int))&&decide (d.ps.n≤d.ps.n)) (.need (decide ((Qb d.wide d.high (c:Int) (1:Int)).toNat<d.ps.n)) (.need (true) (.br ((KH d.play (d.ps.get
  c).right (d.ps.get (Qb d.wide d.high (c:Int) (1:Int)).toNat).left).1 != 2) (.leaf (.tup (Hk c)) ([])) (.need (decide (d.ps.n≤d.ps.n)&&(true&&(true&&true))&&decide
  (((1:Int)≤d.wide∧d.wide≤100)∧((1:Int)≤d.high∧d.high≤100)∧(0:Int)≤(c:Int)∧(c:Int)≤100)) (.br (Qb d.wide d.high (c:Int) (2:Int) == -1) (.br
  ((d.ps.get c).down.kind != 0) (.leaf (.tup (Zz c)) ([])) (.need (decide (d.ps.n≤d.ps.n)&&(true&&(true&&true))&&decide (((1:Int)≤d.wide∧d.wide≤100)∧((1:Int) ≤
  d.high∧d.high≤100)∧(0:Int)≤(c:Int)∧(c:Int)≤100)) (.br (Qb d.wide d.high (c:Int) (3:Int) == -1) (.br ((d.ps.get c).left.kind != 0) (.leaf (.tup (VF c))
  ([])) (.leaf (.tup (VS c d)) ((J8 d)))) (.need (decide ((0:Int)≤Qb d.wide d.high (c:Int) (3:Int)∧Qb d.wide d.high (c:Int) (3:Int)<(d.ps.n:Int))&&decide
  (d.ps.n≤d.ps.n)) (.need (decide ((Qb d.wide d.high (c:Int) (3:Int)).toNat<d.ps.n)) (.need (true) (.br ((KH d.play (d.ps.get c).left (d.ps.get (Qb d.wide d.high (c :
  Int) (3:Int)).toNat).right).1 != 2) (.leaf (.tup (VF c)) ([])) (.leaf (.tup (VS c d)) ((J8 d)))))))))) (.need (decide ((0:Int)≤Qb d.wide d.high (c:Int) (2:Int) ∧
  Qb d.wide d.high (c:Int) (2:Int)<(d.ps.n:Int))&&decide (d.ps.n≤d.ps.n)) (.need (decide ((Qb d.wide d.high (c:Int) (2:Int)).toNat<d.ps.n)) (.need (true) (.br
  ((KH d.play (d.ps.get c).down (d.ps.get (Qb d.wide d.high (c:Int) (2:Int)).toNat).up).1 != 2) (.leaf (.tup (Zz c)) ([])) (.need (decide (d.ps.n≤d.ps.n)&&(true&&(true
  && true))&&decide (((1:Int)≤d.wide∧d.wide≤100)∧((1:Int)≤d.high∧d.high≤100)∧(0:Int)≤(c:Int)∧(c:Int)≤100)) (.br (Qb d.wide d.high (c:Int) (3 :
  Int) == -1) (.br ((d.ps.get c).left.kind != 0) (.leaf (.tup (VF c)) ([])) (.leaf (.tup (VS c d)) ((J8 d)))) (.need (decide ((0:Int)≤Qb d.wide d.high (c:Int) (3:Int)
  ∧ Qb d.wide d.high (c:Int) (3:Int)<(d.ps.n:Int))&&decide (d.ps.n≤d.ps.n)) (.need (decide ((Qb d.wide d.high (c:Int) (3:Int)).toNat<d.ps.n)) (.need (true) (.br
  ((KH d.play (d.ps.get c).left (d.ps.get (Qb d.wide d.high (c:Int) (3:Int)).toNat).right).1 != 2) (.leaf (.tup (VF c)) ([])) (.leaf (.tup (VS c d)) ((J8
  d))))))))))))))))))))))))))))) (.leaf (.tup [.ptr 0 0 0,.ptr 62 0 0]) ([])):=by kernel_rfl
def vE(c s:Nat):JSt:=⟨62,[(2,.int false .i64 c),(3,.int false .i64 s),(4,.int false .i64 0)],[],96⟩
def QEv:JSt:=⟨62,[],[],96⟩
theorem QPT(c c' s':Nat):QL 8 [AV.int false i64 (↑c:Int),AV.int true i64 (0:Int),AV.int true i64 (0:Int)] ([]) (vE c' s')=(
  some [(↑c:Int)=(↑c':Int),(0:Int)=(↑s':Int),(0:Int)=(0:Int)]):=by kernel_rfl
theorem QXs(c c' s':Nat):QL 8 [AV.int false i64 (↑c:Int),AV.int true i64 (1:Int),AV.int true i64 (0:Int)] ([]) (vE c' s')=(
  some [(↑c:Int)=(↑c':Int),(1:Int)=(↑s':Int),(0:Int)=(0:Int)]):=by kernel_rfl
theorem QV3(c c' s':Nat):QL 8 [AV.int false i64 (↑c:Int),AV.int true i64 (2:Int),AV.int true i64 (0:Int)] ([]) (vE c' s')=(
  some [(↑c:Int)=(↑c':Int),(2:Int)=(↑s':Int),(0:Int)=(0:Int)]):=by kernel_rfl
theorem QRa(c c' s':Nat):QL 8 [AV.int false i64 (↑c:Int),AV.int true i64 (3:Int),AV.int true i64 (0:Int)] ([]) (vE c' s')=(
  some [(↑c:Int)=(↑c':Int),(3:Int)=(↑s':Int),(0:Int)=(0:Int)]):=by kernel_rfl
theorem QO7(c c':Nat):QL 8 [.ptr 8 0 0,.slz 0 0 d.ps.n cO,vi (d.ps.n:Int),vi (i64.wrap ((c:Int)+1))] ((J8 d)) (QBp d c')=(some [0=0,0=0,0
  = 0,d.ps.n=d.ps.n,cO=cO,(d.ps.n:Int)=(d.ps.n:Int),i64.wrap ((c:Int)+1)=(c':Int),d.play.length=d.play.length,d.play.slack =
  d.play.slack,d.play.loose=d.play.loose,d.play.damp.lo=d.play.damp.lo,d.play.damp.hi=d.play.damp.hi,d.wide=d.wide,d.high=d.high,d.turn=d.turn,0=0,d.ps.n =
  d.ps.n,cO=cO,d.ps.n≤d.ps.n,QC 28 d.ps.n (fun i=>QA.enc (d.ps.get i)) fun i=>QA.enc (d.ps.get i)]):=by kernel_rfl
theorem QYL :QL 8 [] ([]) QEv=(
  some []):=by kernel_rfl
end Go.Proofs.Ytbpffdkemeoajaa
namespace Go.SX
open Go Go.RowKit Go.Proofs.Ytbpffdkemeoajaa
variable {Q:AV→List (Nat×Blk)→Prop}
theorem QA7{A b1 b2 b3 n1 n2 x:Bool}{L K:QD}(hA:A=true)(hn:b1=false→n1=true∧n2=true)(hx:x=cond b1 b2 b3)(hr:x=true→L.den Q)(hk:x=false→K.den Q):
  (QD.need A (.br b1 (.br b2 L K) (.need n1 (.need n2 (.need true (.br b3 L K)))))).den Q:=by
 refine QF hA (QI (fun h1 => ?_) (fun h1 => ?_))
 ·rw[h1]at hx;exact QI (fun h=>hr (by rw[hx,h];rfl)) (fun h=>hk (by rw[hx,h];rfl))
 ·rw[h1]at hx;exact QF (hn h1).1 (QF (hn h1).2 (QF rfl (QI (fun h=>hr (by rw[hx,h];rfl)) (fun h=>hk (by rw[hx,h];rfl)))))
end Go.SX
namespace Go.Proofs.Ytbpffdkemeoajaa
open Go.SX
def YX(x:QT):Nat→Edge
 | 0=>x.up
 | 1=>x.right
 | 2=>x.down
 | _=>x.left
variable (d:Puz)(c:Nat)
def ZH(c s:Nat):Bool:=cond (Qb d.wide d.high c s == -1) ((YX (d.ps.get c) s).kind != 0) ((KH d.play (YX (d.ps.get c) s) (YX (d.ps.get (Qb d.wide d.high c s).toNat) ((s+2) % 4))).1 != 2)
def XN(i:Nat):Bool:=ZH d (i / 4) (i % 4)
structure Wx (d:Puz):Prop where
 n9:d.ps.n≤9
 w1:1≤d.wide
 wn:d.wide≤d.ps.n
 h1:1≤d.high
 hn:d.high≤d.ps.n
 wh:d.wide*d.high=d.ps.n
theorem QNH{d:Puz}(h:d.ok=true):Wx d:=by
 simp only[Puz.ok,Puz.okN,Qf,qbA,qdE,beq_iff_eq]at h;obtain⟨⟨⟨a1,a2⟩,⟨b1,b2⟩,⟨c1,c2⟩,e⟩,_⟩:=h;have hw:d.wide≤9:=by omega
 have hh:d.high≤9:=by omega
 have hm:d.wide*d.high≤9*9:=Int.mul_le_mul hw hh (by omega) (by omega)
 have hm0:0≤d.wide*d.high:=Int.mul_nonneg (by omega) (by omega)
 rw[w64 (by omega) (by omega)]at e
 exact⟨by omega,b1,b2,c1,c2,e⟩
theorem QWg{d:Puz}(h:Wx d){c s:Nat}(hc:c<d.ps.n)(hb:(Qb d.wide d.high c s == -1)=false):0≤Qb d.wide d.high c s∧Qb d.wide d.high c s<d.ps.n:=by
 have w1:=h.w1;have m0:0≤(c:Int).tmod d.wide:=Int.tmod_nonneg _ (by omega)
 have m1:(c:Int).tmod d.wide<d.wide:=Int.tmod_lt_of_pos _ (by omega)
 have q0:0≤(c:Int).tdiv d.wide:=Int.tdiv_nonneg (by omega) (by omega)
 have e:=Int.tmod_def (c:Int) d.wide;have wh:=h.wh;simp only[Qb]at hb ⊢;generalize (c:Int).tdiv d.wide=q at *;generalize (c:Int).tmod d.wide=m at *
 have hq:q<d.high:=by
  rcases Int.lt_or_le q d.high with g|g
  ·exact g
  ·have:=Int.mul_le_mul_of_nonneg_left g (show 0≤d.wide by omega)
   omega
 have p0:0≤d.wide*q:=Int.mul_nonneg (by omega) q0
 have a1:d.wide*(q+1)≤d.wide*d.high:=Int.mul_le_mul_of_nonneg_left (by omega) (by omega)
 have e1:d.wide*(q+1)=d.wide*q+d.wide:=by rw[Int.mul_add,Int.mul_one]
 cases x0:((s:Int)==0&&decide (0<q))with
 | true=>
  simp only[cond_true];simp only[qbA,qdE]at x0;have:=Int.mul_le_mul_of_nonneg_left (show 1≤q by omega) (show 0≤d.wide by omega)
  omega
 | false=>
  simp only[x0,cond_false]at hb ⊢;cases x1:((s:Int)==1&&decide (m<d.wide-1))with
  | true=>
   simp only[cond_true];simp only[qbA,qdE]at x1;omega
  | false=>
   simp only[x1,cond_false]at hb ⊢;cases x2:((s:Int)==2&&decide (q<d.high-1))with
   | true=>
    simp only[cond_true];simp only[qbA,qdE]at x2;have a2:d.wide*(q+2)≤d.wide*d.high:=Int.mul_le_mul_of_nonneg_left (by omega) (by omega)
    have e2:d.wide*(q+2)=d.wide*q+d.wide*2:=by rw[Int.mul_add]
    omega
   | false=>
    simp only[x2,cond_false]at hb ⊢;cases x3:((s:Int)==3&&decide (0<m))with
    | true=>
     simp only[cond_true];simp only[qbA,qdE]at x3;omega
    | false=>
     simp only[x3,cond_false]at hb;exact absurd hb (by decide)
def QI7(e:Ex)(J:JSt):Prop:=(∃ i,e = .ret∧QQ (XN d) (4*(d.ps.n-c)) (4*c)=some i∧J=vE (i / 4) (i % 4))∨(e = .exit 0∧QQ (XN d) (4*(d.ps.n-c)) (4*c)=none∧J=QEv)
theorem QZy(hd:Wx d):K0 (QBp d) (fun c=>c≤d.ps.n) (fun c=>d.ps.n-c) (QI7 d) 8 QJ4 [] (mkE Try.prog X7) (fun _=>hnd (mkE Try.prog X7) 6) (QW Try.f13 0):=by
 refine⟨fun c g hk=>⟨ze (QZr d c g) ?_⟩⟩;have n9:=hd.n9;refine QI (fun h => ?_) (fun h => ?_)
 ·have h:c<d.ps.n:=by have:=qdt h;omega
  have hw:=hd.w1;have hwn:=hd.wn;have hh:=hd.h1;have hhn:=hd.hn
  have hA:(decide (d.ps.n≤d.ps.n)&&(true&&(true&&true))&&decide (((1:Int)≤d.wide∧d.wide≤(100:Int))∧((1:Int)≤d.high∧d.high≤(100:Int))∧(0:Int)≤(c:Int)∧(c:Int)≤(100:Int)))=true:=by
   simp only[qlr,decide_true,Bool.true_and,qdE];omega
  have hn:∀ s:Nat,(Qb d.wide d.high c s == -1)=false→(decide (0≤Qb d.wide d.high c s∧Qb d.wide d.high c s<(d.ps.n:Int))&&decide (d.ps.n≤d.ps.n))=true∧decide ((Qb d.wide d.high c s).toNat<d.ps.n)=true:=fun s hb=>by
   have:=QWg hd h hb;simp only[qlr,decide_true,Bool.and_true,qdE];omega
  obtain⟨m,hm⟩:∃ m,4*(d.ps.n-c)=m+1+1+1+1:=⟨4*(d.ps.n-c)-4,by omega⟩
  have hm':4*(d.ps.n-(c+1))=m:=by omega
  have q0:XN d (4*c)=ZH d c 0:=by unfold XN;rw[show 4*c / 4=c by omega,show 4*c % 4=0 by omega]
  have q1:XN d (4*c+1)=ZH d c 1:=by unfold XN;rw[show(4*c+1) / 4=c by omega,show(4*c+1) % 4=1 by omega]
  have q2:XN d (4*c+1+1)=ZH d c 2:=by unfold XN;rw[show(4*c+1+1) / 4=c by omega,show(4*c+1+1) % 4=2 by omega]
  have q3:XN d (4*c+1+1+1)=ZH d c 3:=by unfold XN;rw[show(4*c+1+1+1) / 4=c by omega,show(4*c+1+1+1) % 4=3 by omega]
  refine QF (by simp;omega) (QF (by simp;omega) ?_)
  refine QA7 (x:=ZH d c 0) hA (hn 0) rfl (fun b0 => ?_) (fun b0 => ?_)
  ·refine⟨_,.inl ⟨4*c,rfl,by rw[hm,QQ,q0,b0],rfl⟩,rfl,rfl,_,QPT c _ _,?_⟩
   exact⟨by omega,by omega,rfl,trivial⟩
  refine QA7 (x:=ZH d c 1) hA (hn 1) rfl (fun b1 => ?_) (fun b1 => ?_)
  ·refine⟨_,.inl ⟨4*c+1,rfl,by rw[hm,QQ,q0,b0,QQ,q1,b1],rfl⟩,rfl,rfl,_,QXs c _ _,?_⟩
   exact⟨by omega,by omega,rfl,trivial⟩
  refine QA7 (x:=ZH d c 2) hA (hn 2) rfl (fun b2 => ?_) (fun b2 => ?_)
  ·refine⟨_,.inl ⟨4*c+1+1,rfl,by rw[hm,QQ,q0,b0,QQ,q1,b1,QQ,q2,b2],rfl⟩,rfl,rfl,_,QV3 c _ _,?_⟩
   exact⟨by omega,by omega,rfl,trivial⟩
  refine QA7 (x:=ZH d c 3) hA (hn 3) rfl (fun b3 => ?_) (fun b3 => ?_)
  ·refine⟨_,.inl ⟨4*c+1+1+1,rfl,by rw[hm,QQ,q0,b0,QQ,q1,b1,QQ,q2,b2,QQ,q3,b3],rfl⟩,rfl,rfl,_,QRa c _ _,?_⟩
   exact⟨by omega,by omega,rfl,trivial⟩
  have hf:QQ (XN d) (4*(d.ps.n-c)) (4*c)=QQ (XN d) (4*(d.ps.n-(c+1))) (4*(c+1)):=by
   rw[hm,hm',QQ,q0,b0,QQ,q1,b1,QQ,q2,b2,QQ,q3,b3,show 4*(c+1)=4*c+1+1+1+1 by omega]
  refine⟨c+1,h,by show d.ps.n-(c+1)<d.ps.n-c;omega,fun e J h=>by unfold QI7 at h ⊢;rw[hf];exact h,rfl,rfl,_,QO7 d c (c+1),?_⟩
  have hw:i64.wrap ((c:Int)+1)=((c+1:Nat):Int):=(w64 (by omega) (by omega)).trans (by omega)
  repeat' first|exact trivial|with_reducible rfl|exact qlr _|exact hw|exact qRr|refine And.intro ?_ ?_
 ·have h:d.ps.n≤c:=by have:=of_decide_eq_false h;omega
  exact⟨_,.inr ⟨rfl,by rw[show 4*(d.ps.n-c)=0 by omega];rfl,rfl⟩,rfl,rfl,_,QYL,trivial⟩
end Go.Proofs.Ytbpffdkemeoajaa
namespace Go.SX
open Go Go.RowKit Go.Proofs.Ytbpffdkemeoajaa
def Vn(p:Prop)(L:St→(Ex→St→QD)→QD)(st:St)(K:Ex→St→QD):QD := .ask p (L st K)
theorem ZW{E:Env}{G:Ctx}{c:Code}{p:Prop}{L:St→(Ex→St→QD)→QD}(h:p→JS E G c L):JS E G c (Vn p L):=by
 intro st K T Q a w hn hd hr hQ;obtain⟨h1,h2⟩:=(show p∧(L st K).den T from hd);exact h h1 st K T Q a w hn h2 hr hQ
end Go.SX
namespace Go.Proofs.Ytbpffdkemeoajaa
open Go.SX
variable (d:Puz)
def qf:Option Nat:=QQ (XN d) (4*d.ps.n) 0
def jP:Nat:=(qf d).getD 0
def QYT:List (Prop×Ex×JSt):=[((qf d).isSome=true,.ret,vE (jP d / 4) (jP d % 4)),(qf d=none,.exit 0,QEv)]
abbrev QBo(P:Program)(d:Puz):Hnd:={ hnd (mkE P X7) 1 with loop:=fun _=>Vn (Wx d) (Q7 8 [] (QBp d 0) (QYT d)) }
theorem QSS(G:Ctx)(hrd:G.rd=none)(hG:G.n=8):Q1 (mkE Try.prog X7) G (QBo Try.prog d) (Qo Try.f13):=by
 refine JF (body:=QW Try.f13 0) (QP HA) hrd (by kernel_rfl) ?_
 refine ZW fun hd => ?_;refine JG (n0:=8) (QP HA) (by omega) (fun s hs=>Qq (QP HA) 6 G _ hrd) (fun s hs=>(by decide:8≤96)) ?_ (QZy d hd) (s0:=0) (Nat.zero_le _) ?_
 ·rintro s e J (⟨_,_,_,rfl⟩|⟨_,_,rfl⟩)<;>exact(by decide:8≤96)
 ·rintro e J (⟨i,rfl,h,rfl⟩|⟨rfl,h,rfl⟩)
  ·have h:qf d=some i:=h;refine⟨_,List.mem_cons_self,by simp only[h];rfl,rfl,?_⟩
   simp only[jP,h];rfl
  ·exact⟨_,List.mem_cons_of_mem _ List.mem_cons_self,h,rfl,rfl⟩
def vI:Int×Int×Int:=match d.ok with
 | false=>(0,0,1)
 | true=>(match qf d with
  | some i=>(((i / 4:Nat):Int),((i % 4:Nat):Int),0)
  | none=>(0,0,4))
def WX:WF (Puz×Unit):=fun|(d,_)=>(decide (d.ps.n≤1000),.tup [.int false .i64 (vI d).1,.int false .i64 (vI d).2.1,.int false .i64 (vI d).2.2],[])
def QGP:FC:=wFC WX
theorem QO9 :KR (mkE Try.prog X7) (QBo Try.prog d) Try.f13 (QX.vals 0 ((d,()):Puz×Unit)) (QX.blks 0 ((d,()):Puz×Unit)) 8 = .need (decide (d.ps.n≤d.ps.n)&&true &&
  decide (d.ps.n≤1000)) (.br (!d.ok) (.leaf (.tup [vj 0,vj 0,vj 1]) ([])) (.ask (Wx d) (.ask (0=0) (.ask (0=0) (.ask (0=0) (.ask
  (d.ps.n=d.ps.n) (.ask (cO=cO) (.ask ((d.ps.n:Int)=(d.ps.n:Int)) (.ask ((0:Int)=0) (.ask (d.play.length=d.play.length) (.ask (d.play.slack=d.play.slack)
  (.ask (d.play.loose=d.play.loose) (.ask (d.play.damp.lo=d.play.damp.lo) (.ask (d.play.damp.hi=d.play.damp.hi) (.ask (d.wide=d.wide) (.ask (d.high=d.high) (.ask (d.turn =
  d.turn) (.ask (0=0) (.ask (d.ps.n=d.ps.n) (.ask (cO=cO) (.ask (d.ps.n≤d.ps.n) (.ask (QC 28 d.ps.n (fun i=>QA.enc (d.ps.get i)) fun i=>QA.enc
  (d.ps.get i)) (.both (.asm ((qf d).isSome=true) (.all (fun(g0:Nat→Value) => .leaf (.tup [vi (↑(jP d / 4):Int),vi (↑(jP d % 4):Int),.int
  false .i64 0]) ([])))) (.asm (qf d=none) (.all (fun(g1:Nat→Value) => .leaf (.tup [vj 0,vj 0,vj 4]) ([]))))))))))))))))))))))))))):=by kernel_rfl
theorem QWM:JN (mkE Try.prog X7) (Qo Try.f13) 8 WX (fun x_=>(QBo Try.prog x_.1)):=by
 refine⟨?_⟩;rintro⟨d,⟨⟩⟩ hp G h1 h2;exact QSS d G h1 h2
theorem QVV:JM (mkE Try.prog X7) Try.f13 8 WX (fun x_=>(QBo Try.prog x_.1)):=by
 refine⟨?_⟩;rintro⟨d,⟨⟩⟩ hp;refine⟨⟨rfl,by simp[WX],rfl⟩,⟨?_⟩⟩
 rw[QO9 d];simp only[WX]at hp;refine QF (by simpa using hp) (QI (fun h=>Kk ?_ rfl) (fun h => ?_))
 ·have h:d.ok=false:=by simpa using h
  simp only[WX,vI,h];exact⟨⟨rfl,rfl⟩,⟨rfl,rfl⟩,⟨rfl,rfl⟩,trivial⟩
 ·have h:d.ok=true:=by simpa using h
  refine QR (QNH h) ?_
  repeat' first|refine QR (show _=_ by with_reducible rfl) ?_|refine QR (show _≤_ from qlr _) ?_|refine QR (show QC _ _ _ _ from qRr) ?_
  refine Xf (KA fun ho=>Q6 fun g => ?_) (KA fun ho=>Q6 fun g => ?_)
  ·obtain⟨i,hi⟩:=Option.isSome_iff_exists.1 ho;exact Kk (by simp only[WX,vI,jP,h,hi];exact⟨⟨rfl,rfl⟩,⟨rfl,rfl⟩,⟨rfl,rfl⟩,trivial⟩) rfl
  ·exact Kk (by simp only[WX,vI,h,ho];exact⟨⟨rfl,rfl⟩,⟨rfl,rfl⟩,⟨rfl,rfl⟩,trivial⟩) rfl
theorem QIw:QO Try.prog 13 QGP:=
 JX (QP HA) Try.func13 (by kernel_rfl) (by kernel_rfl) (by decide) QWM QVV
def QBh:Tab:=Qd X7 13 QGP
theorem QKP:QZ QBh:=HA.add QIw
structure Fl where
instance : Enc Fl where
  enc _ := .agg []
  dec | .agg [] => some ⟨⟩ | _ => none
  ok v x h := by
    split at h <;> (try (cases h; done))
    exact⟨fun _ => rfl,rfl⟩
def QJP:Fl×Edge×Unit→Bool×AV:=fun|(b,(s,_))=>(true,.bool false (s.kind==0))
def QHP:FC:=Q2 (Q3 QJP)
theorem QRb(b:Fl)(s:Edge):Qy (mkE Try.prog QBh) (hnd (mkE Try.prog QBh) 2) false Try.f124 (Qp.enc ((b,s,()):Fl×Edge×Unit)) [] 0 =
  QD.leaf (AV.bool false (s.kind==(0:Int))) ([]):=by kernel_rfl
theorem QUK:QO Try.prog 124 QHP:=by
 refine KC QKP 2 Try.func124 (by kernel_rfl) (by kernel_rfl) ?_
 rintro⟨b,s,⟨⟩⟩ hp;rw[QRb b s];simp only[QJP,QD.den,AV.same,AV.sameL,and_true,true_and]at hp ⊢
def H8:Tab:=Qd QBh 124 QHP
theorem QFk:QZ H8:=QKP.add QUK
def QDQ:Edge×Unit→Bool×AV:=fun|(s,_)=>(true,.alt (s.kind==0) (.ifc 139 (.agg [])) (.ifc 140 (Enc.enc s)))
def QHd:FC:=Q2 (Q3 QDQ)
theorem QYI(s:Edge):Qy (mkE Try.prog H8) (hnd (mkE Try.prog H8) 2) false Try.f73 (Qp.enc ((s,()):Edge×Unit)) [] 0 =
  QD.br (s.kind==(0:Int)) (QD.leaf (AV.ifc (139:Nat) (AV.agg [])) ([])) (QD.leaf (AV.ifc (140:Nat) (AV.agg [AV.int false i64 s.kind,AV.int false i64
  s.at_.lo,AV.int false i64 s.at_.hi,AV.int false i64 s.wide.lo,AV.int false i64 s.wide.hi,AV.int false i64 s.deep.lo,AV.int false i64
  s.deep.hi])) ([])):=by kernel_rfl
theorem QSc:QO Try.prog 73 QHd:=by
 refine QY7 (c:=Qo Try.f73) (QP QFk) Try.func73 (by kernel_rfl) (by kernel_rfl) (fun G _ hG=>Qq (QP QFk) 2 G _ hG) ?_
 rintro⟨s,⟨⟩⟩ _;refine ze (QYI s) ?_;refine⟨fun h r r' => ?_,fun h r r' => ?_⟩
 ·simp only[QDQ,h];rfl
 ·simp only[QDQ,h];rfl
def Kx:Tab:=Qd H8 73 QHd
theorem qC:QZ Kx:=QFk.add QSc
end Go.Proofs.Ytbpffdkemeoajaa
namespace Go.SX
open Go Go.RowKit Go.Proofs.Ytbpffdkemeoajaa
def Xu(c:Code):Code:=match Kz c with
 | .loop b::_=>b
 | _ => .skip
end Go.SX
namespace Go.Proofs.Ytbpffdkemeoajaa
open Go.SX
structure QB where
 cell:Int
 turn:Int
instance : QA QB where
  ks := [.int .i64,.int .i64]
  enc p j := match j with
    | 0 => p.cell
    | _ => p.turn
  dec f := ⟨f 0,f 1⟩
  ok _ := rfl
variable (d:Puz)(s:QT)(c:Nat)
def W8(o:List QB)(c:Nat):JSt:=⟨49,[(3,.ptr 16 0 0),(4,.slz 24 0 o.length (.of 0)),(11,.slz 0 0 d.ps.n (.of 0)),(12,.int false .i64 d.ps.n),(13,.int false .i64 c)],[(16,.cells 7 33 (Enc.enc s).cells),KN 56 24 o ⟨0,0⟩]++Qw.blk 0 d.ps,32⟩
def J9(o:List QB)(c t:Nat):JSt:=⟨49,[(3,.ptr 16 0 0),(4,.slz 24 0 o.length (.of 0)),(5,.int false .i64 c),(6,.ptr 32 0 0),(11,.slz 0 0 d.ps.n (.of 0)),(12,.int false .i64 d.ps.n),(13,.int false .i64 c),(18,.int true .i64 t)],[(16,.cells 7 33 (Enc.enc s).cells),KN 56 24 o ⟨0,0⟩,(32,.cells 7 33 (Enc.enc (d.ps.get c)).cells)]++Qw.blk 0 d.ps,40⟩
def jy:Ex→List Nat
 | .normal=>[3,4,5,6,11,12,13,18]
 | .exit _=>[3,4,11,12,13]
 | .ret=>[]
noncomputable abbrev QAG(d:Puz)(o:List QB):List AV:=
  [.nilp,.ptr 49 0 0,.ptr 16 0 0,.slz 24 0 o.length cO,vi (c:Int),.ptr 32 0 0,.slz 0 0 d.ps.n cO,vi (d.ps.n:Int),.int false .i64
  (c:Int),vj 1]
noncomputable abbrev YQ:Nat×Blk:=
  (16,.cells 7 33 [vi s.up.kind,vi s.up.at_.lo,vi s.up.at_.hi,vi s.up.wide.lo,vi s.up.wide.hi,.int false .i64
  s.up.deep.lo,vi s.up.deep.hi,vi s.right.kind,vi s.right.at_.lo,vi s.right.at_.hi,vi s.right.wide.lo,.int false
  .i64 s.right.wide.hi,vi s.right.deep.lo,vi s.right.deep.hi,vi s.down.kind,vi s.down.at_.lo,vi s.down.at_.hi,
  .int false .i64 s.down.wide.lo,vi s.down.wide.hi,vi s.down.deep.lo,vi s.down.deep.hi,vi s.left.kind,.int false .i64
  s.left.at_.lo,vi s.left.at_.hi,vi s.left.wide.lo,vi s.left.wide.hi,vi s.left.deep.lo,vi s.left.deep.hi])
noncomputable abbrev QEj(o:List QB):Nat×Blk:=
  (24,.rowz true 56 [.int .i64,.int .i64] o.length fun i=>QA.enc (o.getD i ⟨0,0⟩))
noncomputable abbrev ZN(d:Puz):Nat×Blk:=
  (32,.cells 7 33 [vi (d.ps.get c).up.kind,vi (d.ps.get c).up.at_.lo,vi (d.ps.get c).up.at_.hi,vi (d.ps.get c).up.wide.lo,.int
  false .i64 (d.ps.get c).up.wide.hi,vi (d.ps.get c).up.deep.lo,vi (d.ps.get c).up.deep.hi,vi (d.ps.get c).right.kind,.int false .i64
  (d.ps.get c).right.at_.lo,vi (d.ps.get c).right.at_.hi,vi (d.ps.get c).right.wide.lo,vi (d.ps.get c).right.wide.hi,.int false .i64
  (d.ps.get c).right.deep.lo,vi (d.ps.get c).right.deep.hi,vi (d.ps.get c).down.kind,vi (d.ps.get c).down.at_.lo,vi (d.ps.get
  c).down.at_.hi,vi (d.ps.get c).down.wide.lo,vi (d.ps.get c).down.wide.hi,vi (d.ps.get c).down.deep.lo,vi (d.ps.get
  c).down.deep.hi,vi (d.ps.get c).left.kind,vi (d.ps.get c).left.at_.lo,vi (d.ps.get c).left.at_.hi,vi (d.ps.get
  c).left.wide.lo,vi (d.ps.get c).left.wide.hi,vi (d.ps.get c).left.deep.lo,vi (d.ps.get c).left.deep.hi])
noncomputable abbrev YB:Nat×Blk:=
  (0,.frz [.int .i64,.int .i64,.int .i64,.int .i64,.int .i64,.int .i64,.int .i64,.int .i64,.int .i64,.int .i64,.int .i64,.int .i64,.int .i64,.int .i64,.int .i64,.int
  .i64,.int .i64,.int .i64,.int .i64,.int .i64,.int .i64,.int .i64,.int .i64,.int .i64,.int .i64,.int .i64,.int .i64,.int .i64] d.ps.n fun i=>QA.enc (d.ps.get i))
noncomputable abbrev Jb(d:Puz)(o:List QB)(s:QT):List (Nat×Blk):=
  [(YQ s),(QEj o),(ZN c d),(YB d)]
noncomputable abbrev QJ6(o:List QB):Nat×Blk:=
  (776,.rowz true 56 [.int .i64,.int .i64] (o.length+1) (Qa o.length (fun i=>QA.enc (o.getD i ⟨0,0⟩)) (QS [[vi (c:Int),vj 0]] 0)))
theorem QUJ(o:List QB)(c:Nat)(g:Nat→Value):exec (mkE Try.prog Kx) (hnd (mkE Try.prog Kx) 6) (Xu (QW Try.f43 0)) (JSt.inst (J9 d s o c 0) g) (KF [] jy) = .need (true) (.need (bif s.up.kind==0 then
  true else true) (.br (!bif s.up.kind==0 then (d.ps.get c).up.kind==0 else isF s.up (d.ps.get c).up) (.leaf (.tup (QAG c d o)) ((Jb c d o s))) (.need (true) (.need (bif
  s.right.kind==0 then true else true) (.br (!bif s.right.kind==0 then (d.ps.get c).right.kind==0 else isF s.right (d.ps.get c).right) (.leaf (.tup (QAG c d o)) ((Jb c d o
  s))) (.need (true) (.need (bif s.down.kind==0 then true else true) (.br (!bif s.down.kind==0 then (d.ps.get c).down.kind==0 else isF s.down (d.ps.get c).down) (.leaf (.tup
  (QAG c d o)) ((Jb c d o s))) (.need (true) (.need (bif s.left.kind==0 then true else true) (.br (!bif s.left.kind==0 then (d.ps.get c).left.kind==0 else isF s.left
  (d.ps.get c).left) (.leaf (.tup (QAG c d o)) ((Jb c d o s))) (.need (decide (o.length≤o.length)&&(true&&decide ((o.length+1+(o.length+1) / 4+192)*16 ≤
  281474976710656∧o.length+1≤9223372036854775807))) (.leaf (.tup [.nilp,.ptr 49 0 0,.ptr 16 0 0,.slz 776 0 (o.length+1) cO,vi (c:Int),.ptr 32 0 0,
  .slz 0 0 d.ps.n cO,vi (d.ps.n:Int),vi (c:Int),vj 1]) ([(YQ s),(QJ6 c o),(ZN c d),(YB d)])))))))))))))):=by kernel_rfl
noncomputable abbrev QBi(d:Puz)(o:List QB):List AV:=
  [.nilp,.ptr 49 0 0,.ptr 16 0 0,.slz 24 0 o.length cO,vi (c:Int),.ptr 32 0 0,.slz 0 0 d.ps.n cO,vi (d.ps.n:Int),.int false .i64
  (c:Int),vj 2]
noncomputable abbrev QIX(o:List QB):Nat×Blk:=
  (776,.rowz true 56 [.int .i64,.int .i64] (o.length+1) (Qa o.length (fun i=>QA.enc (o.getD i ⟨0,0⟩)) (QS [[vi (c:Int),vj 1]] 0)))
theorem QZs(o:List QB)(c:Nat)(g:Nat→Value):exec (mkE Try.prog Kx) (hnd (mkE Try.prog Kx) 6) (Xu (QW Try.f43 0)) (JSt.inst (J9 d s o c 1) g) (KF [] jy) = .need (true) (.need (bif s.left.kind==0 then
  true else true) (.br (!bif s.left.kind==0 then (d.ps.get c).up.kind==0 else isF s.left (d.ps.get c).up) (.leaf (.tup (QBi c d o)) ((Jb c d o s))) (.need (true) (.need (bif
  s.up.kind==0 then true else true) (.br (!bif s.up.kind==0 then (d.ps.get c).right.kind==0 else isF s.up (d.ps.get c).right) (.leaf (.tup (QBi c d o)) ((Jb c d o s))) (.need
  (true) (.need (bif s.right.kind==0 then true else true) (.br (!bif s.right.kind==0 then (d.ps.get c).down.kind==0 else isF s.right (d.ps.get c).down) (.leaf (.tup (QBi c d
  o)) ((Jb c d o s))) (.need (true) (.need (bif s.down.kind==0 then true else true) (.br (!bif s.down.kind==0 then (d.ps.get c).left.kind==0 else isF s.down (d.ps.get c).left)
  (.leaf (.tup (QBi c d o)) ((Jb c d o s))) (.need (decide (o.length≤o.length)&&(true&&decide ((o.length+1+(o.length+1) / 4+192)*16≤281474976710656∧o.length+1
  ≤ 9223372036854775807))) (.leaf (.tup [.nilp,.ptr 49 0 0,.ptr 16 0 0,.slz 776 0 (o.length+1) cO,vi (c:Int),.ptr 32 0 0,.slz 0 0 d.ps.n cO,
  .int false .i64 (d.ps.n:Int),vi (c:Int),vj 2]) ([(YQ s),(QIX c o),(ZN c d),(YB d)])))))))))))))):=by kernel_rfl
noncomputable abbrev QBE(d:Puz)(o:List QB):List AV:=
  [.nilp,.ptr 49 0 0,.ptr 16 0 0,.slz 24 0 o.length cO,vi (c:Int),.ptr 32 0 0,.slz 0 0 d.ps.n cO,vi (d.ps.n:Int),.int false .i64
  (c:Int),vj 3]
noncomputable abbrev QJb(o:List QB):Nat×Blk:=
  (776,.rowz true 56 [.int .i64,.int .i64] (o.length+1) (Qa o.length (fun i=>QA.enc (o.getD i ⟨0,0⟩)) (QS [[vi (c:Int),vj 2]] 0)))
theorem QVH(o:List QB)(c:Nat)(g:Nat→Value):exec (mkE Try.prog Kx) (hnd (mkE Try.prog Kx) 6) (Xu (QW Try.f43 0)) (JSt.inst (J9 d s o c 2) g) (KF [] jy) = .need (true) (.need (bif s.down.kind==0 then
  true else true) (.br (!bif s.down.kind==0 then (d.ps.get c).up.kind==0 else isF s.down (d.ps.get c).up) (.leaf (.tup (QBE c d o)) ((Jb c d o s))) (.need (true) (.need (bif
  s.left.kind==0 then true else true) (.br (!bif s.left.kind==0 then (d.ps.get c).right.kind==0 else isF s.left (d.ps.get c).right) (.leaf (.tup (QBE c d o)) ((Jb c d o s)))
  (.need (true) (.need (bif s.up.kind==0 then true else true) (.br (!bif s.up.kind==0 then (d.ps.get c).down.kind==0 else isF s.up (d.ps.get c).down) (.leaf (.tup (QBE c d o))
  ((Jb c d o s))) (.need (true) (.need (bif s.right.kind==0 then true else true) (.br (!bif s.right.kind==0 then (d.ps.get c).left.kind==0 else isF s.right (d.ps.get c).left)
  (.leaf (.tup (QBE c d o)) ((Jb c d o s))) (.need (decide (o.length≤o.length)&&(true&&decide ((o.length+1+(o.length+1) / 4+192)*16≤281474976710656∧o.length+1
  ≤ 9223372036854775807))) (.leaf (.tup [.nilp,.ptr 49 0 0,.ptr 16 0 0,.slz 776 0 (o.length+1) cO,vi (c:Int),.ptr 32 0 0,.slz 0 0 d.ps.n cO,
  .int false .i64 (d.ps.n:Int),vi (c:Int),vj 3]) ([(YQ s),(QJb c o),(ZN c d),(YB d)])))))))))))))):=by kernel_rfl
noncomputable abbrev HX(d:Puz)(o:List QB):List AV:=
  [.nilp,.ptr 49 0 0,.ptr 16 0 0,.slz 24 0 o.length cO,vi (c:Int),.ptr 32 0 0,.slz 0 0 d.ps.n cO,vi (d.ps.n:Int),.int false .i64
  (c:Int),vj 4]
noncomputable abbrev QOW(o:List QB):Nat×Blk:=
  (776,.rowz true 56 [.int .i64,.int .i64] (o.length+1) (Qa o.length (fun i=>QA.enc (o.getD i ⟨0,0⟩)) (QS [[vi (c:Int),vj 3]] 0)))
theorem QPH(o:List QB)(c:Nat)(g:Nat→Value):exec (mkE Try.prog Kx) (hnd (mkE Try.prog Kx) 6) (Xu (QW Try.f43 0)) (JSt.inst (J9 d s o c 3) g) (KF [] jy) = .need (true) (.need (bif s.right.kind==0
  then true else true) (.br (!bif s.right.kind==0 then (d.ps.get c).up.kind==0 else isF s.right (d.ps.get c).up) (.leaf (.tup (HX c d o)) ((Jb c d o s))) (.need (true) (.need
  (bif s.down.kind==0 then true else true) (.br (!bif s.down.kind==0 then (d.ps.get c).right.kind==0 else isF s.down (d.ps.get c).right) (.leaf (.tup (HX c d o)) ((Jb c d o
  s))) (.need (true) (.need (bif s.left.kind==0 then true else true) (.br (!bif s.left.kind==0 then (d.ps.get c).down.kind==0 else isF s.left (d.ps.get c).down) (.leaf (.tup
  (HX c d o)) ((Jb c d o s))) (.need (true) (.need (bif s.up.kind==0 then true else true) (.br (!bif s.up.kind==0 then (d.ps.get c).left.kind==0 else isF s.up (d.ps.get
  c).left) (.leaf (.tup (HX c d o)) ((Jb c d o s))) (.need (decide (o.length≤o.length)&&(true&&decide ((o.length+1+(o.length+1) / 4+192)*16≤281474976710656 ∧
  o.length+1≤9223372036854775807))) (.leaf (.tup [.nilp,.ptr 49 0 0,.ptr 16 0 0,.slz 776 0 (o.length+1) cO,vi (c:Int),.ptr 32 0 0,.slz 0 0 d.ps.n
  cO,vi (d.ps.n:Int),vi (c:Int),vj 4]) ([(YQ s),(QOW c o),(ZN c d),(YB d)])))))))))))))):=by kernel_rfl
theorem QZh(o:List QB)(c:Nat)(g:Nat→Value):exec (mkE Try.prog Kx) (hnd (mkE Try.prog Kx) 6) (Xu (QW Try.f43 0)) (JSt.inst (J9 d s o c 4) g) (KF [] jy) = .leaf (.tup [.ptr 2 0 0,.ptr 49 0 0,.ptr 16
  0 0,.slz 24 0 o.length cO,.slz 0 0 d.ps.n cO,vi (d.ps.n:Int),vi (c:Int)]) ([(YQ s),(QEj o),(YB d)]):=by kernel_rfl
def Gy(o:List QB)(c:Nat):JSt:=⟨49,[(3,.ptr 16 0 0),(4,.slz 24 0 o.length (.of 0)),(11,.slz 0 0 d.ps.n (.of 0)),(12,.int false .i64 d.ps.n),(13,.int false .i64 c)],[(16,.cells 7 33 (Enc.enc s).cells),KN 56 24 o ⟨0,0⟩]++Qw.blk 0 d.ps,40⟩
abbrev vx(o:List QB)(o':List QB):List Prop:=
  [0=0,0=0,0=0,o.length=o'.length]
abbrev WA(d:Puz):List Prop:=
  [cO=cO,(c:Int)=(c:Int),0=0,0=0,0=0,d.ps.n=d.ps.n,cO=cO,(d.ps.n:Int)=(d.ps.n:Int)]
abbrev Y8:List Prop:=
  [s.up.kind=s.up.kind,s.up.at_.lo=s.up.at_.lo,s.up.at_.hi=s.up.at_.hi,s.up.wide.lo=s.up.wide.lo]
abbrev Zg:List Prop:=
  [s.up.wide.hi=s.up.wide.hi,s.up.deep.lo=s.up.deep.lo,s.up.deep.hi=s.up.deep.hi,s.right.kind=s.right.kind,s.right.at_.lo=s.right.at_.lo,s.right.at_.hi =
  s.right.at_.hi,s.right.wide.lo=s.right.wide.lo,s.right.wide.hi=s.right.wide.hi,s.right.deep.lo=s.right.deep.lo,s.right.deep.hi=s.right.deep.hi,s.down.kind =
  s.down.kind,s.down.at_.lo=s.down.at_.lo,s.down.at_.hi=s.down.at_.hi,s.down.wide.lo=s.down.wide.lo,s.down.wide.hi=s.down.wide.hi,s.down.deep.lo=s.down.deep.lo,
  s.down.deep.hi=s.down.deep.hi,s.left.kind=s.left.kind,s.left.at_.lo=s.left.at_.lo,s.left.at_.hi=s.left.at_.hi,s.left.wide.lo=s.left.wide.lo,s.left.wide.hi =
  s.left.wide.hi,s.left.deep.lo=s.left.deep.lo,s.left.deep.hi=s.left.deep.hi]
abbrev WZ(d:Puz):List Prop:=
  [(d.ps.get c).up.kind=(d.ps.get c).up.kind,(d.ps.get c).up.at_.lo=(d.ps.get c).up.at_.lo,(d.ps.get c).up.at_.hi=(d.ps.get c).up.at_.hi,(d.ps.get c).up.wide.lo=(d.ps.get
  c).up.wide.lo,(d.ps.get c).up.wide.hi=(d.ps.get c).up.wide.hi,(d.ps.get c).up.deep.lo=(d.ps.get c).up.deep.lo,(d.ps.get c).up.deep.hi=(d.ps.get c).up.deep.hi,(d.ps.get
  c).right.kind=(d.ps.get c).right.kind,(d.ps.get c).right.at_.lo=(d.ps.get c).right.at_.lo,(d.ps.get c).right.at_.hi=(d.ps.get c).right.at_.hi,(d.ps.get c).right.wide.lo =
  (d.ps.get c).right.wide.lo,(d.ps.get c).right.wide.hi=(d.ps.get c).right.wide.hi,(d.ps.get c).right.deep.lo=(d.ps.get c).right.deep.lo,(d.ps.get c).right.deep.hi=(d.ps.get
  c).right.deep.hi,(d.ps.get c).down.kind=(d.ps.get c).down.kind,(d.ps.get c).down.at_.lo=(d.ps.get c).down.at_.lo,(d.ps.get c).down.at_.hi=(d.ps.get c).down.at_.hi,
  (d.ps.get c).down.wide.lo=(d.ps.get c).down.wide.lo,(d.ps.get c).down.wide.hi=(d.ps.get c).down.wide.hi,(d.ps.get c).down.deep.lo=(d.ps.get c).down.deep.lo,(d.ps.get
  c).down.deep.hi=(d.ps.get c).down.deep.hi,(d.ps.get c).left.kind=(d.ps.get c).left.kind,(d.ps.get c).left.at_.lo=(d.ps.get c).left.at_.lo,(d.ps.get c).left.at_.hi =
  (d.ps.get c).left.at_.hi,(d.ps.get c).left.wide.lo=(d.ps.get c).left.wide.lo,(d.ps.get c).left.wide.hi=(d.ps.get c).left.wide.hi,(d.ps.get c).left.deep.lo=(d.ps.get
  c).left.deep.lo,(d.ps.get c).left.deep.hi=(d.ps.get c).left.deep.hi,d.ps.n≤d.ps.n,QC 28 d.ps.n (fun i=>QA.enc (d.ps.get i)) fun i=>QA.enc (d.ps.get i)]
theorem QST(o o':List QB)(c:Nat):QL 8 [.ptr 16 0 0,.slz 24 0 o.length cO,vi (c:Int),.ptr 32 0 0,.slz 0 0 d.ps.n cO,vi (d.ps.n:Int),vi (c:Int),
  .int true .i64 1] ((Jb c d o s)) (J9 d s o' c 1)=(some ((vx o o')++(WA c d)++[(c:Int)=(c:Int),(1:Int)=1]++(Y8 s)++(Zg s)++[o'.length ≤
  o.length,QC 2 o'.length (fun i=>QA.enc (o.getD i ⟨0,0⟩)) fun i=>QA.enc (o'.getD i ⟨0,0⟩)]++(WZ c d))):=by kernel_rfl
abbrev Ht(o:List QB)(o':List QB):List Prop:=
  [0=0,0=0,0=0,o.length+1=o'.length]
theorem QRE(o o':List QB)(c:Nat):QL 8 [.ptr 16 0 0,.slz 776 0 (o.length+1) cO,vi (c:Int),.ptr 32 0 0,.slz 0 0 d.ps.n cO,vi (d.ps.n:Int),vi (c :
  Int),vj 1] ([(YQ s),(QJ6 c o),(ZN c d),(YB d)]) (J9 d s o' c 1)=(some ((Ht o o')++(WA c d)++[(c:Int)=(c:Int),(1:Int)=1]++(Y8 s)
  ++ (Zg s)++[o'.length≤o.length+1,QC 2 o'.length (Qa o.length (fun i=>QA.enc (o.getD i ⟨0,0⟩)) (QS [[vi (c:Int),vj 0]] 0)) fun i
  => QA.enc (o'.getD i ⟨0,0⟩)]++(WZ c d))):=by kernel_rfl
theorem QV5(o o':List QB)(c:Nat):QL 8 [.ptr 16 0 0,.slz 24 0 o.length cO,vi (c:Int),.ptr 32 0 0,.slz 0 0 d.ps.n cO,vi (d.ps.n:Int),vi (c:Int),
  .int true .i64 2] ((Jb c d o s)) (J9 d s o' c 2)=(some ((vx o o')++(WA c d)++[(c:Int)=(c:Int),(2:Int)=2]++(Y8 s)++(Zg s)++[o'.length ≤
  o.length,QC 2 o'.length (fun i=>QA.enc (o.getD i ⟨0,0⟩)) fun i=>QA.enc (o'.getD i ⟨0,0⟩)]++(WZ c d))):=by kernel_rfl
theorem QWy(o o':List QB)(c:Nat):QL 8 [.ptr 16 0 0,.slz 776 0 (o.length+1) cO,vi (c:Int),.ptr 32 0 0,.slz 0 0 d.ps.n cO,vi (d.ps.n:Int),vi (c :
  Int),vj 2] ([(YQ s),(QIX c o),(ZN c d),(YB d)]) (J9 d s o' c 2)=(some ((Ht o o')++(WA c d)++[(c:Int)=(c:Int),(2:Int)=2]++(Y8
  s)++(Zg s)++[o'.length≤o.length+1,QC 2 o'.length (Qa o.length (fun i=>QA.enc (o.getD i ⟨0,0⟩)) (QS [[vi (c:Int),vj 1]] 0)) fun
  i=>QA.enc (o'.getD i ⟨0,0⟩)]++(WZ c d))):=by kernel_rfl
theorem QSP(o o':List QB)(c:Nat):QL 8 [.ptr 16 0 0,.slz 24 0 o.length cO,vi (c:Int),.ptr 32 0 0,.slz 0 0 d.ps.n cO,vi (d.ps.n:Int),vi (c:Int),
  .int true .i64 3] ((Jb c d o s)) (J9 d s o' c 3)=(some ((vx o o')++(WA c d)++[(c:Int)=(c:Int),(3:Int)=3]++(Y8 s)++(Zg s)++[o'.length ≤
  o.length,QC 2 o'.length (fun i=>QA.enc (o.getD i ⟨0,0⟩)) fun i=>QA.enc (o'.getD i ⟨0,0⟩)]++(WZ c d))):=by kernel_rfl
theorem QU9(o o':List QB)(c:Nat):QL 8 [.ptr 16 0 0,.slz 776 0 (o.length+1) cO,vi (c:Int),.ptr 32 0 0,.slz 0 0 d.ps.n cO,vi (d.ps.n:Int),vi (c :
  Int),vj 3] ([(YQ s),(QJb c o),(ZN c d),(YB d)]) (J9 d s o' c 3)=(some ((Ht o o')++(WA c d)++[(c:Int)=(c:Int),(3:Int)=3]++(Y8
  s)++(Zg s)++[o'.length≤o.length+1,QC 2 o'.length (Qa o.length (fun i=>QA.enc (o.getD i ⟨0,0⟩)) (QS [[vi (c:Int),vj 2]] 0)) fun
  i=>QA.enc (o'.getD i ⟨0,0⟩)]++(WZ c d))):=by kernel_rfl
theorem QXl(o o':List QB)(c:Nat):QL 8 [.ptr 16 0 0,.slz 24 0 o.length cO,vi (c:Int),.ptr 32 0 0,.slz 0 0 d.ps.n cO,vi (d.ps.n:Int),vi (c:Int),
  .int true .i64 4] ((Jb c d o s)) (J9 d s o' c 4)=(some ((vx o o')++(WA c d)++[(c:Int)=(c:Int),(4:Int)=4]++(Y8 s)++(Zg s)++[o'.length ≤
  o.length,QC 2 o'.length (fun i=>QA.enc (o.getD i ⟨0,0⟩)) fun i=>QA.enc (o'.getD i ⟨0,0⟩)]++(WZ c d))):=by kernel_rfl
theorem QWv(o o':List QB)(c:Nat):QL 8 [.ptr 16 0 0,.slz 776 0 (o.length+1) cO,vi (c:Int),.ptr 32 0 0,.slz 0 0 d.ps.n cO,vi (d.ps.n:Int),vi (c :
  Int),vj 4] ([(YQ s),(QOW c o),(ZN c d),(YB d)]) (J9 d s o' c 4)=(some ((Ht o o')++(WA c d)++[(c:Int)=(c:Int),(4:Int)=4]++(Y8
  s)++(Zg s)++[o'.length≤o.length+1,QC 2 o'.length (Qa o.length (fun i=>QA.enc (o.getD i ⟨0,0⟩)) (QS [[vi (c:Int),vj 3]] 0)) fun
  i=>QA.enc (o'.getD i ⟨0,0⟩)]++(WZ c d))):=by kernel_rfl
theorem QTi(o o':List QB)(c:Nat):QL 8 [.ptr 16 0 0,.slz 24 0 o.length cO,.slz 0 0 d.ps.n cO,vi (d.ps.n:Int),vi (c:Int)] ([(YQ s),(QEj o),(YB d)]) (Gy d s
  o' c)=(some ((vx o o')++[cO=cO,0=0,d.ps.n=d.ps.n,cO=cO,(d.ps.n:Int)=(d.ps.n:Int),(c:Int)=(c:Int)]++(Y8 s)++(Zg s)
  ++ [o'.length≤o.length,QC 2 o'.length (fun i=>QA.enc (o.getD i ⟨0,0⟩)) fun i=>QA.enc (o'.getD i ⟨0,0⟩),d.ps.n≤d.ps.n,QC 28 d.ps.n (fun i=>QA.enc
  (d.ps.get i)) fun i=>QA.enc (d.ps.get i)])):=by kernel_rfl
end Go.Proofs.Ytbpffdkemeoajaa
namespace Go.SX
open Go Go.RowKit Go.Proofs.Ytbpffdkemeoajaa
variable {Q:AV→List (Nat×Blk)→Prop}
theorem QBG{q0 q1 q2 q3 m0 m1 m2 m3 n0 n1 n2 n3:Bool}{L0 L1 L2 L3 K:QD}(hm0:m0=true)(hm1:m1=true)(hm2:m2=true)(hm3:m3=true)(h0:n0=true)(h1:n1=true)(h2:n2=true)(h3:n3=true)(hno:(q0&&(q1&&(q2&&q3)))=false→L0.den Q∧L1.den Q∧L2.den Q∧L3.den Q)(hyes:(q0&&(q1&&(q2&&q3)))=true→K.den Q):
  (QD.need m0 (.need n0 (.br (!q0) L0 (.need m1 (.need n1 (.br (!q1) L1 (.need m2 (.need n2 (.br (!q2) L2 (.need m3 (.need n3 (.br (!q3) L3 K)))))))))))).den Q:=by
 subst hm0 hm1 hm2 hm3 h0 h1 h2 h3;refine QF rfl (QF rfl (QI (fun h => ?_) (fun h=>QF rfl (QF rfl (QI (fun h' => ?_) (fun h'=>QF rfl (QF rfl (QI (fun h'' => ?_) (fun h''=>QF rfl (QF rfl (QI (fun h''' => ?_) (fun h''' => ?_)))))))))))) 
 ·exact(hno (by cases q0<;>simp_all)).1
 ·exact(hno (by cases q0<;>cases q1<;>simp_all)).2.1
 ·exact(hno (by cases q0<;>cases q1<;>cases q2<;>simp_all)).2.2.1
 ·exact(hno (by cases q0<;>cases q1<;>cases q2<;>cases q3<;>simp_all)).2.2.2
 ·exact hyes (by cases q0<;>cases q1<;>cases q2<;>cases q3<;>simp_all)
theorem Wn{t t':QD}(e:t=t')(h:t'.den Q):Xo Q t:=⟨e ▸ h⟩
end Go.SX
namespace Go.Proofs.Ytbpffdkemeoajaa
open Go.SX
def isS(x y:Edge):Bool:=cond (x.kind==0) (y.kind==0) (isF x y)
variable (d:Puz)(s:QT)
def Yy(c t:Nat):Bool:=isS (YX s ((0+4-t) % 4)) (YX (d.ps.get c) 0)&&(isS (YX s ((1+4-t) % 4)) (YX (d.ps.get c) 1)&&(isS (YX s ((2+4-t) % 4)) (YX (d.ps.get c) 2)&&isS (YX s ((3+4-t) % 4)) (YX (d.ps.get c) 3)))
def XU(q:Bool)(l:List QB)(c t:Nat):List QB:=match q with
 | true=>l++[⟨c,t⟩]
 | false=>l
def KX(d:Puz)(s:QT)(l:List QB)(c:Nat):Nat→List QB
 | 0=>l
 | t+1=>XU (Yy d s c t) (KX d s l c t) c t
def KP(d:Puz)(s:QT):Nat→List QB
 | 0=>[]
 | c+1=>KX d s (KP d s c) c 4
theorem QZX(q:Bool)(l:List QB)(c t:Nat):(XU q l c t).length≤l.length+1:=by
 cases q<;>simp[XU]
theorem QEi(d:Puz)(s:QT)(l:List QB)(c:Nat):∀ t,(KX d s l c t).length≤l.length+t
 | 0=>qlr _
 | t+1=>by
  have:=QEi d s l c t;have:=QZX (Yy d s c t) (KX d s l c t) c t;simp only[KX];omega
theorem G6(d:Puz)(s:QT):∀ c,(KP d s c).length≤4*c
 | 0=>qlr _
 | c+1=>by
  have:=G6 d s c;have:=QEi d s (KP d s c) c 4;simp only[KP];omega
theorem Hd(o:List QB)(c t:Nat):QC 2 (o++[(⟨c,t⟩:QB)]).length (Qa o.length (fun i=>QA.enc (o.getD i ⟨0,0⟩)) (QS [[AV.int false i64 c,AV.int true i64 t]] 0)) (fun i=>QA.enc ((o++[(⟨c,t⟩:QB)]).getD i ⟨0,0⟩)):=by
 intro i hi;rw[List.length_append,List.length_singleton]at hi
 have key:∀ j,Qa o.length (fun i=>QA.enc (o.getD i ⟨0,0⟩)) (QS [[AV.int false i64 c,AV.int true i64 t]] 0) i j=if i<o.length then QA.enc (o.getD i ⟨0,0⟩) j else ZM [AV.int false i64 c,AV.int true i64 t] j:=by
  intro j;rw[X6];split
  ·rfl
  ·rename_i h;have:i=o.length:=by omega
   subst this;simp[QS]
 have e:i<o.length→(o++[(⟨c,t⟩:QB)]).getD i ⟨0,0⟩=o.getD i ⟨0,0⟩:=fun h=>by rw[List.getD_eq_getElem?_getD,List.getD_eq_getElem?_getD,List.getElem?_append_left h]
 have e2:¬ i<o.length→(o++[(⟨c,t⟩:QB)]).getD i ⟨0,0⟩=⟨c,t⟩:=fun h=>by
  have:i=o.length:=by omega
  subst this;simp
 refine⟨?_,?_,trivial⟩
 ·show Qa _ _ _ i 0=QA.enc ((o++[(⟨c,t⟩:QB)]).getD i ⟨0,0⟩) 0;rw[key 0];split
  ·rename_i h;rw[e h]
  ·rename_i h;rw[e2 h];rfl
 ·show Qa _ _ _ i 1=QA.enc ((o++[(⟨c,t⟩:QB)]).getD i ⟨0,0⟩) 1;rw[key 1];split
  ·rename_i h;rw[e h]
  ·rename_i h;rw[e2 h];rfl
theorem QRj(o:List QB)(c:Nat)(ho:o.length≤4000):K0 (fun t=>J9 d s (KX d s o c t) c t) (fun t=>t≤4) (fun t=>4-t) (fun _ e J=>e = .exit 2∧J=Gy d s (KX d s o c 4) c) 8 jy [] (mkE Try.prog Kx) (fun _=>hnd (mkE Try.prog Kx) 6) (Xu (QW Try.f43 0)):=by
 refine⟨fun t g ht => ?_⟩;have nd:∀ b:Bool,(cond b true true)=true:=fun b=>by cases b<;>rfl
 have hlen:=QEi d s o c t;rcases(by have:=ht;omega:t=0∨t=1∨t=2∨t=3∨t=4)with rfl|rfl|rfl|rfl|rfl
 ·refine Wn (QUJ d s _ c g) (QBG rfl rfl rfl rfl (nd _) (nd _) (nd _) (nd _) (fun hq => ?_) (fun hq => ?_))
  ·have hq:Yy d s c 0=false:=hq;have e:KX d s o c 1=KX d s o c 0:=by simp only[KX,hq,XU]
   refine⟨?_,?_,?_,?_⟩<;>(
    refine⟨1,by decide,by decide,fun _ _ h=>h,rfl,rfl,_,QST _ _ _ _ _,?_⟩
    rw[e]
    repeat' first|exact trivial|with_reducible rfl|exact qlr _|exact qRr|refine And.intro ?_ ?_)
  ·have hq:Yy d s c 0=true:=hq;have e:KX d s o c 1=KX d s o c 0++[⟨(c:Nat),(0:Nat)⟩]:=by simp only[KX,hq,XU]
   refine QF (by simp;omega) ⟨1,by decide,by decide,fun _ _ h=>h,rfl,rfl,_,QRE _ _ _ _ _,?_⟩
   rw[e]
   repeat' first|exact trivial|with_reducible rfl|exact qlr _|exact qRr|refine And.intro ?_ ?_
   ·simp
   ·simp
   ·exact Hd _ c 0
 ·refine Wn (QZs d s _ c g) (QBG rfl rfl rfl rfl (nd _) (nd _) (nd _) (nd _) (fun hq => ?_) (fun hq => ?_))
  ·have hq:Yy d s c 1=false:=hq;have e:KX d s o c 2=KX d s o c 1:=by simp only[KX,hq,XU]
   refine⟨?_,?_,?_,?_⟩<;>(
    refine⟨2,by decide,by decide,fun _ _ h=>h,rfl,rfl,_,QV5 _ _ _ _ _,?_⟩
    rw[e]
    repeat' first|exact trivial|with_reducible rfl|exact qlr _|exact qRr|refine And.intro ?_ ?_)
  ·have hq:Yy d s c 1=true:=hq;have e:KX d s o c 2=KX d s o c 1++[⟨(c:Nat),(1:Nat)⟩]:=by simp only[KX,hq,XU]
   refine QF (by simp;omega) ⟨2,by decide,by decide,fun _ _ h=>h,rfl,rfl,_,QWy _ _ _ _ _,?_⟩
   rw[e]
   repeat' first|exact trivial|with_reducible rfl|exact qlr _|exact qRr|refine And.intro ?_ ?_
   ·simp
   ·simp
   ·exact Hd _ c 1
 ·refine Wn (QVH d s _ c g) (QBG rfl rfl rfl rfl (nd _) (nd _) (nd _) (nd _) (fun hq => ?_) (fun hq => ?_))
  ·have hq:Yy d s c 2=false:=hq;have e:KX d s o c 3=KX d s o c 2:=by simp only[KX,hq,XU]
   refine⟨?_,?_,?_,?_⟩<;>(
    refine⟨3,by decide,by decide,fun _ _ h=>h,rfl,rfl,_,QSP _ _ _ _ _,?_⟩
    rw[e]
    repeat' first|exact trivial|with_reducible rfl|exact qlr _|exact qRr|refine And.intro ?_ ?_)
  ·have hq:Yy d s c 2=true:=hq;have e:KX d s o c 3=KX d s o c 2++[⟨(c:Nat),(2:Nat)⟩]:=by simp only[KX,hq,XU]
   refine QF (by simp;omega) ⟨3,by decide,by decide,fun _ _ h=>h,rfl,rfl,_,QU9 _ _ _ _ _,?_⟩
   rw[e]
   repeat' first|exact trivial|with_reducible rfl|exact qlr _|exact qRr|refine And.intro ?_ ?_
   ·simp
   ·simp
   ·exact Hd _ c 2
 ·refine Wn (QPH d s _ c g) (QBG rfl rfl rfl rfl (nd _) (nd _) (nd _) (nd _) (fun hq => ?_) (fun hq => ?_))
  ·have hq:Yy d s c 3=false:=hq;have e:KX d s o c 4=KX d s o c 3:=by simp only[KX,hq,XU]
   refine⟨?_,?_,?_,?_⟩<;>(
    refine⟨4,by decide,by decide,fun _ _ h=>h,rfl,rfl,_,QXl _ _ _ _ _,?_⟩
    rw[e]
    repeat' first|exact trivial|with_reducible rfl|exact qlr _|exact qRr|refine And.intro ?_ ?_)
  ·have hq:Yy d s c 3=true:=hq;have e:KX d s o c 4=KX d s o c 3++[⟨(c:Nat),(3:Nat)⟩]:=by simp only[KX,hq,XU]
   refine QF (by simp;omega) ⟨4,by decide,by decide,fun _ _ h=>h,rfl,rfl,_,QWv _ _ _ _ _,?_⟩
   rw[e]
   repeat' first|exact trivial|with_reducible rfl|exact qlr _|exact qRr|refine And.intro ?_ ?_
   ·simp
   ·simp
   ·exact Hd _ c 3
 ·refine Wn (QZh d s _ c g) ?_;refine⟨_,⟨rfl,rfl⟩,rfl,rfl,_,QTi _ _ _ _ _,?_⟩
  repeat' first|exact trivial|with_reducible rfl|exact qlr _|exact qRr|refine And.intro ?_ ?_
end Go.Proofs.Ytbpffdkemeoajaa
