/- - -/
import Derived.Test.YtbpffdkemeoajaaMvr
open Go.IntKind (i64)
set_option maxRecDepth 100000
namespace Go.Proofs.Ytbpffdkemeoajaa
open Go.SX
variable (d:Puz)(c:Nat)(g:Nat→Value)
def GF:List AV:=[.int false .i64 d.play.length,.int false .i64 d.play.slack,.int false .i64 d.play.loose,.int false .i64 d.play.damp.lo,.int false .i64 d.play.damp.hi,.int false .i64 d.wide,.int false .i64 d.high,.bool false d.turn,.slz 0 0 d.ps.n (.of 0)]
def HD:JSt:=⟨62,[(1,.ptr 8 0 0),(16,.slz 0 0 d.ps.n (.of 0)),(17,.int false .i64 d.ps.n),(18,.int false .i64 c)],[(8,.cells 0 28 (GF d))]++Qz.blk 0 d.ps,96⟩
def QGY:Ex→List Nat
 | .normal=>[1,16,17,18]
 | .exit _=>[]
 | .ret=>[2,3,4]
noncomputable abbrev QGq:List AV:=
  [.nili,.ptr 62 0 0,vi (c:Int),vj 0,vj 0]
noncomputable abbrev GH:List AV:=
  [.nili,.ptr 62 0 0,vi (c:Int),vj 1,vj 0]
noncomputable abbrev ZG:List AV:=
  [.nili,.ptr 62 0 0,vi (c:Int),vj 2,vj 0]
noncomputable abbrev VO:List AV:=
  [.nili,.ptr 62 0 0,vi (c:Int),vj 3,vj 0]
noncomputable abbrev VF(d:Puz):List AV:=
  [.nilp,.ptr 62 0 0,.ptr 8 0 0,.slz 0 0 d.ps.n cO,vi (d.ps.n:Int),vi (i64.wrap ((c:Int)+1))]
noncomputable abbrev J7:List (Nat×Blk):=
  [(8,.cells 0 28 [vi d.play.length,vi d.play.slack,vi d.play.loose,vi d.play.damp.lo,vi d.play.damp.hi,.int
  false .i64 d.wide,vi d.high,.bool false d.turn,.slz 0 0 d.ps.n cO]),(0,.frz [.int .i64,.int .i64,.int .i64,.int .i64,.int .i64,.int .i64,.int .i64,
  .int .i64,.int .i64,.int .i64,.int .i64,.int .i64,.int .i64,.int .i64,.int .i64,.int .i64,.int .i64,.int .i64,.int .i64,.int .i64,.int .i64,.int .i64,.int .i64,.int
  .i64,.int .i64,.int .i64,.int .i64,.int .i64] d.ps.n fun i=>QA.enc (d.ps.get i))]
theorem QOD :exec (mkE Try.prog Xx) (hnd (mkE Try.prog Xx) 6) (Qa Try.f13 0) (JSt.inst (HD d c) g) (KL [] QGY) = .br (decide ((c:Int)<(d.ps.n:Int))) (.need
  (decide ((0:Int)≤(c:Int)∧(c:Int)<(d.ps.n:Int))&&decide (d.ps.n≤d.ps.n)) (.need (decide (c<d.ps.n)) (.need (decide (d.ps.n≤d.ps.n)&&(true&&(true&&true))
  && decide (((1:Int)≤d.wide∧d.wide≤100)∧((1:Int)≤d.high∧d.high≤100)∧(0:Int)≤(c:Int)∧(c:Int)≤100)) (.br (QN d.wide d.high (c:Int) (0:Int) == -1)
  (.br ((d.ps.get c).up.kind != 0) (.leaf (.tup (QGq c)) ([])) (.need (decide (d.ps.n≤d.ps.n)&&(true&&(true&&true))&&decide (((1:Int)≤d.wide∧d.wide≤100)∧((1 :
  Int)≤d.high∧d.high≤100)∧(0:Int)≤(c:Int)∧(c:Int)≤100)) (.br (QN d.wide d.high (c:Int) (1:Int) == -1) (.br ((d.ps.get c).right.kind != 0) (.leaf (.tup (GH
  c)) ([])) (.need (decide (d.ps.n≤d.ps.n)&&(true&&(true&&true))&&decide (((1:Int)≤d.wide∧d.wide≤100)∧((1:Int)≤d.high∧d.high≤100)∧(0:Int)≤(c:Int) ∧
  (c:Int)≤100)) (.br (QN d.wide d.high (c:Int) (2:Int) == -1) (.br ((d.ps.get c).down.kind != 0) (.leaf (.tup (ZG c)) ([])) (.need (decide (d.ps.n≤d.ps.n)&&(true &&
  (true&&true))&&decide (((1:Int)≤d.wide∧d.wide≤100)∧((1:Int)≤d.high∧d.high≤100)∧(0:Int)≤(c:Int)∧(c:Int)≤100)) (.br (QN d.wide d.high (c:Int)
  (3:Int) == -1) (.br ((d.ps.get c).left.kind != 0) (.leaf (.tup (VO c)) ([])) (.leaf (.tup (VF c d)) ((J7 d)))) (.need (decide ((0:Int)≤QN d.wide d.high (c:Int) (3 :
  Int)∧QN d.wide d.high (c:Int) (3:Int)<(d.ps.n:Int))&&decide (d.ps.n≤d.ps.n)) (.need (decide ((QN d.wide d.high (c:Int) (3:Int)).toNat<d.ps.n)) (.need (true)
  (.br ((Qw d.play (d.ps.get c).left (d.ps.get (QN d.wide d.high (c:Int) (3:Int)).toNat).right).1 != 2) (.leaf (.tup (VO c)) ([])) (.leaf (.tup (VF c d)) ((J7
  d)))))))))) (.need (decide ((0:Int)≤QN d.wide d.high (c:Int) (2:Int)∧QN d.wide d.high (c:Int) (2:Int)<(d.ps.n:Int))&&decide (d.ps.n≤d.ps.n)) (.need (decide
  ((QN d.wide d.high (c:Int) (2:Int)).toNat<d.ps.n)) (.need (true) (.br ((Qw d.play (d.ps.get c).down (d.ps.get (QN d.wide d.high (c:Int) (2:Int)).toNat).up).1 != 2)
  (.leaf (.tup (ZG c)) ([])) (.need (decide (d.ps.n≤d.ps.n)&&(true&&(true&&true))&&decide (((1:Int)≤d.wide∧d.wide≤100)∧((1:Int)≤d.high∧d.high≤100)∧(0 :
  Int)≤(c:Int)∧(c:Int)≤100)) (.br (QN d.wide d.high (c:Int) (3:Int) == -1) (.br ((d.ps.get c).left.kind != 0) (.leaf (.tup (VO c)) ([])) (.leaf (.tup (VF c d))
  ((J7 d)))) (.need (decide ((0:Int)≤QN d.wide d.high (c:Int) (3:Int)∧QN d.wide d.high (c:Int) (3:Int)<(d.ps.n:Int))&&decide (d.ps.n≤d.ps.n)) (.need
  (decide ((QN d.wide d.high (c:Int) (3:Int)).toNat<d.ps.n)) (.need (true) (.br ((Qw d.play (d.ps.get c).left (d.ps.get (QN d.wide d.high (c:Int) (3 :
  Int)).toNat).right).1 != 2) (.leaf (.tup (VO c)) ([])) (.leaf (.tup (VF c d)) ((J7 d)))))))))))))))) (.need (decide ((0:Int)≤QN d.wide d.high (c:Int) (1:Int)∧QN
  d.wide d.high (c:Int) (1:Int)<(d.ps.n:Int))&&decide (d.ps.n≤d.ps.n)) (.need (decide ((QN d.wide d.high (c:Int) (1:Int)).toNat<d.ps.n)) (.need (true) (.br ((Qw
  d.play (d.ps.get c).right (d.ps.get (QN d.wide d.high (c:Int) (1:Int)).toNat).left).1 != 2) (.leaf (.tup (GH c)) ([])) (.need (decide (d.ps.n≤d.ps.n)&&(true&&(true &&
  true))&&decide (((1:Int)≤d.wide∧d.wide≤100)∧((1:Int)≤d.high∧d.high≤100)∧(0:Int)≤(c:Int)∧(c:Int)≤100)) (.br (QN d.wide d.high (c:Int) (2:Int)
  == -1) (.br ((d.ps.get c).down.kind != 0) (.leaf (.tup (ZG c)) ([])) (.need (decide (d.ps.n≤d.ps.n)&&(true&&(true&&true))&&decide (((1:Int)≤d.wide∧d.wide≤100) ∧
  ((1:Int)≤d.high∧d.high≤100)∧(0:Int)≤(c:Int)∧(c:Int)≤100)) (.br (QN d.wide d.high (c:Int) (3:Int) == -1) (.br ((d.ps.get c).left.kind != 0) (.leaf (.tup
  (VO c)) ([])) (.leaf (.tup (VF c d)) ((J7 d)))) (.need (decide ((0:Int)≤QN d.wide d.high (c:Int) (3:Int)∧QN d.wide d.high (c:Int) (3:Int)<(d.ps.n:Int))
  && decide (d.ps.n≤d.ps.n)) (.need (decide ((QN d.wide d.high (c:Int) (3:Int)).toNat<d.ps.n)) (.need (true) (.br ((Qw d.play (d.ps.get c).left (d.ps.get (QN d.wide
  d.high (c:Int) (3:Int)).toNat).right).1 != 2) (.leaf (.tup (VO c)) ([])) (.leaf (.tup (VF c d)) ((J7 d)))))))))) (.need (decide ((0:Int)≤QN d.wide d.high (c:Int)
  (2:Int)∧QN d.wide d.high (c:Int) (2:Int)<(d.ps.n:Int))&&decide (d.ps.n≤d.ps.n)) (.need (decide ((QN d.wide d.high (c:Int) (2:Int)).toNat<d.ps.n)) (.need
  (true) (.br ((Qw d.play (d.ps.get c).down (d.ps.get (QN d.wide d.high (c:Int) (2:Int)).toNat).up).1 != 2) (.leaf (.tup (ZG c)) ([])) (.need (decide (d.ps.n≤d.ps.n) &&
  (true&&(true&&true))&&decide (((1:Int)≤d.wide∧d.wide≤100)∧((1:Int)≤d.high∧d.high≤100)∧(0:Int)≤(c:Int)∧(c:Int)≤100)) (.br (QN d.wide d.high (c
  : Int) (3:Int) == -1) (.br ((d.ps.get c).left.kind != 0) (.leaf (.tup (VO c)) ([])) (.leaf (.tup (VF c d)) ((J7 d)))) (.need (decide ((0:Int)≤QN d.wide d.high (c :
  Int) (3:Int)∧QN d.wide d.high (c:Int) (3:Int)<(d.ps.n:Int))&&decide (d.ps.n≤d.ps.n)) (.need (decide ((QN d.wide d.high (c:Int) (3:Int)).toNat<d.ps.n))
  (.need (true) (.br ((Qw d.play (d.ps.get c).left (d.ps.get (QN d.wide d.high (c:Int) (3:Int)).toNat).right).1 != 2) (.leaf (.tup (VO c)) ([])) (.leaf (.tup (VF c d))
  ((J7 d)))))))))))))))))))))) (.need (decide ((0:Int)≤QN d.wide d.high (c:Int) (0:Int)∧QN d.wide d.high (c:Int) (0:Int)<(d.ps.n:Int))&&decide (d.ps.n ≤
  d.ps.n)) (.need (decide ((QN d.wide d.high (c:Int) (0:Int)).toNat<d.ps.n)) (.need (true) (.br ((Qw d.play (d.ps.get c).up (d.ps.get (QN d.wide d.high (c:Int) (0 :
  Int)).toNat).down).1 != 2) (.leaf (.tup (QGq c)) ([])) (.need (decide (d.ps.n≤d.ps.n)&&(true&&(true&&true))&&decide (((1:Int)≤d.wide∧d.wide≤100)∧((1:Int) ≤
  d.high∧d.high≤100)∧(0:Int)≤(c:Int)∧(c:Int)≤100)) (.br (QN d.wide d.high (c:Int) (1:Int) == -1) (.br ((d.ps.get c).right.kind != 0) (.leaf (.tup (GH c))
  ([])) (.need (decide (d.ps.n≤d.ps.n)&&(true&&(true&&true))&&decide (((1:Int)≤d.wide∧d.wide≤100)∧((1:Int)≤d.high∧d.high≤100)∧(0:Int)≤(c:Int)∧(c
  : Int)≤100)) (.br (QN d.wide d.high (c:Int) (2:Int) == -1) (.br ((d.ps.get c).down.kind != 0) (.leaf (.tup (ZG c)) ([])) (.need (decide (d.ps.n≤d.ps.n)&&(true&&(true
  && true))&&decide (((1:Int)≤d.wide∧d.wide≤100)∧((1:Int)≤d.high∧d.high≤100)∧(0:Int)≤(c:Int)∧(c:Int)≤100)) (.br (QN d.wide d.high (c:Int) (3 :
  Int) == -1) (.br ((d.ps.get c).left.kind != 0) (.leaf (.tup (VO c)) ([])) (.leaf (.tup (VF c d)) ((J7 d)))) (.need (decide ((0:Int)≤QN d.wide d.high (c:Int) (3:Int)
  ∧ QN d.wide d.high (c:Int) (3:Int)<(d.ps.n:Int))&&decide (d.ps.n≤d.ps.n)) (.need (decide ((QN d.wide d.high (c:Int) (3:Int)).toNat<d.ps.n)) (.need (true) (.br
  ((Qw d.play (d.ps.get c).left (d.ps.get (QN d.wide d.high (c:Int) (3:Int)).toNat).right).1 != 2) (.leaf (.tup (VO c)) ([])) (.leaf (.tup (VF c d)) ((J7 d))))))))))
  (.need (decide ((0:Int)≤QN d.wide d.high (c:Int) (2:Int)∧QN d.wide d.high (c:Int) (2:Int)<(d.ps.n:Int))&&decide (d.ps.n≤d.ps.n)) (.need (decide ((QN
  d.wide d.high (c:Int) (2:Int)).toNat<d.ps.n)) (.need (true) (.br ((Qw d.play (d.ps.get c).down (d.ps.get (QN d.wide d.high (c:Int) (2:Int)).toNat).up).1 != 2) (.leaf
  (.tup (ZG c)) ([])) (.need (decide (d.ps.n≤d.ps.n)&&(true&&(true&&true))&&decide (((1:Int)≤d.wide∧d.wide≤100)∧((1:Int)≤d.high∧d.high≤100)∧(0:Int) ≤
  (c:Int)∧(c:Int)≤100)) (.br (QN d.wide d.high (c:Int) (3:Int) == -1) (.br ((d.ps.get c).left.kind != 0) (.leaf (.tup (VO c)) ([])) (.leaf (.tup (VF c d)) ((J7
  d)))) (.need (decide ((0:Int)≤QN d.wide d.high (c:Int) (3:Int)∧QN d.wide d.high (c:Int) (3:Int)<(d.ps.n:Int))&&decide (d.ps.n≤d.ps.n)) (.need (decide
  ((QN d.wide d.high (c:Int) (3:Int)).toNat<d.ps.n)) (.need (true) (.br ((Qw d.play (d.ps.get c).left (d.ps.get (QN d.wide d.high (c:Int) (3:Int)).toNat).right).1 !=
  2) (.leaf (.tup (VO c)) ([])) (.leaf (.tup (VF c d)) ((J7 d)))))))))))))))) (.need (decide ((0:Int)≤QN d.wide d.high (c:Int) (1:Int)∧QN d.wide d.high (c:Int)
  (1:Int)<(d.ps.n:Int))&&decide (d.ps.n≤d.ps.n)) (.need (decide ((QN d.wide d.high (c:Int) (1:Int)).toNat<d.ps.n)) (.need (true) (.br ((Qw d.play (d.ps.get
  c).right (d.ps.get (QN d.wide d.high (c:Int) (1:Int)).toNat).left).1 != 2) (.leaf (.tup (GH c)) ([])) (.need (decide (d.ps.n≤d.ps.n)&&(true&&(true&&true))&&decide
  (((1:Int)≤d.wide∧d.wide≤100)∧((1:Int)≤d.high∧d.high≤100)∧(0:Int)≤(c:Int)∧(c:Int)≤100)) (.br (QN d.wide d.high (c:Int) (2:Int) == -1) (.br
  ((d.ps.get c).down.kind != 0) (.leaf (.tup (ZG c)) ([])) (.need (decide (d.ps.n≤d.ps.n)&&(true&&(true&&true))&&decide (((1:Int)≤d.wide∧d.wide≤100)∧((1:Int) ≤
  d.high∧d.high≤100)∧(0:Int)≤(c:Int)∧(c:Int)≤100)) (.br (QN d.wide d.high (c:Int) (3:Int) == -1) (.br ((d.ps.get c).left.kind != 0) (.leaf (.tup (VO c))
  ([])) (.leaf (.tup (VF c d)) ((J7 d)))) (.need (decide ((0:Int)≤QN d.wide d.high (c:Int) (3:Int)∧QN d.wide d.high (c:Int) (3:Int)<(d.ps.n:Int))&&decide
  (d.ps.n≤d.ps.n)) (.need (decide ((QN d.wide d.high (c:Int) (3:Int)).toNat<d.ps.n)) (.need (true) (.br ((Qw d.play (d.ps.get c).left (d.ps.get (QN d.wide d.high (c :
  Int) (3:Int)).toNat).right).1 != 2) (.leaf (.tup (VO c)) ([])) (.leaf (.tup (VF c d)) ((J7 d)))))))))) (.need (decide ((0:Int)≤QN d.wide d.high (c:Int) (2:Int) ∧
  QN d.wide d.high (c:Int) (2:Int)<(d.ps.n:Int))&&decide (d.ps.n≤d.ps.n)) (.need (decide ((QN d.wide d.high (c:Int) (2:Int)).toNat<d.ps.n)) (.need (true) (.br
  ((Qw d.play (d.ps.get c).down (d.ps.get (QN d.wide d.high (c:Int) (2:Int)).toNat).up).1 != 2) (.leaf (.tup (ZG c)) ([])) (.need (decide (d.ps.n≤d.ps.n)&&(true&&(true
  && true))&&decide (((1:Int)≤d.wide∧d.wide≤100)∧((1:Int)≤d.high∧d.high≤100)∧(0:Int)≤(c:Int)∧(c:Int)≤100)) (.br (QN d.wide d.high (c:Int) (3 :
  Int) == -1) (.br ((d.ps.get c).left.kind != 0) (.leaf (.tup (VO c)) ([])) (.leaf (.tup (VF c d)) ((J7 d)))) (.need (decide ((0:Int)≤QN d.wide d.high (c:Int) (3:Int)
  ∧ QN d.wide d.high (c:Int) (3:Int)<(d.ps.n:Int))&&decide (d.ps.n≤d.ps.n)) (.need (decide ((QN d.wide d.high (c:Int) (3:Int)).toNat<d.ps.n)) (.need (true) (.br
  ((Qw d.play (d.ps.get c).left (d.ps.get (QN d.wide d.high (c:Int) (3:Int)).toNat).right).1 != 2) (.leaf (.tup (VO c)) ([])) (.leaf (.tup (VF c d)) ((J7
  d))))))))))))))))))))))))))))) (.leaf (.tup [.ptr 0 0 0,.ptr 62 0 0]) ([])):=by kernel_rfl
def jQ(c s:Nat):JSt:=⟨62,[(2,.int false .i64 c),(3,.int false .i64 s),(4,.int false .i64 0)],[],96⟩
def QDL:JSt:=⟨62,[],[],96⟩
theorem QNM(c c' s':Nat):QK 8 [AV.int false i64 (↑c:Int),AV.int true i64 (0:Int),AV.int true i64 (0:Int)] ([]) (jQ c' s')=(
  some [(↑c:Int)=(↑c':Int),(0:Int)=(↑s':Int),(0:Int)=(0:Int)]):=by kernel_rfl
theorem QSI(c c' s':Nat):QK 8 [AV.int false i64 (↑c:Int),AV.int true i64 (1:Int),AV.int true i64 (0:Int)] ([]) (jQ c' s')=(
  some [(↑c:Int)=(↑c':Int),(1:Int)=(↑s':Int),(0:Int)=(0:Int)]):=by kernel_rfl
theorem QQK(c c' s':Nat):QK 8 [AV.int false i64 (↑c:Int),AV.int true i64 (2:Int),AV.int true i64 (0:Int)] ([]) (jQ c' s')=(
  some [(↑c:Int)=(↑c':Int),(2:Int)=(↑s':Int),(0:Int)=(0:Int)]):=by kernel_rfl
theorem QSN(c c' s':Nat):QK 8 [AV.int false i64 (↑c:Int),AV.int true i64 (3:Int),AV.int true i64 (0:Int)] ([]) (jQ c' s')=(
  some [(↑c:Int)=(↑c':Int),(3:Int)=(↑s':Int),(0:Int)=(0:Int)]):=by kernel_rfl
theorem QS8(c c':Nat):QK 8 [.ptr 8 0 0,.slz 0 0 d.ps.n cO,vi (d.ps.n:Int),vi (i64.wrap ((c:Int)+1))] ((J7 d)) (HD d c')=(some [0=0,0=0,0
  = 0,d.ps.n=d.ps.n,cO=cO,(d.ps.n:Int)=(d.ps.n:Int),i64.wrap ((c:Int)+1)=(c':Int),d.play.length=d.play.length,d.play.slack =
  d.play.slack,d.play.loose=d.play.loose,d.play.damp.lo=d.play.damp.lo,d.play.damp.hi=d.play.damp.hi,d.wide=d.wide,d.high=d.high,d.turn=d.turn,0=0,d.ps.n =
  d.ps.n,cO=cO,d.ps.n≤d.ps.n,QD 28 d.ps.n (fun i=>QA.enc (d.ps.get i)) fun i=>QA.enc (d.ps.get i)]):=by kernel_rfl
theorem QM1 :QK 8 [] ([]) QDL=(
  some []):=by kernel_rfl
end Go.Proofs.Ytbpffdkemeoajaa
namespace Go.SX
open Go Go.RowKit Go.Proofs.Ytbpffdkemeoajaa
variable {Q:AV→List (Nat×Blk)→Prop}
theorem Gz{A b1 b2 b3 n1 n2 x:Bool}{L K:QC}(hA:A=true)(hn:b1=false→n1=true∧n2=true)(hx:x=cond b1 b2 b3)(hr:x=true→L.den Q)(hk:x=false→K.den Q):
  (QC.need A (.br b1 (.br b2 L K) (.need n1 (.need n2 (.need true (.br b3 L K)))))).den Q:=by
 refine QF hA (QI (fun h1 => ?_) (fun h1 => ?_))
 ·rw[h1]at hx;exact QI (fun h=>hr (by rw[hx,h];rfl)) (fun h=>hk (by rw[hx,h];rfl))
 ·rw[h1]at hx;exact QF (hn h1).1 (QF (hn h1).2 (QF rfl (QI (fun h=>hr (by rw[hx,h];rfl)) (fun h=>hk (by rw[hx,h];rfl)))))
end Go.SX
namespace Go.Proofs.Ytbpffdkemeoajaa
open Go.SX
def Kc(x:QG):Nat→Edge
 | 0=>x.up
 | 1=>x.right
 | 2=>x.down
 | _=>x.left
variable (d:Puz)(c:Nat)
def Xs(c s:Nat):Bool:=cond (QN d.wide d.high c s == -1) ((Kc (d.ps.get c) s).kind != 0) ((Qw d.play (Kc (d.ps.get c) s) (Kc (d.ps.get (QN d.wide d.high c s).toNat) ((s+2) % 4))).1 != 2)
def Vh(i:Nat):Bool:=Xs d (i / 4) (i % 4)
structure Zw (d:Puz):Prop where
 n9:d.ps.n≤9
 w1:1≤d.wide
 wn:d.wide≤d.ps.n
 h1:1≤d.high
 hn:d.high≤d.ps.n
 wh:d.wide*d.high=d.ps.n
theorem Y2{d:Puz}(h:d.ok=true):Zw d:=by
 simp only[Puz.ok,Puz.okN,QY,qbA,qdE,beq_iff_eq]at h;obtain⟨⟨⟨a1,a2⟩,⟨b1,b2⟩,⟨c1,c2⟩,e⟩,_⟩:=h;have hw:d.wide≤9:=by omega
 have hh:d.high≤9:=by omega
 have hm:d.wide*d.high≤9*9:=Int.mul_le_mul hw hh (by omega) (by omega)
 have hm0:0≤d.wide*d.high:=Int.mul_nonneg (by omega) (by omega)
 rw[w64 (by omega) (by omega)]at e
 exact⟨by omega,b1,b2,c1,c2,e⟩
theorem jR{d:Puz}(h:Zw d){c s:Nat}(hc:c<d.ps.n)(hb:(QN d.wide d.high c s == -1)=false):0≤QN d.wide d.high c s∧QN d.wide d.high c s<d.ps.n:=by
 have w1:=h.w1;have m0:0≤(c:Int).tmod d.wide:=Int.tmod_nonneg _ (by omega)
 have m1:(c:Int).tmod d.wide<d.wide:=Int.tmod_lt_of_pos _ (by omega)
 have q0:0≤(c:Int).tdiv d.wide:=Int.tdiv_nonneg (by omega) (by omega)
 have e:=Int.tmod_def (c:Int) d.wide;have wh:=h.wh;simp only[QN]at hb ⊢;generalize (c:Int).tdiv d.wide=q at *;generalize (c:Int).tmod d.wide=m at *
 have hq:q<d.high:=by
  rcases Int.lt_or_le q d.high with g|g
  ·exact g
  ·have:=Int.mul_le_mul_of_nonneg_left g (show 0≤d.wide by omega)
   omega
 have p0:0≤d.wide*q:=Int.mul_nonneg (by omega) q0
 have a1:d.wide*(q+1)≤d.wide*d.high:=Int.mul_le_mul_of_nonneg_left (by omega) (by omega)
 have e1:d.wide*(q+1)=d.wide*q+d.wide:=by rw[Int.mul_add,Int.mul_one]
 cases x0:((s:Int)==0&&decide (0<q))with
 | true=>
  simp only[cond_true];simp only[qbA,qdE]at x0;have:=Int.mul_le_mul_of_nonneg_left (show 1≤q by omega) (show 0≤d.wide by omega)
  omega
 | false=>
  simp only[x0,cond_false]at hb ⊢;cases x1:((s:Int)==1&&decide (m<d.wide-1))with
  | true=>
   simp only[cond_true];simp only[qbA,qdE]at x1;omega
  | false=>
   simp only[x1,cond_false]at hb ⊢;cases x2:((s:Int)==2&&decide (q<d.high-1))with
   | true=>
    simp only[cond_true];simp only[qbA,qdE]at x2;have a2:d.wide*(q+2)≤d.wide*d.high:=Int.mul_le_mul_of_nonneg_left (by omega) (by omega)
    have e2:d.wide*(q+2)=d.wide*q+d.wide*2:=by rw[Int.mul_add]
    omega
   | false=>
    simp only[x2,cond_false]at hb ⊢;cases x3:((s:Int)==3&&decide (0<m))with
    | true=>
     simp only[cond_true];simp only[qbA,qdE]at x3;omega
    | false=>
     simp only[x3,cond_false]at hb;exact absurd hb (by decide)
def QKU(e:Ex)(J:JSt):Prop:=(∃ i,e = .ret∧QP (Vh d) (4*(d.ps.n-c)) (4*c)=some i∧J=jQ (i / 4) (i % 4))∨(e = .exit 0∧QP (Vh d) (4*(d.ps.n-c)) (4*c)=none∧J=QDL)
theorem QWM(hd:Zw d):JW (HD d) (fun c=>c≤d.ps.n) (fun c=>d.ps.n-c) (QKU d) 8 QGY [] (mkE Try.prog Xx) (fun _=>hnd (mkE Try.prog Xx) 6) (Qa Try.f13 0):=by
 refine⟨fun c g hk=>⟨za (QOD d c g) ?_⟩⟩;have n9:=hd.n9;refine QI (fun h => ?_) (fun h => ?_)
 ·have h:c<d.ps.n:=by have:=qdt h;omega
  have hw:=hd.w1;have hwn:=hd.wn;have hh:=hd.h1;have hhn:=hd.hn
  have hA:(decide (d.ps.n≤d.ps.n)&&(true&&(true&&true))&&decide (((1:Int)≤d.wide∧d.wide≤(100:Int))∧((1:Int)≤d.high∧d.high≤(100:Int))∧(0:Int)≤(c:Int)∧(c:Int)≤(100:Int)))=true:=by
   simp only[qlr,decide_true,Bool.true_and,qdE];omega
  have hn:∀ s:Nat,(QN d.wide d.high c s == -1)=false→(decide (0≤QN d.wide d.high c s∧QN d.wide d.high c s<(d.ps.n:Int))&&decide (d.ps.n≤d.ps.n))=true∧decide ((QN d.wide d.high c s).toNat<d.ps.n)=true:=fun s hb=>by
   have:=jR hd h hb;simp only[qlr,decide_true,Bool.and_true,qdE];omega
  obtain⟨m,hm⟩:∃ m,4*(d.ps.n-c)=m+1+1+1+1:=⟨4*(d.ps.n-c)-4,by omega⟩
  have hm':4*(d.ps.n-(c+1))=m:=by omega
  have q0:Vh d (4*c)=Xs d c 0:=by unfold Vh;rw[show 4*c / 4=c by omega,show 4*c % 4=0 by omega]
  have q1:Vh d (4*c+1)=Xs d c 1:=by unfold Vh;rw[show(4*c+1) / 4=c by omega,show(4*c+1) % 4=1 by omega]
  have q2:Vh d (4*c+1+1)=Xs d c 2:=by unfold Vh;rw[show(4*c+1+1) / 4=c by omega,show(4*c+1+1) % 4=2 by omega]
  have q3:Vh d (4*c+1+1+1)=Xs d c 3:=by unfold Vh;rw[show(4*c+1+1+1) / 4=c by omega,show(4*c+1+1+1) % 4=3 by omega]
  refine QF (by simp;omega) (QF (by simp;omega) ?_)
  refine Gz (x:=Xs d c 0) hA (hn 0) rfl (fun b0 => ?_) (fun b0 => ?_)
  ·refine⟨_,.inl ⟨4*c,rfl,by rw[hm,QP,q0,b0],rfl⟩,rfl,rfl,_,QNM c _ _,?_⟩
   exact⟨by omega,by omega,rfl,trivial⟩
  refine Gz (x:=Xs d c 1) hA (hn 1) rfl (fun b1 => ?_) (fun b1 => ?_)
  ·refine⟨_,.inl ⟨4*c+1,rfl,by rw[hm,QP,q0,b0,QP,q1,b1],rfl⟩,rfl,rfl,_,QSI c _ _,?_⟩
   exact⟨by omega,by omega,rfl,trivial⟩
  refine Gz (x:=Xs d c 2) hA (hn 2) rfl (fun b2 => ?_) (fun b2 => ?_)
  ·refine⟨_,.inl ⟨4*c+1+1,rfl,by rw[hm,QP,q0,b0,QP,q1,b1,QP,q2,b2],rfl⟩,rfl,rfl,_,QQK c _ _,?_⟩
   exact⟨by omega,by omega,rfl,trivial⟩
  refine Gz (x:=Xs d c 3) hA (hn 3) rfl (fun b3 => ?_) (fun b3 => ?_)
  ·refine⟨_,.inl ⟨4*c+1+1+1,rfl,by rw[hm,QP,q0,b0,QP,q1,b1,QP,q2,b2,QP,q3,b3],rfl⟩,rfl,rfl,_,QSN c _ _,?_⟩
   exact⟨by omega,by omega,rfl,trivial⟩
  have hf:QP (Vh d) (4*(d.ps.n-c)) (4*c)=QP (Vh d) (4*(d.ps.n-(c+1))) (4*(c+1)):=by
   rw[hm,hm',QP,q0,b0,QP,q1,b1,QP,q2,b2,QP,q3,b3,show 4*(c+1)=4*c+1+1+1+1 by omega]
  refine⟨c+1,h,by show d.ps.n-(c+1)<d.ps.n-c;omega,fun e J h=>by unfold QKU at h ⊢;rw[hf];exact h,rfl,rfl,_,QS8 d c (c+1),?_⟩
  have hw:i64.wrap ((c:Int)+1)=((c+1:Nat):Int):=(w64 (by omega) (by omega)).trans (by omega)
  repeat' first|exact trivial|with_reducible rfl|exact qlr _|exact hw|exact qRr|refine And.intro ?_ ?_
 ·have h:d.ps.n≤c:=by have:=of_decide_eq_false h;omega
  exact⟨_,.inr ⟨rfl,by rw[show 4*(d.ps.n-c)=0 by omega];rfl,rfl⟩,rfl,rfl,_,QM1,trivial⟩
end Go.Proofs.Ytbpffdkemeoajaa
namespace Go.SX
open Go Go.RowKit Go.Proofs.Ytbpffdkemeoajaa
def Xh(p:Prop)(L:St→(Ex→St→QC)→QC)(st:St)(K:Ex→St→QC):QC := .ask p (L st K)
theorem vn{E:Env}{G:Ctx}{c:Code}{p:Prop}{L:St→(Ex→St→QC)→QC}(h:p→Ji E G c L):Ji E G c (Xh p L):=by
 intro st K T Q a w hn hd hr hQ;obtain⟨h1,h2⟩:=(show p∧(L st K).den T from hd);exact h h1 st K T Q a w hn h2 hr hQ
end Go.SX
namespace Go.Proofs.Ytbpffdkemeoajaa
open Go.SX
variable (d:Puz)
def YJ:Option Nat:=QP (Vh d) (4*d.ps.n) 0
def qt:Nat:=(YJ d).getD 0
def QTU:List (Prop×Ex×JSt):=[((YJ d).isSome=true,.ret,jQ (qt d / 4) (qt d % 4)),(YJ d=none,.exit 0,QDL)]
abbrev HN(P:Program)(d:Puz):Hnd:={ hnd (mkE P Xx) 1 with loop:=fun _=>Xh (Zw d) (KF 8 [] (HD d 0) (QTU d)) }
theorem QT9(G:Ctx)(hrd:G.rd=none)(hG:G.n=8):KH (mkE Try.prog Xx) G (HN Try.prog d) (Qr Try.f13):=by
 refine J6 (body:=Qa Try.f13 0) (QS j7) hrd (by kernel_rfl) ?_
 refine vn fun hd => ?_;refine J3 (n0:=8) (QS j7) (by omega) (fun s hs=>Q3 (QS j7) 6 G _ hrd) (fun s hs=>(by decide:8≤96)) ?_ (QWM d hd) (s0:=0) (Nat.zero_le _) ?_
 ·rintro s e J (⟨_,_,_,rfl⟩|⟨_,_,rfl⟩)<;>exact(by decide:8≤96)
 ·rintro e J (⟨i,rfl,h,rfl⟩|⟨rfl,h,rfl⟩)
  ·have h:YJ d=some i:=h;refine⟨_,List.mem_cons_self,by simp only[h];rfl,rfl,?_⟩
   simp only[qt,h];rfl
  ·exact⟨_,List.mem_cons_of_mem _ List.mem_cons_self,h,rfl,rfl⟩
def V6:Int×Int×Int:=match d.ok with
 | false=>(0,0,1)
 | true=>(match YJ d with
  | some i=>(((i / 4:Nat):Int),((i % 4:Nat):Int),0)
  | none=>(0,0,4))
def ZC:WF (Puz×Unit):=fun|(d,_)=>(decide (d.ps.n≤1000),.tup [.int false .i64 (V6 d).1,.int false .i64 (V6 d).2.1,.int false .i64 (V6 d).2.2],[])
def QCd:FC:=wFC ZC
theorem QSr :Kd (mkE Try.prog Xx) (HN Try.prog d) Try.f13 (QU.vals 0 ((d,()):Puz×Unit)) (QU.blks 0 ((d,()):Puz×Unit)) 8 = .need (decide (d.ps.n≤d.ps.n)&&true &&
  decide (d.ps.n≤1000)) (.br (!d.ok) (.leaf (.tup [vj 0,vj 0,vj 1]) ([])) (.ask (Zw d) (.ask (0=0) (.ask (0=0) (.ask (0=0) (.ask
  (d.ps.n=d.ps.n) (.ask (cO=cO) (.ask ((d.ps.n:Int)=(d.ps.n:Int)) (.ask ((0:Int)=0) (.ask (d.play.length=d.play.length) (.ask (d.play.slack=d.play.slack)
  (.ask (d.play.loose=d.play.loose) (.ask (d.play.damp.lo=d.play.damp.lo) (.ask (d.play.damp.hi=d.play.damp.hi) (.ask (d.wide=d.wide) (.ask (d.high=d.high) (.ask (d.turn =
  d.turn) (.ask (0=0) (.ask (d.ps.n=d.ps.n) (.ask (cO=cO) (.ask (d.ps.n≤d.ps.n) (.ask (QD 28 d.ps.n (fun i=>QA.enc (d.ps.get i)) fun i=>QA.enc
  (d.ps.get i)) (.both (.asm ((YJ d).isSome=true) (.all (fun(g0:Nat→Value) => .leaf (.tup [vi (↑(qt d / 4):Int),vi (↑(qt d % 4):Int),.int
  false .i64 0]) ([])))) (.asm (YJ d=none) (.all (fun(g1:Nat→Value) => .leaf (.tup [vj 0,vj 0,vj 4]) ([]))))))))))))))))))))))))))):=by kernel_rfl
theorem QWB:JN (mkE Try.prog Xx) (Qr Try.f13) 8 ZC (fun x_=>(HN Try.prog x_.1)):=by
 refine⟨?_⟩;rintro⟨d,⟨⟩⟩ hp G h1 h2;exact QT9 d G h1 h2
theorem QN5:JM (mkE Try.prog Xx) Try.f13 8 ZC (fun x_=>(HN Try.prog x_.1)):=by
 refine⟨?_⟩;rintro⟨d,⟨⟩⟩ hp;refine⟨⟨rfl,by simp[ZC],rfl⟩,⟨?_⟩⟩
 rw[QSr d];simp only[ZC]at hp;refine QF (by simpa using hp) (QI (fun h=>K7 ?_ rfl) (fun h => ?_))
 ·have h:d.ok=false:=by simpa using h
  simp only[ZC,V6,h];exact⟨⟨rfl,rfl⟩,⟨rfl,rfl⟩,⟨rfl,rfl⟩,trivial⟩
 ·have h:d.ok=true:=by simpa using h
  refine Qc (Y2 h) ?_
  repeat' first|refine Qc (show _=_ by with_reducible rfl) ?_|refine Qc (show _≤_ from qlr _) ?_|refine Qc (show QD _ _ _ _ from qRr) ?_
  refine YE (KY fun ho=>KX fun g => ?_) (KY fun ho=>KX fun g => ?_)
  ·obtain⟨i,hi⟩:=Option.isSome_iff_exists.1 ho;exact K7 (by simp only[ZC,V6,qt,h,hi];exact⟨⟨rfl,rfl⟩,⟨rfl,rfl⟩,⟨rfl,rfl⟩,trivial⟩) rfl
  ·exact K7 (by simp only[ZC,V6,h,ho];exact⟨⟨rfl,rfl⟩,⟨rfl,rfl⟩,⟨rfl,rfl⟩,trivial⟩) rfl
theorem QHP:QQ Try.prog 13 QCd:=
 Jc (QS j7) Try.func13 (by kernel_rfl) (by kernel_rfl) (by decide) QWB QN5
def QAv:Tab:=Qb Xx 13 QCd
theorem QLW:QV QAv:=j7.add QHP
structure Fl where
instance : Enc Fl where
  enc _ := .agg []
  dec | .agg [] => some ⟨⟩ | _ => none
  ok v x h := by
    split at h <;> (try (cases h; done))
    exact⟨fun _ => rfl,rfl⟩
def QKJ:Fl×Edge×Unit→Bool×AV:=fun|(b,(s,_))=>(true,.bool false (s.kind==0))
def QKL:FC:=Q5 (Q6 QKJ)
theorem QS0(b:Fl)(s:Edge):Q2 (mkE Try.prog QAv) (hnd (mkE Try.prog QAv) 2) false Try.f124 (Qm.enc ((b,s,()):Fl×Edge×Unit)) [] 0 =
  QC.leaf (AV.bool false (s.kind==(0:Int))) ([]):=by kernel_rfl
theorem QTv:QQ Try.prog 124 QKL:=by
 refine KC QLW 2 Try.func124 (by kernel_rfl) (by kernel_rfl) ?_
 rintro⟨b,s,⟨⟩⟩ hp;rw[QS0 b s];simp only[QKJ,QC.den,AV.same,AV.sameL,and_true,true_and]at hp ⊢
def QAW:Tab:=Qb QAv 124 QKL
theorem QBP:QV QAW:=QLW.add QTv
def QEh:Edge×Unit→Bool×AV:=fun|(s,_)=>(true,.alt (s.kind==0) (.ifc 139 (.agg [])) (.ifc 140 (Enc.enc s)))
def QFx:FC:=Q5 (Q6 QEh)
theorem QNN(s:Edge):Q2 (mkE Try.prog QAW) (hnd (mkE Try.prog QAW) 2) false Try.f73 (Qm.enc ((s,()):Edge×Unit)) [] 0 =
  QC.br (s.kind==(0:Int)) (QC.leaf (AV.ifc (139:Nat) (AV.agg [])) ([])) (QC.leaf (AV.ifc (140:Nat) (AV.agg [AV.int false i64 s.kind,AV.int false i64
  s.at_.lo,AV.int false i64 s.at_.hi,AV.int false i64 s.wide.lo,AV.int false i64 s.wide.hi,AV.int false i64 s.deep.lo,AV.int false i64
  s.deep.hi])) ([])):=by kernel_rfl
theorem QUe:QQ Try.prog 73 QFx:=by
 refine QUg (c:=Qr Try.f73) (QS QBP) Try.func73 (by kernel_rfl) (by kernel_rfl) (fun G _ hG=>Q3 (QS QBP) 2 G _ hG) ?_
 rintro⟨s,⟨⟩⟩ _;refine za (QNN s) ?_;refine⟨fun h r r' => ?_,fun h r r' => ?_⟩
 ·simp only[QEh,h];rfl
 ·simp only[QEh,h];rfl
def Ko:Tab:=Qb QAW 73 QFx
theorem WV:QV Ko:=QBP.add QUe
end Go.Proofs.Ytbpffdkemeoajaa
namespace Go.SX
open Go Go.RowKit Go.Proofs.Ytbpffdkemeoajaa
def VZ(c:Code):Code:=match Kg c with
 | .loop b::_=>b
 | _ => .skip
end Go.SX
namespace Go.Proofs.Ytbpffdkemeoajaa
open Go.SX
structure QB where
 cell:Int
 turn:Int
instance : QA QB where
  ks := [.int .i64,.int .i64]
  enc p j := match j with
    | 0 => p.cell
    | _ => p.turn
  dec f := ⟨f 0,f 1⟩
  ok _ := rfl
variable (d:Puz)(s:QG)(c:Nat)
def WO(o:List QB)(c:Nat):JSt:=⟨49,[(3,.ptr 16 0 0),(4,.slz 24 0 o.length (.of 0)),(11,.slz 0 0 d.ps.n (.of 0)),(12,.int false .i64 d.ps.n),(13,.int false .i64 c)],[(16,.cells 7 33 (Enc.enc s).cells),Kf 56 24 o ⟨0,0⟩]++Qz.blk 0 d.ps,32⟩
def J5(o:List QB)(c t:Nat):JSt:=⟨49,[(3,.ptr 16 0 0),(4,.slz 24 0 o.length (.of 0)),(5,.int false .i64 c),(6,.ptr 32 0 0),(11,.slz 0 0 d.ps.n (.of 0)),(12,.int false .i64 d.ps.n),(13,.int false .i64 c),(18,.int true .i64 t)],[(16,.cells 7 33 (Enc.enc s).cells),Kf 56 24 o ⟨0,0⟩,(32,.cells 7 33 (Enc.enc (d.ps.get c)).cells)]++Qz.blk 0 d.ps,40⟩
def qJ:Ex→List Nat
 | .normal=>[3,4,5,6,11,12,13,18]
 | .exit _=>[3,4,11,12,13]
 | .ret=>[]
noncomputable abbrev Gk(d:Puz)(o:List QB):List AV:=
  [.nilp,.ptr 49 0 0,.ptr 16 0 0,.slz 24 0 o.length cO,vi (c:Int),.ptr 32 0 0,.slz 0 0 d.ps.n cO,vi (d.ps.n:Int),.int false .i64
  (c:Int),vj 1]
noncomputable abbrev X3:Nat×Blk:=
  (16,.cells 7 33 [vi s.up.kind,vi s.up.at_.lo,vi s.up.at_.hi,vi s.up.wide.lo,vi s.up.wide.hi,.int false .i64
  s.up.deep.lo,vi s.up.deep.hi,vi s.right.kind,vi s.right.at_.lo,vi s.right.at_.hi,vi s.right.wide.lo,.int false
  .i64 s.right.wide.hi,vi s.right.deep.lo,vi s.right.deep.hi,vi s.down.kind,vi s.down.at_.lo,vi s.down.at_.hi,
  .int false .i64 s.down.wide.lo,vi s.down.wide.hi,vi s.down.deep.lo,vi s.down.deep.hi,vi s.left.kind,.int false .i64
  s.left.at_.lo,vi s.left.at_.hi,vi s.left.wide.lo,vi s.left.wide.hi,vi s.left.deep.lo,vi s.left.deep.hi])
noncomputable abbrev QEr(o:List QB):Nat×Blk:=
  (24,.rowz true 56 [.int .i64,.int .i64] o.length fun i=>QA.enc (o.getD i ⟨0,0⟩))
noncomputable abbrev Yz(d:Puz):Nat×Blk:=
  (32,.cells 7 33 [vi (d.ps.get c).up.kind,vi (d.ps.get c).up.at_.lo,vi (d.ps.get c).up.at_.hi,vi (d.ps.get c).up.wide.lo,.int
  false .i64 (d.ps.get c).up.wide.hi,vi (d.ps.get c).up.deep.lo,vi (d.ps.get c).up.deep.hi,vi (d.ps.get c).right.kind,.int false .i64
  (d.ps.get c).right.at_.lo,vi (d.ps.get c).right.at_.hi,vi (d.ps.get c).right.wide.lo,vi (d.ps.get c).right.wide.hi,.int false .i64
  (d.ps.get c).right.deep.lo,vi (d.ps.get c).right.deep.hi,vi (d.ps.get c).down.kind,vi (d.ps.get c).down.at_.lo,vi (d.ps.get
  c).down.at_.hi,vi (d.ps.get c).down.wide.lo,vi (d.ps.get c).down.wide.hi,vi (d.ps.get c).down.deep.lo,vi (d.ps.get
  c).down.deep.hi,vi (d.ps.get c).left.kind,vi (d.ps.get c).left.at_.lo,vi (d.ps.get c).left.at_.hi,vi (d.ps.get
  c).left.wide.lo,vi (d.ps.get c).left.wide.hi,vi (d.ps.get c).left.deep.lo,vi (d.ps.get c).left.deep.hi])
noncomputable abbrev Xy:Nat×Blk:=
  (0,.frz [.int .i64,.int .i64,.int .i64,.int .i64,.int .i64,.int .i64,.int .i64,.int .i64,.int .i64,.int .i64,.int .i64,.int .i64,.int .i64,.int .i64,.int .i64,.int
  .i64,.int .i64,.int .i64,.int .i64,.int .i64,.int .i64,.int .i64,.int .i64,.int .i64,.int .i64,.int .i64,.int .i64,.int .i64] d.ps.n fun i=>QA.enc (d.ps.get i))
noncomputable abbrev JZ(d:Puz)(o:List QB)(s:QG):List (Nat×Blk):=
  [(X3 s),(QEr o),(Yz c d),(Xy d)]
noncomputable abbrev QJa(o:List QB):Nat×Blk:=
  (776,.rowz true 56 [.int .i64,.int .i64] (o.length+1) (QX o.length (fun i=>QA.enc (o.getD i ⟨0,0⟩)) (QR [[vi (c:Int),vj 0]] 0)))
theorem QRa(o:List QB)(c:Nat)(g:Nat→Value):exec (mkE Try.prog Ko) (hnd (mkE Try.prog Ko) 6) (VZ (Qa Try.f43 0)) (JSt.inst (J5 d s o c 0) g) (KL [] qJ) = .need (true) (.need (bif s.up.kind==0 then
  true else true) (.br (!bif s.up.kind==0 then (d.ps.get c).up.kind==0 else isF s.up (d.ps.get c).up) (.leaf (.tup (Gk c d o)) ((JZ c d o s))) (.need (true) (.need (bif
  s.right.kind==0 then true else true) (.br (!bif s.right.kind==0 then (d.ps.get c).right.kind==0 else isF s.right (d.ps.get c).right) (.leaf (.tup (Gk c d o)) ((JZ c d o
  s))) (.need (true) (.need (bif s.down.kind==0 then true else true) (.br (!bif s.down.kind==0 then (d.ps.get c).down.kind==0 else isF s.down (d.ps.get c).down) (.leaf (.tup
  (Gk c d o)) ((JZ c d o s))) (.need (true) (.need (bif s.left.kind==0 then true else true) (.br (!bif s.left.kind==0 then (d.ps.get c).left.kind==0 else isF s.left
  (d.ps.get c).left) (.leaf (.tup (Gk c d o)) ((JZ c d o s))) (.need (decide (o.length≤o.length)&&(true&&decide ((o.length+1+(o.length+1) / 4+192)*16 ≤
  281474976710656∧o.length+1≤9223372036854775807))) (.leaf (.tup [.nilp,.ptr 49 0 0,.ptr 16 0 0,.slz 776 0 (o.length+1) cO,vi (c:Int),.ptr 32 0 0,
  .slz 0 0 d.ps.n cO,vi (d.ps.n:Int),vi (c:Int),vj 1]) ([(X3 s),(QJa c o),(Yz c d),(Xy d)])))))))))))))):=by kernel_rfl
noncomputable abbrev zo(d:Puz)(o:List QB):List AV:=
  [.nilp,.ptr 49 0 0,.ptr 16 0 0,.slz 24 0 o.length cO,vi (c:Int),.ptr 32 0 0,.slz 0 0 d.ps.n cO,vi (d.ps.n:Int),.int false .i64
  (c:Int),vj 2]
noncomputable abbrev QGM(o:List QB):Nat×Blk:=
  (776,.rowz true 56 [.int .i64,.int .i64] (o.length+1) (QX o.length (fun i=>QA.enc (o.getD i ⟨0,0⟩)) (QR [[vi (c:Int),vj 1]] 0)))
theorem QTF(o:List QB)(c:Nat)(g:Nat→Value):exec (mkE Try.prog Ko) (hnd (mkE Try.prog Ko) 6) (VZ (Qa Try.f43 0)) (JSt.inst (J5 d s o c 1) g) (KL [] qJ) = .need (true) (.need (bif s.left.kind==0 then
  true else true) (.br (!bif s.left.kind==0 then (d.ps.get c).up.kind==0 else isF s.left (d.ps.get c).up) (.leaf (.tup (zo c d o)) ((JZ c d o s))) (.need (true) (.need (bif
  s.up.kind==0 then true else true) (.br (!bif s.up.kind==0 then (d.ps.get c).right.kind==0 else isF s.up (d.ps.get c).right) (.leaf (.tup (zo c d o)) ((JZ c d o s))) (.need
  (true) (.need (bif s.right.kind==0 then true else true) (.br (!bif s.right.kind==0 then (d.ps.get c).down.kind==0 else isF s.right (d.ps.get c).down) (.leaf (.tup (zo c d
  o)) ((JZ c d o s))) (.need (true) (.need (bif s.down.kind==0 then true else true) (.br (!bif s.down.kind==0 then (d.ps.get c).left.kind==0 else isF s.down (d.ps.get c).left)
  (.leaf (.tup (zo c d o)) ((JZ c d o s))) (.need (decide (o.length≤o.length)&&(true&&decide ((o.length+1+(o.length+1) / 4+192)*16≤281474976710656∧o.length+1
  ≤ 9223372036854775807))) (.leaf (.tup [.nilp,.ptr 49 0 0,.ptr 16 0 0,.slz 776 0 (o.length+1) cO,vi (c:Int),.ptr 32 0 0,.slz 0 0 d.ps.n cO,
  .int false .i64 (d.ps.n:Int),vi (c:Int),vj 2]) ([(X3 s),(QGM c o),(Yz c d),(Xy d)])))))))))))))):=by kernel_rfl
noncomputable abbrev QAb(d:Puz)(o:List QB):List AV:=
  [.nilp,.ptr 49 0 0,.ptr 16 0 0,.slz 24 0 o.length cO,vi (c:Int),.ptr 32 0 0,.slz 0 0 d.ps.n cO,vi (d.ps.n:Int),.int false .i64
  (c:Int),vj 3]
noncomputable abbrev QMp(o:List QB):Nat×Blk:=
  (776,.rowz true 56 [.int .i64,.int .i64] (o.length+1) (QX o.length (fun i=>QA.enc (o.getD i ⟨0,0⟩)) (QR [[vi (c:Int),vj 2]] 0)))
theorem QTD(o:List QB)(c:Nat)(g:Nat→Value):exec (mkE Try.prog Ko) (hnd (mkE Try.prog Ko) 6) (VZ (Qa Try.f43 0)) (JSt.inst (J5 d s o c 2) g) (KL [] qJ) = .need (true) (.need (bif s.down.kind==0 then
  true else true) (.br (!bif s.down.kind==0 then (d.ps.get c).up.kind==0 else isF s.down (d.ps.get c).up) (.leaf (.tup (QAb c d o)) ((JZ c d o s))) (.need (true) (.need (bif
  s.left.kind==0 then true else true) (.br (!bif s.left.kind==0 then (d.ps.get c).right.kind==0 else isF s.left (d.ps.get c).right) (.leaf (.tup (QAb c d o)) ((JZ c d o s)))
  (.need (true) (.need (bif s.up.kind==0 then true else true) (.br (!bif s.up.kind==0 then (d.ps.get c).down.kind==0 else isF s.up (d.ps.get c).down) (.leaf (.tup (QAb c d o))
  ((JZ c d o s))) (.need (true) (.need (bif s.right.kind==0 then true else true) (.br (!bif s.right.kind==0 then (d.ps.get c).left.kind==0 else isF s.right (d.ps.get c).left)
  (.leaf (.tup (QAb c d o)) ((JZ c d o s))) (.need (decide (o.length≤o.length)&&(true&&decide ((o.length+1+(o.length+1) / 4+192)*16≤281474976710656∧o.length+1
  ≤ 9223372036854775807))) (.leaf (.tup [.nilp,.ptr 49 0 0,.ptr 16 0 0,.slz 776 0 (o.length+1) cO,vi (c:Int),.ptr 32 0 0,.slz 0 0 d.ps.n cO,
  .int false .i64 (d.ps.n:Int),vi (c:Int),vj 3]) ([(X3 s),(QMp c o),(Yz c d),(Xy d)])))))))))))))):=by kernel_rfl
noncomputable abbrev QAK(d:Puz)(o:List QB):List AV:=
  [.nilp,.ptr 49 0 0,.ptr 16 0 0,.slz 24 0 o.length cO,vi (c:Int),.ptr 32 0 0,.slz 0 0 d.ps.n cO,vi (d.ps.n:Int),.int false .i64
  (c:Int),vj 4]
noncomputable abbrev QLl(o:List QB):Nat×Blk:=
  (776,.rowz true 56 [.int .i64,.int .i64] (o.length+1) (QX o.length (fun i=>QA.enc (o.getD i ⟨0,0⟩)) (QR [[vi (c:Int),vj 3]] 0)))
theorem QUH(o:List QB)(c:Nat)(g:Nat→Value):exec (mkE Try.prog Ko) (hnd (mkE Try.prog Ko) 6) (VZ (Qa Try.f43 0)) (JSt.inst (J5 d s o c 3) g) (KL [] qJ) = .need (true) (.need (bif s.right.kind==0
  then true else true) (.br (!bif s.right.kind==0 then (d.ps.get c).up.kind==0 else isF s.right (d.ps.get c).up) (.leaf (.tup (QAK c d o)) ((JZ c d o s))) (.need (true) (.need
  (bif s.down.kind==0 then true else true) (.br (!bif s.down.kind==0 then (d.ps.get c).right.kind==0 else isF s.down (d.ps.get c).right) (.leaf (.tup (QAK c d o)) ((JZ c d o
  s))) (.need (true) (.need (bif s.left.kind==0 then true else true) (.br (!bif s.left.kind==0 then (d.ps.get c).down.kind==0 else isF s.left (d.ps.get c).down) (.leaf (.tup
  (QAK c d o)) ((JZ c d o s))) (.need (true) (.need (bif s.up.kind==0 then true else true) (.br (!bif s.up.kind==0 then (d.ps.get c).left.kind==0 else isF s.up (d.ps.get
  c).left) (.leaf (.tup (QAK c d o)) ((JZ c d o s))) (.need (decide (o.length≤o.length)&&(true&&decide ((o.length+1+(o.length+1) / 4+192)*16≤281474976710656 ∧
  o.length+1≤9223372036854775807))) (.leaf (.tup [.nilp,.ptr 49 0 0,.ptr 16 0 0,.slz 776 0 (o.length+1) cO,vi (c:Int),.ptr 32 0 0,.slz 0 0 d.ps.n
  cO,vi (d.ps.n:Int),vi (c:Int),vj 4]) ([(X3 s),(QLl c o),(Yz c d),(Xy d)])))))))))))))):=by kernel_rfl
theorem QPV(o:List QB)(c:Nat)(g:Nat→Value):exec (mkE Try.prog Ko) (hnd (mkE Try.prog Ko) 6) (VZ (Qa Try.f43 0)) (JSt.inst (J5 d s o c 4) g) (KL [] qJ) = .leaf (.tup [.ptr 2 0 0,.ptr 49 0 0,.ptr 16
  0 0,.slz 24 0 o.length cO,.slz 0 0 d.ps.n cO,vi (d.ps.n:Int),vi (c:Int)]) ([(X3 s),(QEr o),(Xy d)]):=by kernel_rfl
def jx(o:List QB)(c:Nat):JSt:=⟨49,[(3,.ptr 16 0 0),(4,.slz 24 0 o.length (.of 0)),(11,.slz 0 0 d.ps.n (.of 0)),(12,.int false .i64 d.ps.n),(13,.int false .i64 c)],[(16,.cells 7 33 (Enc.enc s).cells),Kf 56 24 o ⟨0,0⟩]++Qz.blk 0 d.ps,40⟩
abbrev zj(o:List QB)(o':List QB):List Prop:=
  [0=0,0=0,0=0,o.length=o'.length]
abbrev ZZ(d:Puz):List Prop:=
  [cO=cO,(c:Int)=(c:Int),0=0,0=0,0=0,d.ps.n=d.ps.n,cO=cO,(d.ps.n:Int)=(d.ps.n:Int)]
abbrev Y3:List Prop:=
  [s.up.kind=s.up.kind,s.up.at_.lo=s.up.at_.lo,s.up.at_.hi=s.up.at_.hi,s.up.wide.lo=s.up.wide.lo]
abbrev Y4:List Prop:=
  [s.up.wide.hi=s.up.wide.hi,s.up.deep.lo=s.up.deep.lo,s.up.deep.hi=s.up.deep.hi,s.right.kind=s.right.kind,s.right.at_.lo=s.right.at_.lo,s.right.at_.hi =
  s.right.at_.hi,s.right.wide.lo=s.right.wide.lo,s.right.wide.hi=s.right.wide.hi,s.right.deep.lo=s.right.deep.lo,s.right.deep.hi=s.right.deep.hi,s.down.kind =
  s.down.kind,s.down.at_.lo=s.down.at_.lo,s.down.at_.hi=s.down.at_.hi,s.down.wide.lo=s.down.wide.lo,s.down.wide.hi=s.down.wide.hi,s.down.deep.lo=s.down.deep.lo,
  s.down.deep.hi=s.down.deep.hi,s.left.kind=s.left.kind,s.left.at_.lo=s.left.at_.lo,s.left.at_.hi=s.left.at_.hi,s.left.wide.lo=s.left.wide.lo,s.left.wide.hi =
  s.left.wide.hi,s.left.deep.lo=s.left.deep.lo,s.left.deep.hi=s.left.deep.hi]
abbrev ZI(d:Puz):List Prop:=
  [(d.ps.get c).up.kind=(d.ps.get c).up.kind,(d.ps.get c).up.at_.lo=(d.ps.get c).up.at_.lo,(d.ps.get c).up.at_.hi=(d.ps.get c).up.at_.hi,(d.ps.get c).up.wide.lo=(d.ps.get
  c).up.wide.lo,(d.ps.get c).up.wide.hi=(d.ps.get c).up.wide.hi,(d.ps.get c).up.deep.lo=(d.ps.get c).up.deep.lo,(d.ps.get c).up.deep.hi=(d.ps.get c).up.deep.hi,(d.ps.get
  c).right.kind=(d.ps.get c).right.kind,(d.ps.get c).right.at_.lo=(d.ps.get c).right.at_.lo,(d.ps.get c).right.at_.hi=(d.ps.get c).right.at_.hi,(d.ps.get c).right.wide.lo =
  (d.ps.get c).right.wide.lo,(d.ps.get c).right.wide.hi=(d.ps.get c).right.wide.hi,(d.ps.get c).right.deep.lo=(d.ps.get c).right.deep.lo,(d.ps.get c).right.deep.hi=(d.ps.get
  c).right.deep.hi,(d.ps.get c).down.kind=(d.ps.get c).down.kind,(d.ps.get c).down.at_.lo=(d.ps.get c).down.at_.lo,(d.ps.get c).down.at_.hi=(d.ps.get c).down.at_.hi,
  (d.ps.get c).down.wide.lo=(d.ps.get c).down.wide.lo,(d.ps.get c).down.wide.hi=(d.ps.get c).down.wide.hi,(d.ps.get c).down.deep.lo=(d.ps.get c).down.deep.lo,(d.ps.get
  c).down.deep.hi=(d.ps.get c).down.deep.hi,(d.ps.get c).left.kind=(d.ps.get c).left.kind,(d.ps.get c).left.at_.lo=(d.ps.get c).left.at_.lo,(d.ps.get c).left.at_.hi =
  (d.ps.get c).left.at_.hi,(d.ps.get c).left.wide.lo=(d.ps.get c).left.wide.lo,(d.ps.get c).left.wide.hi=(d.ps.get c).left.wide.hi,(d.ps.get c).left.deep.lo=(d.ps.get
  c).left.deep.lo,(d.ps.get c).left.deep.hi=(d.ps.get c).left.deep.hi,d.ps.n≤d.ps.n,QD 28 d.ps.n (fun i=>QA.enc (d.ps.get i)) fun i=>QA.enc (d.ps.get i)]
theorem QR4(o o':List QB)(c:Nat):QK 8 [.ptr 16 0 0,.slz 24 0 o.length cO,vi (c:Int),.ptr 32 0 0,.slz 0 0 d.ps.n cO,vi (d.ps.n:Int),vi (c:Int),
  .int true .i64 1] ((JZ c d o s)) (J5 d s o' c 1)=(some ((zj o o')++(ZZ c d)++[(c:Int)=(c:Int),(1:Int)=1]++(Y3 s)++(Y4 s)++[o'.length ≤
  o.length,QD 2 o'.length (fun i=>QA.enc (o.getD i ⟨0,0⟩)) fun i=>QA.enc (o'.getD i ⟨0,0⟩)]++(ZI c d))):=by kernel_rfl
abbrev GU(o:List QB)(o':List QB):List Prop:=
  [0=0,0=0,0=0,o.length+1=o'.length]
theorem QSv(o o':List QB)(c:Nat):QK 8 [.ptr 16 0 0,.slz 776 0 (o.length+1) cO,vi (c:Int),.ptr 32 0 0,.slz 0 0 d.ps.n cO,vi (d.ps.n:Int),vi (c :
  Int),vj 1] ([(X3 s),(QJa c o),(Yz c d),(Xy d)]) (J5 d s o' c 1)=(some ((GU o o')++(ZZ c d)++[(c:Int)=(c:Int),(1:Int)=1]++(Y3 s)
  ++ (Y4 s)++[o'.length≤o.length+1,QD 2 o'.length (QX o.length (fun i=>QA.enc (o.getD i ⟨0,0⟩)) (QR [[vi (c:Int),vj 0]] 0)) fun i
  => QA.enc (o'.getD i ⟨0,0⟩)]++(ZI c d))):=by kernel_rfl
theorem QSs(o o':List QB)(c:Nat):QK 8 [.ptr 16 0 0,.slz 24 0 o.length cO,vi (c:Int),.ptr 32 0 0,.slz 0 0 d.ps.n cO,vi (d.ps.n:Int),vi (c:Int),
  .int true .i64 2] ((JZ c d o s)) (J5 d s o' c 2)=(some ((zj o o')++(ZZ c d)++[(c:Int)=(c:Int),(2:Int)=2]++(Y3 s)++(Y4 s)++[o'.length ≤
  o.length,QD 2 o'.length (fun i=>QA.enc (o.getD i ⟨0,0⟩)) fun i=>QA.enc (o'.getD i ⟨0,0⟩)]++(ZI c d))):=by kernel_rfl
theorem QTA(o o':List QB)(c:Nat):QK 8 [.ptr 16 0 0,.slz 776 0 (o.length+1) cO,vi (c:Int),.ptr 32 0 0,.slz 0 0 d.ps.n cO,vi (d.ps.n:Int),vi (c :
  Int),vj 2] ([(X3 s),(QGM c o),(Yz c d),(Xy d)]) (J5 d s o' c 2)=(some ((GU o o')++(ZZ c d)++[(c:Int)=(c:Int),(2:Int)=2]++(Y3
  s)++(Y4 s)++[o'.length≤o.length+1,QD 2 o'.length (QX o.length (fun i=>QA.enc (o.getD i ⟨0,0⟩)) (QR [[vi (c:Int),vj 1]] 0)) fun
  i=>QA.enc (o'.getD i ⟨0,0⟩)]++(ZI c d))):=by kernel_rfl
theorem QNq(o o':List QB)(c:Nat):QK 8 [.ptr 16 0 0,.slz 24 0 o.length cO,vi (c:Int),.ptr 32 0 0,.slz 0 0 d.ps.n cO,vi (d.ps.n:Int),vi (c:Int),
  .int true .i64 3] ((JZ c d o s)) (J5 d s o' c 3)=(some ((zj o o')++(ZZ c d)++[(c:Int)=(c:Int),(3:Int)=3]++(Y3 s)++(Y4 s)++[o'.length ≤
  o.length,QD 2 o'.length (fun i=>QA.enc (o.getD i ⟨0,0⟩)) fun i=>QA.enc (o'.getD i ⟨0,0⟩)]++(ZI c d))):=by kernel_rfl
theorem QQJ(o o':List QB)(c:Nat):QK 8 [.ptr 16 0 0,.slz 776 0 (o.length+1) cO,vi (c:Int),.ptr 32 0 0,.slz 0 0 d.ps.n cO,vi (d.ps.n:Int),vi (c :
  Int),vj 3] ([(X3 s),(QMp c o),(Yz c d),(Xy d)]) (J5 d s o' c 3)=(some ((GU o o')++(ZZ c d)++[(c:Int)=(c:Int),(3:Int)=3]++(Y3
  s)++(Y4 s)++[o'.length≤o.length+1,QD 2 o'.length (QX o.length (fun i=>QA.enc (o.getD i ⟨0,0⟩)) (QR [[vi (c:Int),vj 2]] 0)) fun
  i=>QA.enc (o'.getD i ⟨0,0⟩)]++(ZI c d))):=by kernel_rfl
theorem QTb(o o':List QB)(c:Nat):QK 8 [.ptr 16 0 0,.slz 24 0 o.length cO,vi (c:Int),.ptr 32 0 0,.slz 0 0 d.ps.n cO,vi (d.ps.n:Int),vi (c:Int),
  .int true .i64 4] ((JZ c d o s)) (J5 d s o' c 4)=(some ((zj o o')++(ZZ c d)++[(c:Int)=(c:Int),(4:Int)=4]++(Y3 s)++(Y4 s)++[o'.length ≤
  o.length,QD 2 o'.length (fun i=>QA.enc (o.getD i ⟨0,0⟩)) fun i=>QA.enc (o'.getD i ⟨0,0⟩)]++(ZI c d))):=by kernel_rfl
theorem QOm(o o':List QB)(c:Nat):QK 8 [.ptr 16 0 0,.slz 776 0 (o.length+1) cO,vi (c:Int),.ptr 32 0 0,.slz 0 0 d.ps.n cO,vi (d.ps.n:Int),vi (c :
  Int),vj 4] ([(X3 s),(QLl c o),(Yz c d),(Xy d)]) (J5 d s o' c 4)=(some ((GU o o')++(ZZ c d)++[(c:Int)=(c:Int),(4:Int)=4]++(Y3
  s)++(Y4 s)++[o'.length≤o.length+1,QD 2 o'.length (QX o.length (fun i=>QA.enc (o.getD i ⟨0,0⟩)) (QR [[vi (c:Int),vj 3]] 0)) fun
  i=>QA.enc (o'.getD i ⟨0,0⟩)]++(ZI c d))):=by kernel_rfl
theorem QM3(o o':List QB)(c:Nat):QK 8 [.ptr 16 0 0,.slz 24 0 o.length cO,.slz 0 0 d.ps.n cO,vi (d.ps.n:Int),vi (c:Int)] ([(X3 s),(QEr o),(Xy d)]) (jx d s
  o' c)=(some ((zj o o')++[cO=cO,0=0,d.ps.n=d.ps.n,cO=cO,(d.ps.n:Int)=(d.ps.n:Int),(c:Int)=(c:Int)]++(Y3 s)++(Y4 s)
  ++ [o'.length≤o.length,QD 2 o'.length (fun i=>QA.enc (o.getD i ⟨0,0⟩)) fun i=>QA.enc (o'.getD i ⟨0,0⟩),d.ps.n≤d.ps.n,QD 28 d.ps.n (fun i=>QA.enc
  (d.ps.get i)) fun i=>QA.enc (d.ps.get i)])):=by kernel_rfl
end Go.Proofs.Ytbpffdkemeoajaa
namespace Go.SX
open Go Go.RowKit Go.Proofs.Ytbpffdkemeoajaa
variable {Q:AV→List (Nat×Blk)→Prop}
theorem QAS{q0 q1 q2 q3 m0 m1 m2 m3 n0 n1 n2 n3:Bool}{L0 L1 L2 L3 K:QC}(hm0:m0=true)(hm1:m1=true)(hm2:m2=true)(hm3:m3=true)(h0:n0=true)(h1:n1=true)(h2:n2=true)(h3:n3=true)(hno:(q0&&(q1&&(q2&&q3)))=false→L0.den Q∧L1.den Q∧L2.den Q∧L3.den Q)(hyes:(q0&&(q1&&(q2&&q3)))=true→K.den Q):
  (QC.need m0 (.need n0 (.br (!q0) L0 (.need m1 (.need n1 (.br (!q1) L1 (.need m2 (.need n2 (.br (!q2) L2 (.need m3 (.need n3 (.br (!q3) L3 K)))))))))))).den Q:=by
 subst hm0 hm1 hm2 hm3 h0 h1 h2 h3;refine QF rfl (QF rfl (QI (fun h => ?_) (fun h=>QF rfl (QF rfl (QI (fun h' => ?_) (fun h'=>QF rfl (QF rfl (QI (fun h'' => ?_) (fun h''=>QF rfl (QF rfl (QI (fun h''' => ?_) (fun h''' => ?_)))))))))))) 
 ·exact(hno (by cases q0<;>simp_all)).1
 ·exact(hno (by cases q0<;>cases q1<;>simp_all)).2.1
 ·exact(hno (by cases q0<;>cases q1<;>cases q2<;>simp_all)).2.2.1
 ·exact(hno (by cases q0<;>cases q1<;>cases q2<;>cases q3<;>simp_all)).2.2.2
 ·exact hyes (by cases q0<;>cases q1<;>cases q2<;>cases q3<;>simp_all)
theorem Z9{t t':QC}(e:t=t')(h:t'.den Q):YI Q t:=⟨e ▸ h⟩
end Go.SX
namespace Go.Proofs.Ytbpffdkemeoajaa
open Go.SX
def isS(x y:Edge):Bool:=cond (x.kind==0) (y.kind==0) (isF x y)
variable (d:Puz)(s:QG)
def Vg(c t:Nat):Bool:=isS (Kc s ((0+4-t) % 4)) (Kc (d.ps.get c) 0)&&(isS (Kc s ((1+4-t) % 4)) (Kc (d.ps.get c) 1)&&(isS (Kc s ((2+4-t) % 4)) (Kc (d.ps.get c) 2)&&isS (Kc s ((3+4-t) % 4)) (Kc (d.ps.get c) 3)))
def XQ(q:Bool)(l:List QB)(c t:Nat):List QB:=match q with
 | true=>l++[⟨c,t⟩]
 | false=>l
def KK(d:Puz)(s:QG)(l:List QB)(c:Nat):Nat→List QB
 | 0=>l
 | t+1=>XQ (Vg d s c t) (KK d s l c t) c t
def KG(d:Puz)(s:QG):Nat→List QB
 | 0=>[]
 | c+1=>KK d s (KG d s c) c 4
theorem QRd(q:Bool)(l:List QB)(c t:Nat):(XQ q l c t).length≤l.length+1:=by
 cases q<;>simp[XQ]
theorem QCZ(d:Puz)(s:QG)(l:List QB)(c:Nat):∀ t,(KK d s l c t).length≤l.length+t
 | 0=>qlr _
 | t+1=>by
  have:=QCZ d s l c t;have:=QRd (Vg d s c t) (KK d s l c t) c t;simp only[KK];omega
theorem qH(d:Puz)(s:QG):∀ c,(KG d s c).length≤4*c
 | 0=>qlr _
 | c+1=>by
  have:=qH d s c;have:=QCZ d s (KG d s c) c 4;simp only[KG];omega
theorem HZ(o:List QB)(c t:Nat):QD 2 (o++[(⟨c,t⟩:QB)]).length (QX o.length (fun i=>QA.enc (o.getD i ⟨0,0⟩)) (QR [[AV.int false i64 c,AV.int true i64 t]] 0)) (fun i=>QA.enc ((o++[(⟨c,t⟩:QB)]).getD i ⟨0,0⟩)):=by
 intro i hi;rw[List.length_append,List.length_singleton]at hi
 have key:∀ j,QX o.length (fun i=>QA.enc (o.getD i ⟨0,0⟩)) (QR [[AV.int false i64 c,AV.int true i64 t]] 0) i j=if i<o.length then QA.enc (o.getD i ⟨0,0⟩) j else Yk [AV.int false i64 c,AV.int true i64 t] j:=by
  intro j;rw[XI];split
  ·rfl
  ·rename_i h;have:i=o.length:=by omega
   subst this;simp[QR]
 have e:i<o.length→(o++[(⟨c,t⟩:QB)]).getD i ⟨0,0⟩=o.getD i ⟨0,0⟩:=fun h=>by rw[List.getD_eq_getElem?_getD,List.getD_eq_getElem?_getD,List.getElem?_append_left h]
 have e2:¬ i<o.length→(o++[(⟨c,t⟩:QB)]).getD i ⟨0,0⟩=⟨c,t⟩:=fun h=>by
  have:i=o.length:=by omega
  subst this;simp
 refine⟨?_,?_,trivial⟩
 ·show QX _ _ _ i 0=QA.enc ((o++[(⟨c,t⟩:QB)]).getD i ⟨0,0⟩) 0;rw[key 0];split
  ·rename_i h;rw[e h]
  ·rename_i h;rw[e2 h];rfl
 ·show QX _ _ _ i 1=QA.enc ((o++[(⟨c,t⟩:QB)]).getD i ⟨0,0⟩) 1;rw[key 1];split
  ·rename_i h;rw[e h]
  ·rename_i h;rw[e2 h];rfl
theorem QRt(o:List QB)(c:Nat)(ho:o.length≤4000):JW (fun t=>J5 d s (KK d s o c t) c t) (fun t=>t≤4) (fun t=>4-t) (fun _ e J=>e = .exit 2∧J=jx d s (KK d s o c 4) c) 8 qJ [] (mkE Try.prog Ko) (fun _=>hnd (mkE Try.prog Ko) 6) (VZ (Qa Try.f43 0)):=by
 refine⟨fun t g ht => ?_⟩;have nd:∀ b:Bool,(cond b true true)=true:=fun b=>by cases b<;>rfl
 have hlen:=QCZ d s o c t;rcases(by have:=ht;omega:t=0∨t=1∨t=2∨t=3∨t=4)with rfl|rfl|rfl|rfl|rfl
 ·refine Z9 (QRa d s _ c g) (QAS rfl rfl rfl rfl (nd _) (nd _) (nd _) (nd _) (fun hq => ?_) (fun hq => ?_))
  ·have hq:Vg d s c 0=false:=hq;have e:KK d s o c 1=KK d s o c 0:=by simp only[KK,hq,XQ]
   refine⟨?_,?_,?_,?_⟩<;>(
    refine⟨1,by decide,by decide,fun _ _ h=>h,rfl,rfl,_,QR4 _ _ _ _ _,?_⟩
    rw[e]
    repeat' first|exact trivial|with_reducible rfl|exact qlr _|exact qRr|refine And.intro ?_ ?_)
  ·have hq:Vg d s c 0=true:=hq;have e:KK d s o c 1=KK d s o c 0++[⟨(c:Nat),(0:Nat)⟩]:=by simp only[KK,hq,XQ]
   refine QF (by simp;omega) ⟨1,by decide,by decide,fun _ _ h=>h,rfl,rfl,_,QSv _ _ _ _ _,?_⟩
   rw[e]
   repeat' first|exact trivial|with_reducible rfl|exact qlr _|exact qRr|refine And.intro ?_ ?_
   ·simp
   ·simp
   ·exact HZ _ c 0
 ·refine Z9 (QTF d s _ c g) (QAS rfl rfl rfl rfl (nd _) (nd _) (nd _) (nd _) (fun hq => ?_) (fun hq => ?_))
  ·have hq:Vg d s c 1=false:=hq;have e:KK d s o c 2=KK d s o c 1:=by simp only[KK,hq,XQ]
   refine⟨?_,?_,?_,?_⟩<;>(
    refine⟨2,by decide,by decide,fun _ _ h=>h,rfl,rfl,_,QSs _ _ _ _ _,?_⟩
    rw[e]
    repeat' first|exact trivial|with_reducible rfl|exact qlr _|exact qRr|refine And.intro ?_ ?_)
  ·have hq:Vg d s c 1=true:=hq;have e:KK d s o c 2=KK d s o c 1++[⟨(c:Nat),(1:Nat)⟩]:=by simp only[KK,hq,XQ]
   refine QF (by simp;omega) ⟨2,by decide,by decide,fun _ _ h=>h,rfl,rfl,_,QTA _ _ _ _ _,?_⟩
   rw[e]
   repeat' first|exact trivial|with_reducible rfl|exact qlr _|exact qRr|refine And.intro ?_ ?_
   ·simp
   ·simp
   ·exact HZ _ c 1
 ·refine Z9 (QTD d s _ c g) (QAS rfl rfl rfl rfl (nd _) (nd _) (nd _) (nd _) (fun hq => ?_) (fun hq => ?_))
  ·have hq:Vg d s c 2=false:=hq;have e:KK d s o c 3=KK d s o c 2:=by simp only[KK,hq,XQ]
   refine⟨?_,?_,?_,?_⟩<;>(
    refine⟨3,by decide,by decide,fun _ _ h=>h,rfl,rfl,_,QNq _ _ _ _ _,?_⟩
    rw[e]
    repeat' first|exact trivial|with_reducible rfl|exact qlr _|exact qRr|refine And.intro ?_ ?_)
  ·have hq:Vg d s c 2=true:=hq;have e:KK d s o c 3=KK d s o c 2++[⟨(c:Nat),(2:Nat)⟩]:=by simp only[KK,hq,XQ]
   refine QF (by simp;omega) ⟨3,by decide,by decide,fun _ _ h=>h,rfl,rfl,_,QQJ _ _ _ _ _,?_⟩
   rw[e]
   repeat' first|exact trivial|with_reducible rfl|exact qlr _|exact qRr|refine And.intro ?_ ?_
   ·simp
   ·simp
   ·exact HZ _ c 2
 ·refine Z9 (QUH d s _ c g) (QAS rfl rfl rfl rfl (nd _) (nd _) (nd _) (nd _) (fun hq => ?_) (fun hq => ?_))
  ·have hq:Vg d s c 3=false:=hq;have e:KK d s o c 4=KK d s o c 3:=by simp only[KK,hq,XQ]
   refine⟨?_,?_,?_,?_⟩<;>(
    refine⟨4,by decide,by decide,fun _ _ h=>h,rfl,rfl,_,QTb _ _ _ _ _,?_⟩
    rw[e]
    repeat' first|exact trivial|with_reducible rfl|exact qlr _|exact qRr|refine And.intro ?_ ?_)
  ·have hq:Vg d s c 3=true:=hq;have e:KK d s o c 4=KK d s o c 3++[⟨(c:Nat),(3:Nat)⟩]:=by simp only[KK,hq,XQ]
   refine QF (by simp;omega) ⟨4,by decide,by decide,fun _ _ h=>h,rfl,rfl,_,QOm _ _ _ _ _,?_⟩
   rw[e]
   repeat' first|exact trivial|with_reducible rfl|exact qlr _|exact qRr|refine And.intro ?_ ?_
   ·simp
   ·simp
   ·exact HZ _ c 3
 ·refine Z9 (QPV d s _ c g) ?_;refine⟨_,⟨rfl,rfl⟩,rfl,rfl,_,QM3 _ _ _ _ _,?_⟩
  repeat' first|exact trivial|with_reducible rfl|exact qlr _|exact qRr|refine And.intro ?_ ?_
end Go.Proofs.Ytbpffdkemeoajaa
