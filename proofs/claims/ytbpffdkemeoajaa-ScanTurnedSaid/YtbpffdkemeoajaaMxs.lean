/- - -/
import Derived.Test.YtbpffdkemeoajaaMxr
open Go.IntKind (i64)
set_option maxRecDepth 100000
namespace Go.Proofs.Ytbpffdkemeoajaa
open Go.SX
variable (d:Puz)(c:Nat)(g:Nat→Value)
def QFz:List AV:=[.int false .i64 d.play.length,.int false .i64 d.play.slack,.int false .i64 d.play.loose,.int false .i64 d.play.damp.lo,.int false .i64 d.play.damp.hi,.int false .i64 d.wide,.int false .i64 d.high,.bool false d.turn,.slz 0 0 d.ps.n (.of 0)]
def QAH:JSt:=⟨62,[(1,.ptr 8 0 0),(16,.slz 0 0 d.ps.n (.of 0)),(17,.int false .i64 d.ps.n),(18,.int false .i64 c)],[(8,.cells 0 28 (QFz d))]++Qz.blk 0 d.ps,96⟩
def QJU:Ex→List Nat
 | .normal=>[1,16,17,18]
 | .exit _=>[]
 | .ret=>[2,3,4]
noncomputable abbrev QJY:List AV:=
  [.nili,.ptr 62 0 0,vi (c:Int),vj 0,vj 0]
noncomputable abbrev G2:List AV:=
  [.nili,.ptr 62 0 0,vi (c:Int),vj 1,vj 0]
noncomputable abbrev ZI:List AV:=
  [.nili,.ptr 62 0 0,vi (c:Int),vj 2,vj 0]
noncomputable abbrev Jw:List AV:=
  [.nili,.ptr 62 0 0,vi (c:Int),vj 3,vj 0]
noncomputable abbrev J5(d:Puz):List AV:=
  [.nilp,.ptr 62 0 0,.ptr 8 0 0,.slz 0 0 d.ps.n cO,vi (d.ps.n:Int),vi (i64.wrap ((c:Int)+1))]
noncomputable abbrev Jk:List (Nat×Blk):=
  [(8,.cells 0 28 [vi d.play.length,vi d.play.slack,vi d.play.loose,vi d.play.damp.lo,vi d.play.damp.hi,.int
  false .i64 d.wide,vi d.high,.bool false d.turn,.slz 0 0 d.ps.n cO]),(0,.frz [.int .i64,.int .i64,.int .i64,.int .i64,.int .i64,.int .i64,.int .i64,
  .int .i64,.int .i64,.int .i64,.int .i64,.int .i64,.int .i64,.int .i64,.int .i64,.int .i64,.int .i64,.int .i64,.int .i64,.int .i64,.int .i64,.int .i64,.int .i64,.int
  .i64,.int .i64,.int .i64,.int .i64,.int .i64] d.ps.n fun i=>QA.enc (d.ps.get i))]
theorem QQX :exec (mkE Try.prog Xe) (hnd (mkE Try.prog Xe) 6) (QZ Try.f13 0) (JSt.inst (QAH d c) g) (KW [] QJU) = .br (decide ((c:Int)<(d.ps.n:Int))) (.need
  (decide ((0:Int)≤(c:Int)∧(c:Int)<(d.ps.n:Int))&&decide (d.ps.n≤d.ps.n)) (.need (decide (c<d.ps.n)) (.need (decide (d.ps.n≤d.ps.n)&&(true&&(true&&true))
  && decide (((1:Int)≤d.wide∧d.wide≤100)∧((1:Int)≤d.high∧d.high≤100)∧(0:Int)≤(c:Int)∧(c:Int)≤100)) (.br (QT d.wide d.high (c:Int) (0:Int) == -1)
  (.br ((d.ps.get c).up.kind != 0) (.leaf (.tup (QJY c)) ([])) (.need (decide (d.ps.n≤d.ps.n)&&(true&&(true&&true))&&decide (((1:Int)≤d.wide∧d.wide≤100)∧((1 :
  Int)≤d.high∧d.high≤100)∧(0:Int)≤(c:Int)∧(c:Int)≤100)) (.br (QT d.wide d.high (c:Int) (1:Int) == -1) (.br ((d.ps.get c).right.kind != 0) (.leaf (.tup (G2
  c)) ([])) (.need (decide (d.ps.n≤d.ps.n)&&(true&&(true&&true))&&decide (((1:Int)≤d.wide∧d.wide≤100)∧((1:Int)≤d.high∧d.high≤100)∧(0:Int)≤(c:Int) ∧
  (c:Int)≤100)) (.br (QT d.wide d.high (c:Int) (2:Int) == -1) (.br ((d.ps.get c).down.kind != 0) (.leaf (.tup (ZI c)) ([])) (.need (decide (d.ps.n≤d.ps.n)&&(true &&
  (true&&true))&&decide (((1:Int)≤d.wide∧d.wide≤100)∧((1:Int)≤d.high∧d.high≤100)∧(0:Int)≤(c:Int)∧(c:Int)≤100)) (.br (QT d.wide d.high (c:Int)
  (3:Int) == -1) (.br ((d.ps.get c).left.kind != 0) (.leaf (.tup (Jw c)) ([])) (.leaf (.tup (J5 c d)) ((Jk d)))) (.need (decide ((0:Int)≤QT d.wide d.high (c:Int) (3 :
  Int)∧QT d.wide d.high (c:Int) (3:Int)<(d.ps.n:Int))&&decide (d.ps.n≤d.ps.n)) (.need (decide ((QT d.wide d.high (c:Int) (3:Int)).toNat<d.ps.n)) (.need (true)
  (.br ((KA d.play (d.ps.get c).left (d.ps.get (QT d.wide d.high (c:Int) (3:Int)).toNat).right).1 != 2) (.leaf (.tup (Jw c)) ([])) (.leaf (.tup (J5 c d)) ((Jk
  d)))))))))) (.need (decide ((0:Int)≤QT d.wide d.high (c:Int) (2:Int)∧QT d.wide d.high (c:Int) (2:Int)<(d.ps.n:Int))&&decide (d.ps.n≤d.ps.n)) (.need (decide
  ((QT d.wide d.high (c:Int) (2:Int)).toNat<d.ps.n)) (.need (true) (.br ((KA d.play (d.ps.get c).down (d.ps.get (QT d.wide d.high (c:Int) (2:Int)).toNat).up).1 != 2)
  (.leaf (.tup (ZI c)) ([])) (.need (decide (d.ps.n≤d.ps.n)&&(true&&(true&&true))&&decide (((1:Int)≤d.wide∧d.wide≤100)∧((1:Int)≤d.high∧d.high≤100)∧(0 :
  Int)≤(c:Int)∧(c:Int)≤100)) (.br (QT d.wide d.high (c:Int) (3:Int) == -1) (.br ((d.ps.get c).left.kind != 0) (.leaf (.tup (Jw c)) ([])) (.leaf (.tup (J5 c d))
  ((Jk d)))) (.need (decide ((0:Int)≤QT d.wide d.high (c:Int) (3:Int)∧QT d.wide d.high (c:Int) (3:Int)<(d.ps.n:Int))&&decide (d.ps.n≤d.ps.n)) (.need
  (decide ((QT d.wide d.high (c:Int) (3:Int)).toNat<d.ps.n)) (.need (true) (.br ((KA d.play (d.ps.get c).left (d.ps.get (QT d.wide d.high (c:Int) (3 :
  Int)).toNat).right).1 != 2) (.leaf (.tup (Jw c)) ([])) (.leaf (.tup (J5 c d)) ((Jk d)))))))))))))))) (.need (decide ((0:Int)≤QT d.wide d.high (c:Int) (1:Int)∧QT
  d.wide d.high (c:Int) (1:Int)<(d.ps.n:Int))&&decide (d.ps.n≤d.ps.n)) (.need (decide ((QT d.wide d.high (c:Int) (1:Int)).toNat<d.ps.n)) (.need (true) (.br ((KA
  d.play (d.ps.get c).right (d.ps.get (QT d.wide d.high (c:Int) (1:Int)).toNat).left).1 != 2) (.leaf (.tup (G2 c)) ([])) (.need (decide (d.ps.n≤d.ps.n)&&(true&&(true &&
  true))&&decide (((1:Int)≤d.wide∧d.wide≤100)∧((1:Int)≤d.high∧d.high≤100)∧(0:Int)≤(c:Int)∧(c:Int)≤100)) (.br (QT d.wide d.high (c:Int) (2:Int)
  == -1) (.br ((d.ps.get c).down.kind != 0) (.leaf (.tup (ZI c)) ([])) (.need (decide (d.ps.n≤d.ps.n)&&(true&&(true&&true))&&decide (((1:Int)≤d.wide∧d.wide≤100) ∧
  ((1:Int)≤d.high∧d.high≤100)∧(0:Int)≤(c:Int)∧(c:Int)≤100)) (.br (QT d.wide d.high (c:Int) (3:Int) == -1) (.br ((d.ps.get c).left.kind != 0) (.leaf (.tup
  (Jw c)) ([])) (.leaf (.tup (J5 c d)) ((Jk d)))) (.need (decide ((0:Int)≤QT d.wide d.high (c:Int) (3:Int)∧QT d.wide d.high (c:Int) (3:Int)<(d.ps.n:Int))
  && decide (d.ps.n≤d.ps.n)) (.need (decide ((QT d.wide d.high (c:Int) (3:Int)).toNat<d.ps.n)) (.need (true) (.br ((KA d.play (d.ps.get c).left (d.ps.get (QT d.wide
  d.high (c:Int) (3:Int)).toNat).right).1 != 2) (.leaf (.tup (Jw c)) ([])) (.leaf (.tup (J5 c d)) ((Jk d)))))))))) (.need (decide ((0:Int)≤QT d.wide d.high (c:Int)
  (2:Int)∧QT d.wide d.high (c:Int) (2:Int)<(d.ps.n:Int))&&decide (d.ps.n≤d.ps.n)) (.need (decide ((QT d.wide d.high (c:Int) (2:Int)).toNat<d.ps.n)) (.need
  (true) (.br ((KA d.play (d.ps.get c).down (d.ps.get (QT d.wide d.high (c:Int) (2:Int)).toNat).up).1 != 2) (.leaf (.tup (ZI c)) ([])) (.need (decide (d.ps.n≤d.ps.n) &&
  (true&&(true&&true))&&decide (((1:Int)≤d.wide∧d.wide≤100)∧((1:Int)≤d.high∧d.high≤100)∧(0:Int)≤(c:Int)∧(c:Int)≤100)) (.br (QT d.wide d.high (c
  : Int) (3:Int) == -1) (.br ((d.ps.get c).left.kind != 0) (.leaf (.tup (Jw c)) ([])) (.leaf (.tup (J5 c d)) ((Jk d)))) (.need (decide ((0:Int)≤QT d.wide d.high (c :
  Int) (3:Int)∧QT d.wide d.high (c:Int) (3:Int)<(d.ps.n:Int))&&decide (d.ps.n≤d.ps.n)) (.need (decide ((QT d.wide d.high (c:Int) (3:Int)).toNat<d.ps.n))
  (.need (true) (.br ((KA d.play (d.ps.get c).left (d.ps.get (QT d.wide d.high (c:Int) (3:Int)).toNat).right).1 != 2) (.leaf (.tup (Jw c)) ([])) (.leaf (.tup (J5 c d))
  ((Jk d)))))))))))))))))))))) (.need (decide ((0:Int)≤QT d.wide d.high (c:Int) (0:Int)∧QT d.wide d.high (c:Int) (0:Int)<(d.ps.n:Int))&&decide (d.ps.n ≤
  d.ps.n)) (.need (decide ((QT d.wide d.high (c:Int) (0:Int)).toNat<d.ps.n)) (.need (true) (.br ((KA d.play (d.ps.get c).up (d.ps.get (QT d.wide d.high (c:Int) (0 :
  Int)).toNat).down).1 != 2) (.leaf (.tup (QJY c)) ([])) (.need (decide (d.ps.n≤d.ps.n)&&(true&&(true&&true))&&decide (((1:Int)≤d.wide∧d.wide≤100)∧((1:Int) ≤
  d.high∧d.high≤100)∧(0:Int)≤(c:Int)∧(c:Int)≤100)) (.br (QT d.wide d.high (c:Int) (1:Int) == -1) (.br ((d.ps.get c).right.kind != 0) (.leaf (.tup (G2 c))
  ([])) (.need (decide (d.ps.n≤d.ps.n)&&(true&&(true&&true))&&decide (((1:Int)≤d.wide∧d.wide≤100)∧((1:Int)≤d.high∧d.high≤100)∧(0:Int)≤(c:Int)∧(c
  : Int)≤100)) (.br (QT d.wide d.high (c:Int) (2:Int) == -1) (.br ((d.ps.get c).down.kind != 0) (.leaf (.tup (ZI c)) ([])) (.need (decide (d.ps.n≤d.ps.n)&&(true&&(true
  && true))&&decide (((1:Int)≤d.wide∧d.wide≤100)∧((1:Int)≤d.high∧d.high≤100)∧(0:Int)≤(c:Int)∧(c:Int)≤100)) (.br (QT d.wide d.high (c:Int) (3 :
  Int) == -1) (.br ((d.ps.get c).left.kind != 0) (.leaf (.tup (Jw c)) ([])) (.leaf (.tup (J5 c d)) ((Jk d)))) (.need (decide ((0:Int)≤QT d.wide d.high (c:Int) (3:Int)
  ∧ QT d.wide d.high (c:Int) (3:Int)<(d.ps.n:Int))&&decide (d.ps.n≤d.ps.n)) (.need (decide ((QT d.wide d.high (c:Int) (3:Int)).toNat<d.ps.n)) (.need (true) (.br
  ((KA d.play (d.ps.get c).left (d.ps.get (QT d.wide d.high (c:Int) (3:Int)).toNat).right).1 != 2) (.leaf (.tup (Jw c)) ([])) (.leaf (.tup (J5 c d)) ((Jk d))))))))))
  (.need (decide ((0:Int)≤QT d.wide d.high (c:Int) (2:Int)∧QT d.wide d.high (c:Int) (2:Int)<(d.ps.n:Int))&&decide (d.ps.n≤d.ps.n)) (.need (decide ((QT
  d.wide d.high (c:Int) (2:Int)).toNat<d.ps.n)) (.need (true) (.br ((KA d.play (d.ps.get c).down (d.ps.get (QT d.wide d.high (c:Int) (2:Int)).toNat).up).1 != 2) (.leaf
  (.tup (ZI c)) ([])) (.need (decide (d.ps.n≤d.ps.n)&&(true&&(true&&true))&&decide (((1:Int)≤d.wide∧d.wide≤100)∧((1:Int)≤d.high∧d.high≤100)∧(0:Int) ≤
  (c:Int)∧(c:Int)≤100)) (.br (QT d.wide d.high (c:Int) (3:Int) == -1) (.br ((d.ps.get c).left.kind != 0) (.leaf (.tup (Jw c)) ([])) (.leaf (.tup (J5 c d)) ((Jk
  d)))) (.need (decide ((0:Int)≤QT d.wide d.high (c:Int) (3:Int)∧QT d.wide d.high (c:Int) (3:Int)<(d.ps.n:Int))&&decide (d.ps.n≤d.ps.n)) (.need (decide
  ((QT d.wide d.high (c:Int) (3:Int)).toNat<d.ps.n)) (.need (true) (.br ((KA d.play (d.ps.get c).left (d.ps.get (QT d.wide d.high (c:Int) (3:Int)).toNat).right).1 !=
  2) (.leaf (.tup (Jw c)) ([])) (.leaf (.tup (J5 c d)) ((Jk d)))))))))))))))) (.need (decide ((0:Int)≤QT d.wide d.high (c:Int) (1:Int)∧QT d.wide d.high (c:Int)
  (1:Int)<(d.ps.n:Int))&&decide (d.ps.n≤d.ps.n)) (.need (decide ((QT d.wide d.high (c:Int) (1:Int)).toNat<d.ps.n)) (.need (true) (.br ((KA d.play (d.ps.get
  c).right (d.ps.get (QT d.wide d.high (c:Int) (1:Int)).toNat).left).1 != 2) (.leaf (.tup (G2 c)) ([])) (.need (decide (d.ps.n≤d.ps.n)&&(true&&(true&&true))&&decide
  (((1:Int)≤d.wide∧d.wide≤100)∧((1:Int)≤d.high∧d.high≤100)∧(0:Int)≤(c:Int)∧(c:Int)≤100)) (.br (QT d.wide d.high (c:Int) (2:Int) == -1) (.br
  ((d.ps.get c).down.kind != 0) (.leaf (.tup (ZI c)) ([])) (.need (decide (d.ps.n≤d.ps.n)&&(true&&(true&&true))&&decide (((1:Int)≤d.wide∧d.wide≤100)∧((1:Int) ≤
  d.high∧d.high≤100)∧(0:Int)≤(c:Int)∧(c:Int)≤100)) (.br (QT d.wide d.high (c:Int) (3:Int) == -1) (.br ((d.ps.get c).left.kind != 0) (.leaf (.tup (Jw c))
  ([])) (.leaf (.tup (J5 c d)) ((Jk d)))) (.need (decide ((0:Int)≤QT d.wide d.high (c:Int) (3:Int)∧QT d.wide d.high (c:Int) (3:Int)<(d.ps.n:Int))&&decide
  (d.ps.n≤d.ps.n)) (.need (decide ((QT d.wide d.high (c:Int) (3:Int)).toNat<d.ps.n)) (.need (true) (.br ((KA d.play (d.ps.get c).left (d.ps.get (QT d.wide d.high (c :
  Int) (3:Int)).toNat).right).1 != 2) (.leaf (.tup (Jw c)) ([])) (.leaf (.tup (J5 c d)) ((Jk d)))))))))) (.need (decide ((0:Int)≤QT d.wide d.high (c:Int) (2:Int) ∧
  QT d.wide d.high (c:Int) (2:Int)<(d.ps.n:Int))&&decide (d.ps.n≤d.ps.n)) (.need (decide ((QT d.wide d.high (c:Int) (2:Int)).toNat<d.ps.n)) (.need (true) (.br
  ((KA d.play (d.ps.get c).down (d.ps.get (QT d.wide d.high (c:Int) (2:Int)).toNat).up).1 != 2) (.leaf (.tup (ZI c)) ([])) (.need (decide (d.ps.n≤d.ps.n)&&(true&&(true
  && true))&&decide (((1:Int)≤d.wide∧d.wide≤100)∧((1:Int)≤d.high∧d.high≤100)∧(0:Int)≤(c:Int)∧(c:Int)≤100)) (.br (QT d.wide d.high (c:Int) (3 :
  Int) == -1) (.br ((d.ps.get c).left.kind != 0) (.leaf (.tup (Jw c)) ([])) (.leaf (.tup (J5 c d)) ((Jk d)))) (.need (decide ((0:Int)≤QT d.wide d.high (c:Int) (3:Int)
  ∧ QT d.wide d.high (c:Int) (3:Int)<(d.ps.n:Int))&&decide (d.ps.n≤d.ps.n)) (.need (decide ((QT d.wide d.high (c:Int) (3:Int)).toNat<d.ps.n)) (.need (true) (.br
  ((KA d.play (d.ps.get c).left (d.ps.get (QT d.wide d.high (c:Int) (3:Int)).toNat).right).1 != 2) (.leaf (.tup (Jw c)) ([])) (.leaf (.tup (J5 c d)) ((Jk
  d))))))))))))))))))))))))))))) (.leaf (.tup [.ptr 0 0 0,.ptr 62 0 0]) ([])):=by kernel_rfl
def Wp(c s:Nat):JSt:=⟨62,[(2,.int false .i64 c),(3,.int false .i64 s),(4,.int false .i64 0)],[],96⟩
def QB2:JSt:=⟨62,[],[],96⟩
theorem QPR(c c' s':Nat):QO 8 [AV.int false i64 (↑c:Int),AV.int true i64 (0:Int),AV.int true i64 (0:Int)] ([]) (Wp c' s')=(
  some [(↑c:Int)=(↑c':Int),(0:Int)=(↑s':Int),(0:Int)=(0:Int)]):=by kernel_rfl
theorem QQt(c c' s':Nat):QO 8 [AV.int false i64 (↑c:Int),AV.int true i64 (1:Int),AV.int true i64 (0:Int)] ([]) (Wp c' s')=(
  some [(↑c:Int)=(↑c':Int),(1:Int)=(↑s':Int),(0:Int)=(0:Int)]):=by kernel_rfl
theorem QVX(c c' s':Nat):QO 8 [AV.int false i64 (↑c:Int),AV.int true i64 (2:Int),AV.int true i64 (0:Int)] ([]) (Wp c' s')=(
  some [(↑c:Int)=(↑c':Int),(2:Int)=(↑s':Int),(0:Int)=(0:Int)]):=by kernel_rfl
theorem QPj(c c' s':Nat):QO 8 [AV.int false i64 (↑c:Int),AV.int true i64 (3:Int),AV.int true i64 (0:Int)] ([]) (Wp c' s')=(
  some [(↑c:Int)=(↑c':Int),(3:Int)=(↑s':Int),(0:Int)=(0:Int)]):=by kernel_rfl
theorem QRI(c c':Nat):QO 8 [.ptr 8 0 0,.slz 0 0 d.ps.n cO,vi (d.ps.n:Int),vi (i64.wrap ((c:Int)+1))] ((Jk d)) (QAH d c')=(some [0=0,0=0,0
  = 0,d.ps.n=d.ps.n,cO=cO,(d.ps.n:Int)=(d.ps.n:Int),i64.wrap ((c:Int)+1)=(c':Int),d.play.length=d.play.length,d.play.slack =
  d.play.slack,d.play.loose=d.play.loose,d.play.damp.lo=d.play.damp.lo,d.play.damp.hi=d.play.damp.hi,d.wide=d.wide,d.high=d.high,d.turn=d.turn,0=0,d.ps.n =
  d.ps.n,cO=cO,d.ps.n≤d.ps.n,QE 28 d.ps.n (fun i=>QA.enc (d.ps.get i)) fun i=>QA.enc (d.ps.get i)]):=by kernel_rfl
theorem QOo :QO 8 [] ([]) QB2=(
  some []):=by kernel_rfl
end Go.Proofs.Ytbpffdkemeoajaa
namespace Go.SX
open Go Go.RowKit Go.Proofs.Ytbpffdkemeoajaa
variable {Q:AV→List (Nat×Blk)→Prop}
theorem GG{A b1 b2 b3 n1 n2 x:Bool}{L K:QB}(hA:A=true)(hn:b1=false→n1=true∧n2=true)(hx:x=cond b1 b2 b3)(hr:x=true→L.den Q)(hk:x=false→K.den Q):
  (QB.need A (.br b1 (.br b2 L K) (.need n1 (.need n2 (.need true (.br b3 L K)))))).den Q:=by
 refine QF hA (QK (fun h1 => ?_) (fun h1 => ?_))
 ·rw[h1]at hx;exact QK (fun h=>hr (by rw[hx,h];rfl)) (fun h=>hk (by rw[hx,h];rfl))
 ·rw[h1]at hx;exact QF (hn h1).1 (QF (hn h1).2 (QF rfl (QK (fun h=>hr (by rw[hx,h];rfl)) (fun h=>hk (by rw[hx,h];rfl)))))
end Go.SX
namespace Go.Proofs.Ytbpffdkemeoajaa
open Go.SX
def Xf(x:QI):Nat→Edge
 | 0=>x.up
 | 1=>x.right
 | 2=>x.down
 | _=>x.left
variable (d:Puz)(c:Nat)
def Yj(c s:Nat):Bool:=cond (QT d.wide d.high c s == -1) ((Xf (d.ps.get c) s).kind != 0) ((KA d.play (Xf (d.ps.get c) s) (Xf (d.ps.get (QT d.wide d.high c s).toNat) ((s+2) % 4))).1 != 2)
def Vi(i:Nat):Bool:=Yj d (i / 4) (i % 4)
structure Z6 (d:Puz):Prop where
 n9:d.ps.n≤9
 w1:1≤d.wide
 wn:d.wide≤d.ps.n
 h1:1≤d.high
 hn:d.high≤d.ps.n
 wh:d.wide*d.high=d.ps.n
theorem QL9{d:Puz}(h:d.ok=true):Z6 d:=by
 simp only[Puz.ok,Puz.okN,QX,qbA,qdE,beq_iff_eq]at h;obtain⟨⟨⟨a1,a2⟩,⟨b1,b2⟩,⟨c1,c2⟩,e⟩,_⟩:=h;have hw:d.wide≤9:=by omega
 have hh:d.high≤9:=by omega
 have hm:d.wide*d.high≤9*9:=Int.mul_le_mul hw hh (by omega) (by omega)
 have hm0:0≤d.wide*d.high:=Int.mul_nonneg (by omega) (by omega)
 rw[w64 (by omega) (by omega)]at e
 exact⟨by omega,b1,b2,c1,c2,e⟩
theorem QRS{d:Puz}(h:Z6 d){c s:Nat}(hc:c<d.ps.n)(hb:(QT d.wide d.high c s == -1)=false):0≤QT d.wide d.high c s∧QT d.wide d.high c s<d.ps.n:=by
 have w1:=h.w1;have m0:0≤(c:Int).tmod d.wide:=Int.tmod_nonneg _ (by omega)
 have m1:(c:Int).tmod d.wide<d.wide:=Int.tmod_lt_of_pos _ (by omega)
 have q0:0≤(c:Int).tdiv d.wide:=Int.tdiv_nonneg (by omega) (by omega)
 have e:=Int.tmod_def (c:Int) d.wide;have wh:=h.wh;simp only[QT]at hb ⊢;generalize (c:Int).tdiv d.wide=q at *;generalize (c:Int).tmod d.wide=m at *
 have hq:q<d.high:=by
  rcases Int.lt_or_le q d.high with g|g
  ·exact g
  ·have:=Int.mul_le_mul_of_nonneg_left g (show 0≤d.wide by omega)
   omega
 have p0:0≤d.wide*q:=Int.mul_nonneg (by omega) q0
 have a1:d.wide*(q+1)≤d.wide*d.high:=Int.mul_le_mul_of_nonneg_left (by omega) (by omega)
 have e1:d.wide*(q+1)=d.wide*q+d.wide:=by rw[Int.mul_add,Int.mul_one]
 cases x0:((s:Int)==0&&decide (0<q))with
 | true=>
  simp only[cond_true];simp only[qbA,qdE]at x0;have:=Int.mul_le_mul_of_nonneg_left (show 1≤q by omega) (show 0≤d.wide by omega)
  omega
 | false=>
  simp only[x0,cond_false]at hb ⊢;cases x1:((s:Int)==1&&decide (m<d.wide-1))with
  | true=>
   simp only[cond_true];simp only[qbA,qdE]at x1;omega
  | false=>
   simp only[x1,cond_false]at hb ⊢;cases x2:((s:Int)==2&&decide (q<d.high-1))with
   | true=>
    simp only[cond_true];simp only[qbA,qdE]at x2;have a2:d.wide*(q+2)≤d.wide*d.high:=Int.mul_le_mul_of_nonneg_left (by omega) (by omega)
    have e2:d.wide*(q+2)=d.wide*q+d.wide*2:=by rw[Int.mul_add]
    omega
   | false=>
    simp only[x2,cond_false]at hb ⊢;cases x3:((s:Int)==3&&decide (0<m))with
    | true=>
     simp only[cond_true];simp only[qbA,qdE]at x3;omega
    | false=>
     simp only[x3,cond_false]at hb;exact absurd hb (by decide)
def QE7(e:Ex)(J:JSt):Prop:=(∃ i,e = .ret∧QL (Vi d) (4*(d.ps.n-c)) (4*c)=some i∧J=Wp (i / 4) (i % 4))∨(e = .exit 0∧QL (Vi d) (4*(d.ps.n-c)) (4*c)=none∧J=QB2)
theorem QOU(hd:Z6 d):JD (QAH d) (fun c=>c≤d.ps.n) (fun c=>d.ps.n-c) (QE7 d) 8 QJU [] (mkE Try.prog Xe) (fun _=>hnd (mkE Try.prog Xe) 6) (QZ Try.f13 0):=by
 refine⟨fun c g hk=>⟨vY (QQX d c g) ?_⟩⟩;have n9:=hd.n9;refine QK (fun h => ?_) (fun h => ?_)
 ·have h:c<d.ps.n:=by have:=qdt h;omega
  have hw:=hd.w1;have hwn:=hd.wn;have hh:=hd.h1;have hhn:=hd.hn
  have hA:(decide (d.ps.n≤d.ps.n)&&(true&&(true&&true))&&decide (((1:Int)≤d.wide∧d.wide≤(100:Int))∧((1:Int)≤d.high∧d.high≤(100:Int))∧(0:Int)≤(c:Int)∧(c:Int)≤(100:Int)))=true:=by
   simp only[qlr,decide_true,Bool.true_and,qdE];omega
  have hn:∀ s:Nat,(QT d.wide d.high c s == -1)=false→(decide (0≤QT d.wide d.high c s∧QT d.wide d.high c s<(d.ps.n:Int))&&decide (d.ps.n≤d.ps.n))=true∧decide ((QT d.wide d.high c s).toNat<d.ps.n)=true:=fun s hb=>by
   have:=QRS hd h hb;simp only[qlr,decide_true,Bool.and_true,qdE];omega
  obtain⟨m,hm⟩:∃ m,4*(d.ps.n-c)=m+1+1+1+1:=⟨4*(d.ps.n-c)-4,by omega⟩
  have hm':4*(d.ps.n-(c+1))=m:=by omega
  have q0:Vi d (4*c)=Yj d c 0:=by unfold Vi;rw[show 4*c / 4=c by omega,show 4*c % 4=0 by omega]
  have q1:Vi d (4*c+1)=Yj d c 1:=by unfold Vi;rw[show(4*c+1) / 4=c by omega,show(4*c+1) % 4=1 by omega]
  have q2:Vi d (4*c+1+1)=Yj d c 2:=by unfold Vi;rw[show(4*c+1+1) / 4=c by omega,show(4*c+1+1) % 4=2 by omega]
  have q3:Vi d (4*c+1+1+1)=Yj d c 3:=by unfold Vi;rw[show(4*c+1+1+1) / 4=c by omega,show(4*c+1+1+1) % 4=3 by omega]
  refine QF (by simp;omega) (QF (by simp;omega) ?_)
  refine GG (x:=Yj d c 0) hA (hn 0) rfl (fun b0 => ?_) (fun b0 => ?_)
  ·refine⟨_,.inl ⟨4*c,rfl,by rw[hm,QL,q0,b0],rfl⟩,rfl,rfl,_,QPR c _ _,?_⟩
   exact⟨by omega,by omega,rfl,trivial⟩
  refine GG (x:=Yj d c 1) hA (hn 1) rfl (fun b1 => ?_) (fun b1 => ?_)
  ·refine⟨_,.inl ⟨4*c+1,rfl,by rw[hm,QL,q0,b0,QL,q1,b1],rfl⟩,rfl,rfl,_,QQt c _ _,?_⟩
   exact⟨by omega,by omega,rfl,trivial⟩
  refine GG (x:=Yj d c 2) hA (hn 2) rfl (fun b2 => ?_) (fun b2 => ?_)
  ·refine⟨_,.inl ⟨4*c+1+1,rfl,by rw[hm,QL,q0,b0,QL,q1,b1,QL,q2,b2],rfl⟩,rfl,rfl,_,QVX c _ _,?_⟩
   exact⟨by omega,by omega,rfl,trivial⟩
  refine GG (x:=Yj d c 3) hA (hn 3) rfl (fun b3 => ?_) (fun b3 => ?_)
  ·refine⟨_,.inl ⟨4*c+1+1+1,rfl,by rw[hm,QL,q0,b0,QL,q1,b1,QL,q2,b2,QL,q3,b3],rfl⟩,rfl,rfl,_,QPj c _ _,?_⟩
   exact⟨by omega,by omega,rfl,trivial⟩
  have hf:QL (Vi d) (4*(d.ps.n-c)) (4*c)=QL (Vi d) (4*(d.ps.n-(c+1))) (4*(c+1)):=by
   rw[hm,hm',QL,q0,b0,QL,q1,b1,QL,q2,b2,QL,q3,b3,show 4*(c+1)=4*c+1+1+1+1 by omega]
  refine⟨c+1,h,by show d.ps.n-(c+1)<d.ps.n-c;omega,fun e J h=>by unfold QE7 at h ⊢;rw[hf];exact h,rfl,rfl,_,QRI d c (c+1),?_⟩
  have hw:i64.wrap ((c:Int)+1)=((c+1:Nat):Int):=(w64 (by omega) (by omega)).trans (by omega)
  repeat' first|exact trivial|with_reducible rfl|exact qlr _|exact hw|exact qRr|refine And.intro ?_ ?_
 ·have h:d.ps.n≤c:=by have:=of_decide_eq_false h;omega
  exact⟨_,.inr ⟨rfl,by rw[show 4*(d.ps.n-c)=0 by omega];rfl,rfl⟩,rfl,rfl,_,QOo,trivial⟩
end Go.Proofs.Ytbpffdkemeoajaa
namespace Go.SX
open Go Go.RowKit Go.Proofs.Ytbpffdkemeoajaa
def YX(p:Prop)(L:St→(Ex→St→QB)→QB)(st:St)(K:Ex→St→QB):QB := .ask p (L st K)
theorem jb{E:Env}{G:Ctx}{c:Code}{p:Prop}{L:St→(Ex→St→QB)→QB}(h:p→JJ E G c L):JJ E G c (YX p L):=by
 intro st K T Q a w hn hd hr hQ;obtain⟨h1,h2⟩:=(show p∧(L st K).den T from hd);exact h h1 st K T Q a w hn h2 hr hQ
end Go.SX
namespace Go.Proofs.Ytbpffdkemeoajaa
open Go.SX
variable (d:Puz)
def Zl:Option Nat:=QL (Vi d) (4*d.ps.n) 0
def qu:Nat:=(Zl d).getD 0
def QV0:List (Prop×Ex×JSt):=[((Zl d).isSome=true,.ret,Wp (qu d / 4) (qu d % 4)),(Zl d=none,.exit 0,QB2)]
abbrev G1(P:Program)(d:Puz):Hnd:={ hnd (mkE P Xe) 1 with loop:=fun _=>YX (Z6 d) (KE 8 [] (QAH d 0) (QV0 d)) }
theorem QTp(G:Ctx)(hrd:G.rd=none)(hG:G.n=8):Q5 (mkE Try.prog Xe) G (G1 Try.prog d) (Qq Try.f13):=by
 refine JT (body:=QZ Try.f13 0) (QR jh) hrd (by kernel_rfl) ?_
 refine jb fun hd => ?_;refine JX (n0:=8) (QR jh) (by omega) (fun s hs=>Qv (QR jh) 6 G _ hrd) (fun s hs=>(by decide:8≤96)) ?_ (QOU d hd) (s0:=0) (Nat.zero_le _) ?_
 ·rintro s e J (⟨_,_,_,rfl⟩|⟨_,_,rfl⟩)<;>exact(by decide:8≤96)
 ·rintro e J (⟨i,rfl,h,rfl⟩|⟨rfl,h,rfl⟩)
  ·have h:Zl d=some i:=h;refine⟨_,List.mem_cons_self,by simp only[h];rfl,rfl,?_⟩
   simp only[qu,h];rfl
  ·exact⟨_,List.mem_cons_of_mem _ List.mem_cons_self,h,rfl,rfl⟩
def Wo:Int×Int×Int:=match d.ok with
 | false=>(0,0,1)
 | true=>(match Zl d with
  | some i=>(((i / 4:Nat):Int),((i % 4:Nat):Int),0)
  | none=>(0,0,4))
def Y1:WF (Puz×Unit):=fun|(d,_)=>(decide (d.ps.n≤1000),.tup [.int false .i64 (Wo d).1,.int false .i64 (Wo d).2.1,.int false .i64 (Wo d).2.2],[])
def QJm:FC:=wFC Y1
theorem QRU :KY (mkE Try.prog Xe) (G1 Try.prog d) Try.f13 (QS.vals 0 ((d,()):Puz×Unit)) (QS.blks 0 ((d,()):Puz×Unit)) 8 = .need (decide (d.ps.n≤d.ps.n)&&true &&
  decide (d.ps.n≤1000)) (.br (!d.ok) (.leaf (.tup [vj 0,vj 0,vj 1]) ([])) (.ask (Z6 d) (.ask (0=0) (.ask (0=0) (.ask (0=0) (.ask
  (d.ps.n=d.ps.n) (.ask (cO=cO) (.ask ((d.ps.n:Int)=(d.ps.n:Int)) (.ask ((0:Int)=0) (.ask (d.play.length=d.play.length) (.ask (d.play.slack=d.play.slack)
  (.ask (d.play.loose=d.play.loose) (.ask (d.play.damp.lo=d.play.damp.lo) (.ask (d.play.damp.hi=d.play.damp.hi) (.ask (d.wide=d.wide) (.ask (d.high=d.high) (.ask (d.turn =
  d.turn) (.ask (0=0) (.ask (d.ps.n=d.ps.n) (.ask (cO=cO) (.ask (d.ps.n≤d.ps.n) (.ask (QE 28 d.ps.n (fun i=>QA.enc (d.ps.get i)) fun i=>QA.enc
  (d.ps.get i)) (.both (.asm ((Zl d).isSome=true) (.all (fun(g0:Nat→Value) => .leaf (.tup [vi (↑(qu d / 4):Int),vi (↑(qu d % 4):Int),.int
  false .i64 0]) ([])))) (.asm (Zl d=none) (.all (fun(g1:Nat→Value) => .leaf (.tup [vj 0,vj 0,vj 4]) ([]))))))))))))))))))))))))))):=by kernel_rfl
theorem QNF:Kx (mkE Try.prog Xe) (Qq Try.f13) 8 Y1 (fun x_=>(G1 Try.prog x_.1)):=by
 refine⟨?_⟩;rintro⟨d,⟨⟩⟩ hp G h1 h2;exact QTp d G h1 h2
theorem QT0:K3 (mkE Try.prog Xe) Try.f13 8 Y1 (fun x_=>(G1 Try.prog x_.1)):=by
 refine⟨?_⟩;rintro⟨d,⟨⟩⟩ hp;refine⟨⟨rfl,by simp[Y1],rfl⟩,⟨?_⟩⟩
 rw[QRU d];simp only[Y1]at hp;refine QF (by simpa using hp) (QK (fun h=>Ke ?_ rfl) (fun h => ?_))
 ·have h:d.ok=false:=by simpa using h
  simp only[Y1,Wo,h];exact⟨⟨rfl,rfl⟩,⟨rfl,rfl⟩,⟨rfl,rfl⟩,trivial⟩
 ·have h:d.ok=true:=by simpa using h
  refine Qa (QL9 h) ?_
  repeat' first|refine Qa (show _=_ by with_reducible rfl) ?_|refine Qa (show _≤_ from qlr _) ?_|refine Qa (show QE _ _ _ _ from qRr) ?_
  refine XQ (KQ fun ho=>KN fun g => ?_) (KQ fun ho=>KN fun g => ?_)
  ·obtain⟨i,hi⟩:=Option.isSome_iff_exists.1 ho;exact Ke (by simp only[Y1,Wo,qu,h,hi];exact⟨⟨rfl,rfl⟩,⟨rfl,rfl⟩,⟨rfl,rfl⟩,trivial⟩) rfl
  ·exact Ke (by simp only[Y1,Wo,h,ho];exact⟨⟨rfl,rfl⟩,⟨rfl,rfl⟩,⟨rfl,rfl⟩,trivial⟩) rfl
theorem QP8:QQ Try.prog 13 QJm:=
 K9 (QR jh) Try.func13 (by kernel_rfl) (by kernel_rfl) (by decide) QNF QT0
def QAm:Tab:=Qb Xe 13 QJm
theorem QLG:QV QAm:=jh.add QP8
structure Fl where
instance : Enc Fl where
  enc _ := .agg []
  dec | .agg [] => some ⟨⟩ | _ => none
  ok v x h := by
    split at h <;> (try (cases h; done))
    exact⟨fun _ => rfl,rfl⟩
def QHI:Fl×Edge×Unit→Bool×AV:=fun|(b,(s,_))=>(true,.bool false (s.kind==0))
def QGt:FC:=Q3 (Q1 QHI)
theorem QM8(b:Fl)(s:Edge):Qt (mkE Try.prog QAm) (hnd (mkE Try.prog QAm) 2) false Try.f124 (Qm.enc ((b,s,()):Fl×Edge×Unit)) [] 0 =
  QB.leaf (AV.bool false (s.kind==(0:Int))) ([]):=by kernel_rfl
theorem QSI:QQ Try.prog 124 QGt:=by
 refine Q7 QLG 2 Try.func124 (by kernel_rfl) (by kernel_rfl) ?_
 rintro⟨b,s,⟨⟩⟩ hp;rw[QM8 b s];simp only[QHI,QB.den,AV.same,AV.sameL,and_true,true_and]at hp ⊢
def H6:Tab:=Qb QAm 124 QGt
theorem QDW:QV H6:=QLG.add QSI
def QBP:Edge×Unit→Bool×AV:=fun|(s,_)=>(true,.alt (s.kind==0) (.ifc 139 (.agg [])) (.ifc 140 (Enc.enc s)))
def QJ2:FC:=Q3 (Q1 QBP)
theorem QUk(s:Edge):Qt (mkE Try.prog H6) (hnd (mkE Try.prog H6) 2) false Try.f73 (Qm.enc ((s,()):Edge×Unit)) [] 0 =
  QB.br (s.kind==(0:Int)) (QB.leaf (AV.ifc (139:Nat) (AV.agg [])) ([])) (QB.leaf (AV.ifc (140:Nat) (AV.agg [AV.int false i64 s.kind,AV.int false i64
  s.at_.lo,AV.int false i64 s.at_.hi,AV.int false i64 s.wide.lo,AV.int false i64 s.wide.hi,AV.int false i64 s.deep.lo,AV.int false i64
  s.deep.hi])) ([])):=by kernel_rfl
theorem QPq:QQ Try.prog 73 QJ2:=by
 refine QTZ (c:=Qq Try.f73) (QR QDW) Try.func73 (by kernel_rfl) (by kernel_rfl) (fun G _ hG=>Qv (QR QDW) 2 G _ hG) ?_
 rintro⟨s,⟨⟩⟩ _;refine vY (QUk s) ?_;refine⟨fun h r r' => ?_,fun h r r' => ?_⟩
 ·simp only[QBP,h];rfl
 ·simp only[QBP,h];rfl
def Kd:Tab:=Qb H6 73 QJ2
theorem WW:QV Kd:=QDW.add QPq
end Go.Proofs.Ytbpffdkemeoajaa
namespace Go.SX
open Go Go.RowKit Go.Proofs.Ytbpffdkemeoajaa
def WR(c:Code):Code:=match Kg c with
 | .loop b::_=>b
 | _ => .skip
end Go.SX
namespace Go.Proofs.Ytbpffdkemeoajaa
open Go.SX
structure QC where
 cell:Int
 turn:Int
instance : QA QC where
  ks := [.int .i64,.int .i64]
  enc p j := match j with
    | 0 => p.cell
    | _ => p.turn
  dec f := ⟨f 0,f 1⟩
  ok _ := rfl
variable (d:Puz)(s:QI)(c:Nat)
def Wh(o:List QC)(c:Nat):JSt:=⟨49,[(3,.ptr 16 0 0),(4,.slz 24 0 o.length (.of 0)),(11,.slz 0 0 d.ps.n (.of 0)),(12,.int false .i64 d.ps.n),(13,.int false .i64 c)],[(16,.cells 7 33 (Enc.enc s).cells),Kf 56 24 o ⟨0,0⟩]++Qz.blk 0 d.ps,32⟩
def Jj(o:List QC)(c t:Nat):JSt:=⟨49,[(3,.ptr 16 0 0),(4,.slz 24 0 o.length (.of 0)),(5,.int false .i64 c),(6,.ptr 32 0 0),(11,.slz 0 0 d.ps.n (.of 0)),(12,.int false .i64 d.ps.n),(13,.int false .i64 c),(18,.int true .i64 t)],[(16,.cells 7 33 (Enc.enc s).cells),Kf 56 24 o ⟨0,0⟩,(32,.cells 7 33 (Enc.enc (d.ps.get c)).cells)]++Qz.blk 0 d.ps,40⟩
def qR:Ex→List Nat
 | .normal=>[3,4,5,6,11,12,13,18]
 | .exit _=>[3,4,11,12,13]
 | .ret=>[]
noncomputable abbrev QAh(d:Puz)(o:List QC):List AV:=
  [.nilp,.ptr 49 0 0,.ptr 16 0 0,.slz 24 0 o.length cO,vi (c:Int),.ptr 32 0 0,.slz 0 0 d.ps.n cO,vi (d.ps.n:Int),.int false .i64
  (c:Int),vj 1]
noncomputable abbrev Xa:Nat×Blk:=
  (16,.cells 7 33 [vi s.up.kind,vi s.up.at_.lo,vi s.up.at_.hi,vi s.up.wide.lo,vi s.up.wide.hi,.int false .i64
  s.up.deep.lo,vi s.up.deep.hi,vi s.right.kind,vi s.right.at_.lo,vi s.right.at_.hi,vi s.right.wide.lo,.int false
  .i64 s.right.wide.hi,vi s.right.deep.lo,vi s.right.deep.hi,vi s.down.kind,vi s.down.at_.lo,vi s.down.at_.hi,
  .int false .i64 s.down.wide.lo,vi s.down.wide.hi,vi s.down.deep.lo,vi s.down.deep.hi,vi s.left.kind,.int false .i64
  s.left.at_.lo,vi s.left.at_.hi,vi s.left.wide.lo,vi s.left.wide.hi,vi s.left.deep.lo,vi s.left.deep.hi])
noncomputable abbrev QCn(o:List QC):Nat×Blk:=
  (24,.rowz true 56 [.int .i64,.int .i64] o.length fun i=>QA.enc (o.getD i ⟨0,0⟩))
noncomputable abbrev YZ(d:Puz):Nat×Blk:=
  (32,.cells 7 33 [vi (d.ps.get c).up.kind,vi (d.ps.get c).up.at_.lo,vi (d.ps.get c).up.at_.hi,vi (d.ps.get c).up.wide.lo,.int
  false .i64 (d.ps.get c).up.wide.hi,vi (d.ps.get c).up.deep.lo,vi (d.ps.get c).up.deep.hi,vi (d.ps.get c).right.kind,.int false .i64
  (d.ps.get c).right.at_.lo,vi (d.ps.get c).right.at_.hi,vi (d.ps.get c).right.wide.lo,vi (d.ps.get c).right.wide.hi,.int false .i64
  (d.ps.get c).right.deep.lo,vi (d.ps.get c).right.deep.hi,vi (d.ps.get c).down.kind,vi (d.ps.get c).down.at_.lo,vi (d.ps.get
  c).down.at_.hi,vi (d.ps.get c).down.wide.lo,vi (d.ps.get c).down.wide.hi,vi (d.ps.get c).down.deep.lo,vi (d.ps.get
  c).down.deep.hi,vi (d.ps.get c).left.kind,vi (d.ps.get c).left.at_.lo,vi (d.ps.get c).left.at_.hi,vi (d.ps.get
  c).left.wide.lo,vi (d.ps.get c).left.wide.hi,vi (d.ps.get c).left.deep.lo,vi (d.ps.get c).left.deep.hi])
noncomputable abbrev XU:Nat×Blk:=
  (0,.frz [.int .i64,.int .i64,.int .i64,.int .i64,.int .i64,.int .i64,.int .i64,.int .i64,.int .i64,.int .i64,.int .i64,.int .i64,.int .i64,.int .i64,.int .i64,.int
  .i64,.int .i64,.int .i64,.int .i64,.int .i64,.int .i64,.int .i64,.int .i64,.int .i64,.int .i64,.int .i64,.int .i64,.int .i64] d.ps.n fun i=>QA.enc (d.ps.get i))
noncomputable abbrev JK(d:Puz)(o:List QC)(s:QI):List (Nat×Blk):=
  [(Xa s),(QCn o),(YZ c d),(XU d)]
noncomputable abbrev QKc(o:List QC):Nat×Blk:=
  (776,.rowz true 56 [.int .i64,.int .i64] (o.length+1) (QP o.length (fun i=>QA.enc (o.getD i ⟨0,0⟩)) (QJ [[vi (c:Int),vj 0]] 0)))
theorem QQP(o:List QC)(c:Nat)(g:Nat→Value):exec (mkE Try.prog Kd) (hnd (mkE Try.prog Kd) 6) (WR (QZ Try.f43 0)) (JSt.inst (Jj d s o c 0) g) (KW [] qR) = .need (true) (.need (bif s.up.kind==0 then
  true else true) (.br (!bif s.up.kind==0 then (d.ps.get c).up.kind==0 else isF s.up (d.ps.get c).up) (.leaf (.tup (QAh c d o)) ((JK c d o s))) (.need (true) (.need (bif
  s.right.kind==0 then true else true) (.br (!bif s.right.kind==0 then (d.ps.get c).right.kind==0 else isF s.right (d.ps.get c).right) (.leaf (.tup (QAh c d o)) ((JK c d o
  s))) (.need (true) (.need (bif s.down.kind==0 then true else true) (.br (!bif s.down.kind==0 then (d.ps.get c).down.kind==0 else isF s.down (d.ps.get c).down) (.leaf (.tup
  (QAh c d o)) ((JK c d o s))) (.need (true) (.need (bif s.left.kind==0 then true else true) (.br (!bif s.left.kind==0 then (d.ps.get c).left.kind==0 else isF s.left
  (d.ps.get c).left) (.leaf (.tup (QAh c d o)) ((JK c d o s))) (.need (decide (o.length≤o.length)&&(true&&decide ((o.length+1+(o.length+1) / 4+192)*16 ≤
  281474976710656∧o.length+1≤9223372036854775807))) (.leaf (.tup [.nilp,.ptr 49 0 0,.ptr 16 0 0,.slz 776 0 (o.length+1) cO,vi (c:Int),.ptr 32 0 0,
  .slz 0 0 d.ps.n cO,vi (d.ps.n:Int),vi (c:Int),vj 1]) ([(Xa s),(QKc c o),(YZ c d),(XU d)])))))))))))))):=by kernel_rfl
noncomputable abbrev Ha(d:Puz)(o:List QC):List AV:=
  [.nilp,.ptr 49 0 0,.ptr 16 0 0,.slz 24 0 o.length cO,vi (c:Int),.ptr 32 0 0,.slz 0 0 d.ps.n cO,vi (d.ps.n:Int),.int false .i64
  (c:Int),vj 2]
noncomputable abbrev QE8(o:List QC):Nat×Blk:=
  (776,.rowz true 56 [.int .i64,.int .i64] (o.length+1) (QP o.length (fun i=>QA.enc (o.getD i ⟨0,0⟩)) (QJ [[vi (c:Int),vj 1]] 0)))
theorem QOn(o:List QC)(c:Nat)(g:Nat→Value):exec (mkE Try.prog Kd) (hnd (mkE Try.prog Kd) 6) (WR (QZ Try.f43 0)) (JSt.inst (Jj d s o c 1) g) (KW [] qR) = .need (true) (.need (bif s.left.kind==0 then
  true else true) (.br (!bif s.left.kind==0 then (d.ps.get c).up.kind==0 else isF s.left (d.ps.get c).up) (.leaf (.tup (Ha c d o)) ((JK c d o s))) (.need (true) (.need (bif
  s.up.kind==0 then true else true) (.br (!bif s.up.kind==0 then (d.ps.get c).right.kind==0 else isF s.up (d.ps.get c).right) (.leaf (.tup (Ha c d o)) ((JK c d o s))) (.need
  (true) (.need (bif s.right.kind==0 then true else true) (.br (!bif s.right.kind==0 then (d.ps.get c).down.kind==0 else isF s.right (d.ps.get c).down) (.leaf (.tup (Ha c d
  o)) ((JK c d o s))) (.need (true) (.need (bif s.down.kind==0 then true else true) (.br (!bif s.down.kind==0 then (d.ps.get c).left.kind==0 else isF s.down (d.ps.get c).left)
  (.leaf (.tup (Ha c d o)) ((JK c d o s))) (.need (decide (o.length≤o.length)&&(true&&decide ((o.length+1+(o.length+1) / 4+192)*16≤281474976710656∧o.length+1
  ≤ 9223372036854775807))) (.leaf (.tup [.nilp,.ptr 49 0 0,.ptr 16 0 0,.slz 776 0 (o.length+1) cO,vi (c:Int),.ptr 32 0 0,.slz 0 0 d.ps.n cO,
  .int false .i64 (d.ps.n:Int),vi (c:Int),vj 2]) ([(Xa s),(QE8 c o),(YZ c d),(XU d)])))))))))))))):=by kernel_rfl
noncomputable abbrev QAY(d:Puz)(o:List QC):List AV:=
  [.nilp,.ptr 49 0 0,.ptr 16 0 0,.slz 24 0 o.length cO,vi (c:Int),.ptr 32 0 0,.slz 0 0 d.ps.n cO,vi (d.ps.n:Int),.int false .i64
  (c:Int),vj 3]
noncomputable abbrev QHa(o:List QC):Nat×Blk:=
  (776,.rowz true 56 [.int .i64,.int .i64] (o.length+1) (QP o.length (fun i=>QA.enc (o.getD i ⟨0,0⟩)) (QJ [[vi (c:Int),vj 2]] 0)))
theorem QSP(o:List QC)(c:Nat)(g:Nat→Value):exec (mkE Try.prog Kd) (hnd (mkE Try.prog Kd) 6) (WR (QZ Try.f43 0)) (JSt.inst (Jj d s o c 2) g) (KW [] qR) = .need (true) (.need (bif s.down.kind==0 then
  true else true) (.br (!bif s.down.kind==0 then (d.ps.get c).up.kind==0 else isF s.down (d.ps.get c).up) (.leaf (.tup (QAY c d o)) ((JK c d o s))) (.need (true) (.need (bif
  s.left.kind==0 then true else true) (.br (!bif s.left.kind==0 then (d.ps.get c).right.kind==0 else isF s.left (d.ps.get c).right) (.leaf (.tup (QAY c d o)) ((JK c d o s)))
  (.need (true) (.need (bif s.up.kind==0 then true else true) (.br (!bif s.up.kind==0 then (d.ps.get c).down.kind==0 else isF s.up (d.ps.get c).down) (.leaf (.tup (QAY c d o))
  ((JK c d o s))) (.need (true) (.need (bif s.right.kind==0 then true else true) (.br (!bif s.right.kind==0 then (d.ps.get c).left.kind==0 else isF s.right (d.ps.get c).left)
  (.leaf (.tup (QAY c d o)) ((JK c d o s))) (.need (decide (o.length≤o.length)&&(true&&decide ((o.length+1+(o.length+1) / 4+192)*16≤281474976710656∧o.length+1
  ≤ 9223372036854775807))) (.leaf (.tup [.nilp,.ptr 49 0 0,.ptr 16 0 0,.slz 776 0 (o.length+1) cO,vi (c:Int),.ptr 32 0 0,.slz 0 0 d.ps.n cO,
  .int false .i64 (d.ps.n:Int),vi (c:Int),vj 3]) ([(Xa s),(QHa c o),(YZ c d),(XU d)])))))))))))))):=by kernel_rfl
noncomputable abbrev z9(d:Puz)(o:List QC):List AV:=
  [.nilp,.ptr 49 0 0,.ptr 16 0 0,.slz 24 0 o.length cO,vi (c:Int),.ptr 32 0 0,.slz 0 0 d.ps.n cO,vi (d.ps.n:Int),.int false .i64
  (c:Int),vj 4]
noncomputable abbrev QK6(o:List QC):Nat×Blk:=
  (776,.rowz true 56 [.int .i64,.int .i64] (o.length+1) (QP o.length (fun i=>QA.enc (o.getD i ⟨0,0⟩)) (QJ [[vi (c:Int),vj 3]] 0)))
theorem QNL(o:List QC)(c:Nat)(g:Nat→Value):exec (mkE Try.prog Kd) (hnd (mkE Try.prog Kd) 6) (WR (QZ Try.f43 0)) (JSt.inst (Jj d s o c 3) g) (KW [] qR) = .need (true) (.need (bif s.right.kind==0
  then true else true) (.br (!bif s.right.kind==0 then (d.ps.get c).up.kind==0 else isF s.right (d.ps.get c).up) (.leaf (.tup (z9 c d o)) ((JK c d o s))) (.need (true) (.need
  (bif s.down.kind==0 then true else true) (.br (!bif s.down.kind==0 then (d.ps.get c).right.kind==0 else isF s.down (d.ps.get c).right) (.leaf (.tup (z9 c d o)) ((JK c d o
  s))) (.need (true) (.need (bif s.left.kind==0 then true else true) (.br (!bif s.left.kind==0 then (d.ps.get c).down.kind==0 else isF s.left (d.ps.get c).down) (.leaf (.tup
  (z9 c d o)) ((JK c d o s))) (.need (true) (.need (bif s.up.kind==0 then true else true) (.br (!bif s.up.kind==0 then (d.ps.get c).left.kind==0 else isF s.up (d.ps.get
  c).left) (.leaf (.tup (z9 c d o)) ((JK c d o s))) (.need (decide (o.length≤o.length)&&(true&&decide ((o.length+1+(o.length+1) / 4+192)*16≤281474976710656 ∧
  o.length+1≤9223372036854775807))) (.leaf (.tup [.nilp,.ptr 49 0 0,.ptr 16 0 0,.slz 776 0 (o.length+1) cO,vi (c:Int),.ptr 32 0 0,.slz 0 0 d.ps.n
  cO,vi (d.ps.n:Int),vi (c:Int),vj 4]) ([(Xa s),(QK6 c o),(YZ c d),(XU d)])))))))))))))):=by kernel_rfl
theorem QRe(o:List QC)(c:Nat)(g:Nat→Value):exec (mkE Try.prog Kd) (hnd (mkE Try.prog Kd) 6) (WR (QZ Try.f43 0)) (JSt.inst (Jj d s o c 4) g) (KW [] qR) = .leaf (.tup [.ptr 2 0 0,.ptr 49 0 0,.ptr 16
  0 0,.slz 24 0 o.length cO,.slz 0 0 d.ps.n cO,vi (d.ps.n:Int),vi (c:Int)]) ([(Xa s),(QCn o),(XU d)]):=by kernel_rfl
def vJ(o:List QC)(c:Nat):JSt:=⟨49,[(3,.ptr 16 0 0),(4,.slz 24 0 o.length (.of 0)),(11,.slz 0 0 d.ps.n (.of 0)),(12,.int false .i64 d.ps.n),(13,.int false .i64 c)],[(16,.cells 7 33 (Enc.enc s).cells),Kf 56 24 o ⟨0,0⟩]++Qz.blk 0 d.ps,40⟩
abbrev j5(o:List QC)(o':List QC):List Prop:=
  [0=0,0=0,0=0,o.length=o'.length]
abbrev Yz(d:Puz):List Prop:=
  [cO=cO,(c:Int)=(c:Int),0=0,0=0,0=0,d.ps.n=d.ps.n,cO=cO,(d.ps.n:Int)=(d.ps.n:Int)]
abbrev Yh:List Prop:=
  [s.up.kind=s.up.kind,s.up.at_.lo=s.up.at_.lo,s.up.at_.hi=s.up.at_.hi,s.up.wide.lo=s.up.wide.lo]
abbrev Yi:List Prop:=
  [s.up.wide.hi=s.up.wide.hi,s.up.deep.lo=s.up.deep.lo,s.up.deep.hi=s.up.deep.hi,s.right.kind=s.right.kind,s.right.at_.lo=s.right.at_.lo,s.right.at_.hi =
  s.right.at_.hi,s.right.wide.lo=s.right.wide.lo,s.right.wide.hi=s.right.wide.hi,s.right.deep.lo=s.right.deep.lo,s.right.deep.hi=s.right.deep.hi,s.down.kind =
  s.down.kind,s.down.at_.lo=s.down.at_.lo,s.down.at_.hi=s.down.at_.hi,s.down.wide.lo=s.down.wide.lo,s.down.wide.hi=s.down.wide.hi,s.down.deep.lo=s.down.deep.lo,
  s.down.deep.hi=s.down.deep.hi,s.left.kind=s.left.kind,s.left.at_.lo=s.left.at_.lo,s.left.at_.hi=s.left.at_.hi,s.left.wide.lo=s.left.wide.lo,s.left.wide.hi =
  s.left.wide.hi,s.left.deep.lo=s.left.deep.lo,s.left.deep.hi=s.left.deep.hi]
abbrev ZX(d:Puz):List Prop:=
  [(d.ps.get c).up.kind=(d.ps.get c).up.kind,(d.ps.get c).up.at_.lo=(d.ps.get c).up.at_.lo,(d.ps.get c).up.at_.hi=(d.ps.get c).up.at_.hi,(d.ps.get c).up.wide.lo=(d.ps.get
  c).up.wide.lo,(d.ps.get c).up.wide.hi=(d.ps.get c).up.wide.hi,(d.ps.get c).up.deep.lo=(d.ps.get c).up.deep.lo,(d.ps.get c).up.deep.hi=(d.ps.get c).up.deep.hi,(d.ps.get
  c).right.kind=(d.ps.get c).right.kind,(d.ps.get c).right.at_.lo=(d.ps.get c).right.at_.lo,(d.ps.get c).right.at_.hi=(d.ps.get c).right.at_.hi,(d.ps.get c).right.wide.lo =
  (d.ps.get c).right.wide.lo,(d.ps.get c).right.wide.hi=(d.ps.get c).right.wide.hi,(d.ps.get c).right.deep.lo=(d.ps.get c).right.deep.lo,(d.ps.get c).right.deep.hi=(d.ps.get
  c).right.deep.hi,(d.ps.get c).down.kind=(d.ps.get c).down.kind,(d.ps.get c).down.at_.lo=(d.ps.get c).down.at_.lo,(d.ps.get c).down.at_.hi=(d.ps.get c).down.at_.hi,
  (d.ps.get c).down.wide.lo=(d.ps.get c).down.wide.lo,(d.ps.get c).down.wide.hi=(d.ps.get c).down.wide.hi,(d.ps.get c).down.deep.lo=(d.ps.get c).down.deep.lo,(d.ps.get
  c).down.deep.hi=(d.ps.get c).down.deep.hi,(d.ps.get c).left.kind=(d.ps.get c).left.kind,(d.ps.get c).left.at_.lo=(d.ps.get c).left.at_.lo,(d.ps.get c).left.at_.hi =
  (d.ps.get c).left.at_.hi,(d.ps.get c).left.wide.lo=(d.ps.get c).left.wide.lo,(d.ps.get c).left.wide.hi=(d.ps.get c).left.wide.hi,(d.ps.get c).left.deep.lo=(d.ps.get
  c).left.deep.lo,(d.ps.get c).left.deep.hi=(d.ps.get c).left.deep.hi,d.ps.n≤d.ps.n,QE 28 d.ps.n (fun i=>QA.enc (d.ps.get i)) fun i=>QA.enc (d.ps.get i)]
theorem QPz(o o':List QC)(c:Nat):QO 8 [.ptr 16 0 0,.slz 24 0 o.length cO,vi (c:Int),.ptr 32 0 0,.slz 0 0 d.ps.n cO,vi (d.ps.n:Int),vi (c:Int),
  .int true .i64 1] ((JK c d o s)) (Jj d s o' c 1)=(some ((j5 o o')++(Yz c d)++[(c:Int)=(c:Int),(1:Int)=1]++(Yh s)++(Yi s)++[o'.length ≤
  o.length,QE 2 o'.length (fun i=>QA.enc (o.getD i ⟨0,0⟩)) fun i=>QA.enc (o'.getD i ⟨0,0⟩)]++(ZX c d))):=by kernel_rfl
abbrev H8(o:List QC)(o':List QC):List Prop:=
  [0=0,0=0,0=0,o.length+1=o'.length]
theorem QQm(o o':List QC)(c:Nat):QO 8 [.ptr 16 0 0,.slz 776 0 (o.length+1) cO,vi (c:Int),.ptr 32 0 0,.slz 0 0 d.ps.n cO,vi (d.ps.n:Int),vi (c :
  Int),vj 1] ([(Xa s),(QKc c o),(YZ c d),(XU d)]) (Jj d s o' c 1)=(some ((H8 o o')++(Yz c d)++[(c:Int)=(c:Int),(1:Int)=1]++(Yh s)
  ++ (Yi s)++[o'.length≤o.length+1,QE 2 o'.length (QP o.length (fun i=>QA.enc (o.getD i ⟨0,0⟩)) (QJ [[vi (c:Int),vj 0]] 0)) fun i
  => QA.enc (o'.getD i ⟨0,0⟩)]++(ZX c d))):=by kernel_rfl
theorem QRj(o o':List QC)(c:Nat):QO 8 [.ptr 16 0 0,.slz 24 0 o.length cO,vi (c:Int),.ptr 32 0 0,.slz 0 0 d.ps.n cO,vi (d.ps.n:Int),vi (c:Int),
  .int true .i64 2] ((JK c d o s)) (Jj d s o' c 2)=(some ((j5 o o')++(Yz c d)++[(c:Int)=(c:Int),(2:Int)=2]++(Yh s)++(Yi s)++[o'.length ≤
  o.length,QE 2 o'.length (fun i=>QA.enc (o.getD i ⟨0,0⟩)) fun i=>QA.enc (o'.getD i ⟨0,0⟩)]++(ZX c d))):=by kernel_rfl
theorem QTc(o o':List QC)(c:Nat):QO 8 [.ptr 16 0 0,.slz 776 0 (o.length+1) cO,vi (c:Int),.ptr 32 0 0,.slz 0 0 d.ps.n cO,vi (d.ps.n:Int),vi (c :
  Int),vj 2] ([(Xa s),(QE8 c o),(YZ c d),(XU d)]) (Jj d s o' c 2)=(some ((H8 o o')++(Yz c d)++[(c:Int)=(c:Int),(2:Int)=2]++(Yh
  s)++(Yi s)++[o'.length≤o.length+1,QE 2 o'.length (QP o.length (fun i=>QA.enc (o.getD i ⟨0,0⟩)) (QJ [[vi (c:Int),vj 1]] 0)) fun
  i=>QA.enc (o'.getD i ⟨0,0⟩)]++(ZX c d))):=by kernel_rfl
theorem QOg(o o':List QC)(c:Nat):QO 8 [.ptr 16 0 0,.slz 24 0 o.length cO,vi (c:Int),.ptr 32 0 0,.slz 0 0 d.ps.n cO,vi (d.ps.n:Int),vi (c:Int),
  .int true .i64 3] ((JK c d o s)) (Jj d s o' c 3)=(some ((j5 o o')++(Yz c d)++[(c:Int)=(c:Int),(3:Int)=3]++(Yh s)++(Yi s)++[o'.length ≤
  o.length,QE 2 o'.length (fun i=>QA.enc (o.getD i ⟨0,0⟩)) fun i=>QA.enc (o'.getD i ⟨0,0⟩)]++(ZX c d))):=by kernel_rfl
theorem QS5(o o':List QC)(c:Nat):QO 8 [.ptr 16 0 0,.slz 776 0 (o.length+1) cO,vi (c:Int),.ptr 32 0 0,.slz 0 0 d.ps.n cO,vi (d.ps.n:Int),vi (c :
  Int),vj 3] ([(Xa s),(QHa c o),(YZ c d),(XU d)]) (Jj d s o' c 3)=(some ((H8 o o')++(Yz c d)++[(c:Int)=(c:Int),(3:Int)=3]++(Yh
  s)++(Yi s)++[o'.length≤o.length+1,QE 2 o'.length (QP o.length (fun i=>QA.enc (o.getD i ⟨0,0⟩)) (QJ [[vi (c:Int),vj 2]] 0)) fun
  i=>QA.enc (o'.getD i ⟨0,0⟩)]++(ZX c d))):=by kernel_rfl
theorem QWE(o o':List QC)(c:Nat):QO 8 [.ptr 16 0 0,.slz 24 0 o.length cO,vi (c:Int),.ptr 32 0 0,.slz 0 0 d.ps.n cO,vi (d.ps.n:Int),vi (c:Int),
  .int true .i64 4] ((JK c d o s)) (Jj d s o' c 4)=(some ((j5 o o')++(Yz c d)++[(c:Int)=(c:Int),(4:Int)=4]++(Yh s)++(Yi s)++[o'.length ≤
  o.length,QE 2 o'.length (fun i=>QA.enc (o.getD i ⟨0,0⟩)) fun i=>QA.enc (o'.getD i ⟨0,0⟩)]++(ZX c d))):=by kernel_rfl
theorem QS0(o o':List QC)(c:Nat):QO 8 [.ptr 16 0 0,.slz 776 0 (o.length+1) cO,vi (c:Int),.ptr 32 0 0,.slz 0 0 d.ps.n cO,vi (d.ps.n:Int),vi (c :
  Int),vj 4] ([(Xa s),(QK6 c o),(YZ c d),(XU d)]) (Jj d s o' c 4)=(some ((H8 o o')++(Yz c d)++[(c:Int)=(c:Int),(4:Int)=4]++(Yh
  s)++(Yi s)++[o'.length≤o.length+1,QE 2 o'.length (QP o.length (fun i=>QA.enc (o.getD i ⟨0,0⟩)) (QJ [[vi (c:Int),vj 3]] 0)) fun
  i=>QA.enc (o'.getD i ⟨0,0⟩)]++(ZX c d))):=by kernel_rfl
theorem QPP(o o':List QC)(c:Nat):QO 8 [.ptr 16 0 0,.slz 24 0 o.length cO,.slz 0 0 d.ps.n cO,vi (d.ps.n:Int),vi (c:Int)] ([(Xa s),(QCn o),(XU d)]) (vJ d s
  o' c)=(some ((j5 o o')++[cO=cO,0=0,d.ps.n=d.ps.n,cO=cO,(d.ps.n:Int)=(d.ps.n:Int),(c:Int)=(c:Int)]++(Yh s)++(Yi s)
  ++ [o'.length≤o.length,QE 2 o'.length (fun i=>QA.enc (o.getD i ⟨0,0⟩)) fun i=>QA.enc (o'.getD i ⟨0,0⟩),d.ps.n≤d.ps.n,QE 28 d.ps.n (fun i=>QA.enc
  (d.ps.get i)) fun i=>QA.enc (d.ps.get i)])):=by kernel_rfl
end Go.Proofs.Ytbpffdkemeoajaa
namespace Go.SX
open Go Go.RowKit Go.Proofs.Ytbpffdkemeoajaa
variable {Q:AV→List (Nat×Blk)→Prop}
theorem Hw{q0 q1 q2 q3 m0 m1 m2 m3 n0 n1 n2 n3:Bool}{L0 L1 L2 L3 K:QB}(hm0:m0=true)(hm1:m1=true)(hm2:m2=true)(hm3:m3=true)(h0:n0=true)(h1:n1=true)(h2:n2=true)(h3:n3=true)(hno:(q0&&(q1&&(q2&&q3)))=false→L0.den Q∧L1.den Q∧L2.den Q∧L3.den Q)(hyes:(q0&&(q1&&(q2&&q3)))=true→K.den Q):
  (QB.need m0 (.need n0 (.br (!q0) L0 (.need m1 (.need n1 (.br (!q1) L1 (.need m2 (.need n2 (.br (!q2) L2 (.need m3 (.need n3 (.br (!q3) L3 K)))))))))))).den Q:=by
 subst hm0 hm1 hm2 hm3 h0 h1 h2 h3;refine QF rfl (QF rfl (QK (fun h => ?_) (fun h=>QF rfl (QF rfl (QK (fun h' => ?_) (fun h'=>QF rfl (QF rfl (QK (fun h'' => ?_) (fun h''=>QF rfl (QF rfl (QK (fun h''' => ?_) (fun h''' => ?_)))))))))))) 
 ·exact(hno (by cases q0<;>simp_all)).1
 ·exact(hno (by cases q0<;>cases q1<;>simp_all)).2.1
 ·exact(hno (by cases q0<;>cases q1<;>cases q2<;>simp_all)).2.2.1
 ·exact(hno (by cases q0<;>cases q1<;>cases q2<;>cases q3<;>simp_all)).2.2.2
 ·exact hyes (by cases q0<;>cases q1<;>cases q2<;>cases q3<;>simp_all)
theorem Wg{t t':QB}(e:t=t')(h:t'.den Q):YK Q t:=⟨e ▸ h⟩
end Go.SX
namespace Go.Proofs.Ytbpffdkemeoajaa
open Go.SX
def isS(x y:Edge):Bool:=cond (x.kind==0) (y.kind==0) (isF x y)
variable (d:Puz)(s:QI)
def Kq(c t:Nat):Bool:=isS (Xf s ((0+4-t) % 4)) (Xf (d.ps.get c) 0)&&(isS (Xf s ((1+4-t) % 4)) (Xf (d.ps.get c) 1)&&(isS (Xf s ((2+4-t) % 4)) (Xf (d.ps.get c) 2)&&isS (Xf s ((3+4-t) % 4)) (Xf (d.ps.get c) 3)))
def Vw(q:Bool)(l:List QC)(c t:Nat):List QC:=match q with
 | true=>l++[⟨c,t⟩]
 | false=>l
def KC(d:Puz)(s:QI)(l:List QC)(c:Nat):Nat→List QC
 | 0=>l
 | t+1=>Vw (Kq d s c t) (KC d s l c t) c t
def Q8(d:Puz)(s:QI):Nat→List QC
 | 0=>[]
 | c+1=>KC d s (Q8 d s c) c 4
theorem QNv(q:Bool)(l:List QC)(c t:Nat):(Vw q l c t).length≤l.length+1:=by
 cases q<;>simp[Vw]
theorem QDQ(d:Puz)(s:QI)(l:List QC)(c:Nat):∀ t,(KC d s l c t).length≤l.length+t
 | 0=>qlr _
 | t+1=>by
  have:=QDQ d s l c t;have:=QNv (Kq d s c t) (KC d s l c t) c t;simp only[KC];omega
theorem jv(d:Puz)(s:QI):∀ c,(Q8 d s c).length≤4*c
 | 0=>qlr _
 | c+1=>by
  have:=jv d s c;have:=QDQ d s (Q8 d s c) c 4;simp only[Q8];omega
theorem QAS(o:List QC)(c t:Nat):QE 2 (o++[(⟨c,t⟩:QC)]).length (QP o.length (fun i=>QA.enc (o.getD i ⟨0,0⟩)) (QJ [[AV.int false i64 c,AV.int true i64 t]] 0)) (fun i=>QA.enc ((o++[(⟨c,t⟩:QC)]).getD i ⟨0,0⟩)):=by
 intro i hi;rw[List.length_append,List.length_singleton]at hi
 have key:∀ j,QP o.length (fun i=>QA.enc (o.getD i ⟨0,0⟩)) (QJ [[AV.int false i64 c,AV.int true i64 t]] 0) i j=if i<o.length then QA.enc (o.getD i ⟨0,0⟩) j else YW [AV.int false i64 c,AV.int true i64 t] j:=by
  intro j;rw[VC];split
  ·rfl
  ·rename_i h;have:i=o.length:=by omega
   subst this;simp[QJ]
 have e:i<o.length→(o++[(⟨c,t⟩:QC)]).getD i ⟨0,0⟩=o.getD i ⟨0,0⟩:=fun h=>by rw[List.getD_eq_getElem?_getD,List.getD_eq_getElem?_getD,List.getElem?_append_left h]
 have e2:¬ i<o.length→(o++[(⟨c,t⟩:QC)]).getD i ⟨0,0⟩=⟨c,t⟩:=fun h=>by
  have:i=o.length:=by omega
  subst this;simp
 refine⟨?_,?_,trivial⟩
 ·show QP _ _ _ i 0=QA.enc ((o++[(⟨c,t⟩:QC)]).getD i ⟨0,0⟩) 0;rw[key 0];split
  ·rename_i h;rw[e h]
  ·rename_i h;rw[e2 h];rfl
 ·show QP _ _ _ i 1=QA.enc ((o++[(⟨c,t⟩:QC)]).getD i ⟨0,0⟩) 1;rw[key 1];split
  ·rename_i h;rw[e h]
  ·rename_i h;rw[e2 h];rfl
theorem QRK(o:List QC)(c:Nat)(ho:o.length≤4000):JD (fun t=>Jj d s (KC d s o c t) c t) (fun t=>t≤4) (fun t=>4-t) (fun _ e J=>e = .exit 2∧J=vJ d s (KC d s o c 4) c) 8 qR [] (mkE Try.prog Kd) (fun _=>hnd (mkE Try.prog Kd) 6) (WR (QZ Try.f43 0)):=by
 refine⟨fun t g ht => ?_⟩;have nd:∀ b:Bool,(cond b true true)=true:=fun b=>by cases b<;>rfl
 have hlen:=QDQ d s o c t;rcases(by have:=ht;omega:t=0∨t=1∨t=2∨t=3∨t=4)with rfl|rfl|rfl|rfl|rfl
 ·refine Wg (QQP d s _ c g) (Hw rfl rfl rfl rfl (nd _) (nd _) (nd _) (nd _) (fun hq => ?_) (fun hq => ?_))
  ·have hq:Kq d s c 0=false:=hq;have e:KC d s o c 1=KC d s o c 0:=by simp only[KC,hq,Vw]
   refine⟨?_,?_,?_,?_⟩<;>(
    refine⟨1,by decide,by decide,fun _ _ h=>h,rfl,rfl,_,QPz _ _ _ _ _,?_⟩
    rw[e]
    repeat' first|exact trivial|with_reducible rfl|exact qlr _|exact qRr|refine And.intro ?_ ?_)
  ·have hq:Kq d s c 0=true:=hq;have e:KC d s o c 1=KC d s o c 0++[⟨(c:Nat),(0:Nat)⟩]:=by simp only[KC,hq,Vw]
   refine QF (by simp;omega) ⟨1,by decide,by decide,fun _ _ h=>h,rfl,rfl,_,QQm _ _ _ _ _,?_⟩
   rw[e]
   repeat' first|exact trivial|with_reducible rfl|exact qlr _|exact qRr|refine And.intro ?_ ?_
   ·simp
   ·simp
   ·exact QAS _ c 0
 ·refine Wg (QOn d s _ c g) (Hw rfl rfl rfl rfl (nd _) (nd _) (nd _) (nd _) (fun hq => ?_) (fun hq => ?_))
  ·have hq:Kq d s c 1=false:=hq;have e:KC d s o c 2=KC d s o c 1:=by simp only[KC,hq,Vw]
   refine⟨?_,?_,?_,?_⟩<;>(
    refine⟨2,by decide,by decide,fun _ _ h=>h,rfl,rfl,_,QRj _ _ _ _ _,?_⟩
    rw[e]
    repeat' first|exact trivial|with_reducible rfl|exact qlr _|exact qRr|refine And.intro ?_ ?_)
  ·have hq:Kq d s c 1=true:=hq;have e:KC d s o c 2=KC d s o c 1++[⟨(c:Nat),(1:Nat)⟩]:=by simp only[KC,hq,Vw]
   refine QF (by simp;omega) ⟨2,by decide,by decide,fun _ _ h=>h,rfl,rfl,_,QTc _ _ _ _ _,?_⟩
   rw[e]
   repeat' first|exact trivial|with_reducible rfl|exact qlr _|exact qRr|refine And.intro ?_ ?_
   ·simp
   ·simp
   ·exact QAS _ c 1
 ·refine Wg (QSP d s _ c g) (Hw rfl rfl rfl rfl (nd _) (nd _) (nd _) (nd _) (fun hq => ?_) (fun hq => ?_))
  ·have hq:Kq d s c 2=false:=hq;have e:KC d s o c 3=KC d s o c 2:=by simp only[KC,hq,Vw]
   refine⟨?_,?_,?_,?_⟩<;>(
    refine⟨3,by decide,by decide,fun _ _ h=>h,rfl,rfl,_,QOg _ _ _ _ _,?_⟩
    rw[e]
    repeat' first|exact trivial|with_reducible rfl|exact qlr _|exact qRr|refine And.intro ?_ ?_)
  ·have hq:Kq d s c 2=true:=hq;have e:KC d s o c 3=KC d s o c 2++[⟨(c:Nat),(2:Nat)⟩]:=by simp only[KC,hq,Vw]
   refine QF (by simp;omega) ⟨3,by decide,by decide,fun _ _ h=>h,rfl,rfl,_,QS5 _ _ _ _ _,?_⟩
   rw[e]
   repeat' first|exact trivial|with_reducible rfl|exact qlr _|exact qRr|refine And.intro ?_ ?_
   ·simp
   ·simp
   ·exact QAS _ c 2
 ·refine Wg (QNL d s _ c g) (Hw rfl rfl rfl rfl (nd _) (nd _) (nd _) (nd _) (fun hq => ?_) (fun hq => ?_))
  ·have hq:Kq d s c 3=false:=hq;have e:KC d s o c 4=KC d s o c 3:=by simp only[KC,hq,Vw]
   refine⟨?_,?_,?_,?_⟩<;>(
    refine⟨4,by decide,by decide,fun _ _ h=>h,rfl,rfl,_,QWE _ _ _ _ _,?_⟩
    rw[e]
    repeat' first|exact trivial|with_reducible rfl|exact qlr _|exact qRr|refine And.intro ?_ ?_)
  ·have hq:Kq d s c 3=true:=hq;have e:KC d s o c 4=KC d s o c 3++[⟨(c:Nat),(3:Nat)⟩]:=by simp only[KC,hq,Vw]
   refine QF (by simp;omega) ⟨4,by decide,by decide,fun _ _ h=>h,rfl,rfl,_,QS0 _ _ _ _ _,?_⟩
   rw[e]
   repeat' first|exact trivial|with_reducible rfl|exact qlr _|exact qRr|refine And.intro ?_ ?_
   ·simp
   ·simp
   ·exact QAS _ c 3
 ·refine Wg (QRe d s _ c g) ?_;refine⟨_,⟨rfl,rfl⟩,rfl,rfl,_,QPP _ _ _ _ _,?_⟩
  repeat' first|exact trivial|with_reducible rfl|exact qlr _|exact qRr|refine And.intro ?_ ?_
end Go.Proofs.Ytbpffdkemeoajaa
