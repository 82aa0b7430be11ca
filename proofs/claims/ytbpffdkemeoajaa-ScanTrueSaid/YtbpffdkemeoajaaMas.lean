/- - -/
import Derived.Test.YtbpffdkemeoajaaMar
open Go.IntKind (i64)
set_option maxRecDepth 100000
namespace Go.Proofs.Ytbpffdkemeoajaa
open Go.SX
variable (d:Puz)(c:Nat)(g:Nat→Value)
def jc:List AV:=[.int false .i64 d.play.length,.int false .i64 d.play.slack,.int false .i64 d.play.loose,.int false .i64 d.play.damp.lo,.int false .i64 d.play.damp.hi,.int false .i64 d.wide,.int false .i64 d.high,.bool false d.turn,.slz 0 0 d.ps.n (.of 0)]
def QAX:JSt:=⟨62,[(1,.ptr 8 0 0),(16,.slz 0 0 d.ps.n (.of 0)),(17,.int false .i64 d.ps.n),(18,.int false .i64 c)],[(8,.cells 0 28 (jc d))]++Q3.blk 0 d.ps,96⟩
def QO5:Ex→List Nat
 | .normal=>[1,16,17,18]
 | .exit _=>[]
 | .ret=>[2,3,4]
noncomputable abbrev QKC:List AV:=
  [.nili,.ptr 62 0 0,vi (c:Int),vj 0,vj 0]
noncomputable abbrev QAw:List AV:=
  [.nili,.ptr 62 0 0,vi (c:Int),vj 1,vj 0]
noncomputable abbrev W8:List AV:=
  [.nili,.ptr 62 0 0,vi (c:Int),vj 2,vj 0]
noncomputable abbrev Vk:List AV:=
  [.nili,.ptr 62 0 0,vi (c:Int),vj 3,vj 0]
noncomputable abbrev Vw(d:Puz):List AV:=
  [.nilp,.ptr 62 0 0,.ptr 8 0 0,.slz 0 0 d.ps.n cO,vi (d.ps.n:Int),vi (i64.wrap ((c:Int)+1))]
noncomputable abbrev VW:List (Nat×Blk):=
  [(8,.cells 0 28 [vi d.play.length,vi d.play.slack,vi d.play.loose,vi d.play.damp.lo,vi d.play.damp.hi,.int
  false .i64 d.wide,vi d.high,.bool false d.turn,.slz 0 0 d.ps.n cO]),(0,.frz [.int .i64,.int .i64,.int .i64,.int .i64,.int .i64,.int .i64,.int .i64,
  .int .i64,.int .i64,.int .i64,.int .i64,.int .i64,.int .i64,.int .i64,.int .i64,.int .i64,.int .i64,.int .i64,.int .i64,.int .i64,.int .i64,.int .i64,.int .i64,.int
  .i64,.int .i64,.int .i64,.int .i64,.int .i64] d.ps.n fun i=>QA.enc (d.ps.get i))]
theorem QUd :exec (mkE Try.prog YU) (hnd (mkE Try.prog YU) 6) (Qd Try.f13 0) (JSt.inst (QAX d c) g) (KS [] QO5) = .br (decide ((c:Int)<(d.ps.n:Int))) (.need
  (decide ((0:Int)≤(c:Int)∧(c:Int)<(d.ps.n:Int))&&decide (d.ps.n≤d.ps.n)) (.need (decide (c<d.ps.n)) (.need (decide (d.ps.n≤d.ps.n)&&(true&&(true&&true))
  && decide (((1:Int)≤d.wide∧d.wide≤100)∧((1:Int)≤d.high∧d.high≤100)∧(0:Int)≤(c:Int)∧(c:Int)≤100)) (.br (QV d.wide d.high (c:Int) (0:Int) == -1)
  (.br ((d.ps.get c).up.kind != 0) (.leaf (.tup (QKC c)) ([])) (.need (decide (d.ps.n≤d.ps.n)&&(true&&(true&&true))&&decide (((1:Int)≤d.wide∧d.wide≤100)∧((1 :
  Int)≤d.high∧d.high≤100)∧(0:Int)≤(c:Int)∧(c:Int)≤100)) (.br (QV d.wide d.high (c:Int) (1:Int) == -1) (.br ((d.ps.get c).right.kind != 0) (.leaf (.tup (QAw
  c)) ([])) (.need (decide (d.ps.n≤d.ps.n)&&(true&&(true&&true))&&decide (((1:Int)≤d.wide∧d.wide≤100)∧((1:Int)≤d.high∧d.high≤100)∧(0:Int)≤(c:Int) ∧
  (c:Int)≤100)) (.br (QV d.wide d.high (c:Int) (2:Int) == -1) (.br ((d.ps.get c).down.kind != 0) (.leaf (.tup (W8 c)) ([])) (.need (decide (d.ps.n≤d.ps.n)&&(true &&
  (true&&true))&&decide (((1:Int)≤d.wide∧d.wide≤100)∧((1:Int)≤d.high∧d.high≤100)∧(0:Int)≤(c:Int)∧(c:Int)≤100)) (.br (QV d.wide d.high (c:Int)
  (3:Int) == -1) (.br ((d.ps.get c).left.kind != 0) (.leaf (.tup (Vk c)) ([])) (.leaf (.tup (Vw c d)) ((VW d)))) (.need (decide ((0:Int)≤QV d.wide d.high (c:Int) (3 :
  Int)∧QV d.wide d.high (c:Int) (3:Int)<(d.ps.n:Int))&&decide (d.ps.n≤d.ps.n)) (.need (decide ((QV d.wide d.high (c:Int) (3:Int)).toNat<d.ps.n)) (.need (true)
  (.br ((KG d.play (d.ps.get c).left (d.ps.get (QV d.wide d.high (c:Int) (3:Int)).toNat).right).1 != 2) (.leaf (.tup (Vk c)) ([])) (.leaf (.tup (Vw c d)) ((VW
  d)))))))))) (.need (decide ((0:Int)≤QV d.wide d.high (c:Int) (2:Int)∧QV d.wide d.high (c:Int) (2:Int)<(d.ps.n:Int))&&decide (d.ps.n≤d.ps.n)) (.need (decide
  ((QV d.wide d.high (c:Int) (2:Int)).toNat<d.ps.n)) (.need (true) (.br ((KG d.play (d.ps.get c).down (d.ps.get (QV d.wide d.high (c:Int) (2:Int)).toNat).up).1 != 2)
  (.leaf (.tup (W8 c)) ([])) (.need (decide (d.ps.n≤d.ps.n)&&(true&&(true&&true))&&decide (((1:Int)≤d.wide∧d.wide≤100)∧((1:Int)≤d.high∧d.high≤100)∧(0 :
  Int)≤(c:Int)∧(c:Int)≤100)) (.br (QV d.wide d.high (c:Int) (3:Int) == -1) (.br ((d.ps.get c).left.kind != 0) (.leaf (.tup (Vk c)) ([])) (.leaf (.tup (Vw c d))
  ((VW d)))) (.need (decide ((0:Int)≤QV d.wide d.high (c:Int) (3:Int)∧QV d.wide d.high (c:Int) (3:Int)<(d.ps.n:Int))&&decide (d.ps.n≤d.ps.n)) (.need
  (decide ((QV d.wide d.high (c:Int) (3:Int)).toNat<d.ps.n)) (.need (true) (.br ((KG d.play (d.ps.get c).left (d.ps.get (QV d.wide d.high (c:Int) (3 :
  Int)).toNat).right).1 != 2) (.leaf (.tup (Vk c)) ([])) (.leaf (.tup (Vw c d)) ((VW d)))))))))))))))) (.need (decide ((0:Int)≤QV d.wide d.high (c:Int) (1:Int)∧QV
  d.wide d.high (c:Int) (1:Int)<(d.ps.n:Int))&&decide (d.ps.n≤d.ps.n)) (.need (decide ((QV d.wide d.high (c:Int) (1:Int)).toNat<d.ps.n)) (.need (true) (.br ((KG
  d.play (d.ps.get c).right (d.ps.get (QV d.wide d.high (c:Int) (1:Int)).toNat).left).1 != 2) (.leaf (.tup (QAw c)) ([])) (.need (decide (d.ps.n≤d.ps.n)&&(true&&(true &&
  true))&&decide (((1:Int)≤d.wide∧d.wide≤100)∧((1:Int)≤d.high∧d.high≤100)∧(0:Int)≤(c:Int)∧(c:Int)≤100)) (.br (QV d.wide d.high (c:Int) (2:Int)
  == -1) (.br ((d.ps.get c).down.kind != 0) (.leaf (.tup (W8 c)) ([])) (.need (decide (d.ps.n≤d.ps.n)&&(true&&(true&&true))&&decide (((1:Int)≤d.wide∧d.wide≤100) ∧
  ((1:Int)≤d.high∧d.high≤100)∧(0:Int)≤(c:Int)∧(c:Int)≤100)) (.br (QV d.wide d.high (c:Int) (3:Int) == -1) (.br ((d.ps.get c).left.kind != 0) (.leaf (.tup
  (Vk c)) ([])) (.leaf (.tup (Vw c d)) ((VW d)))) (.need (decide ((0:Int)≤QV d.wide d.high (c:Int) (3:Int)∧QV d.wide d.high (c:Int) (3:Int)<(d.ps.n:Int))
  && decide (d.ps.n≤d.ps.n)) (.need (decide ((QV d.wide d.high (c:Int) (3:Int)).toNat<d.ps.n)) (.need (true) (.br ((KG d.play (d.ps.get c).left (d.ps.get (QV d.wide
  d.high (c:Int) (3:Int)).toNat).right).1 != 2) (.leaf (.tup (Vk c)) ([])) (.leaf (.tup (Vw c d)) ((VW d)))))))))) (.need (decide ((0:Int)≤QV d.wide d.high (c:Int)
  (2:Int)∧QV d.wide d.high (c:Int) (2:Int)<(d.ps.n:Int))&&decide (d.ps.n≤d.ps.n)) (.need (decide ((QV d.wide d.high (c:Int) (2:Int)).toNat<d.ps.n)) (.need
  (true) (.br ((KG d.play (d.ps.get c).down (d.ps.get (QV d.wide d.high (c:Int) (2:Int)).toNat).up).1 != 2) (.leaf (.tup (W8 c)) ([])) (.need (decide (d.ps.n≤d.ps.n) &&
  (true&&(true&&true))&&decide (((1:Int)≤d.wide∧d.wide≤100)∧((1:Int)≤d.high∧d.high≤100)∧(0:Int)≤(c:Int)∧(c:Int)≤100)) (.br (QV d.wide d.high (c
  : Int) (3:Int) == -1) (.br ((d.ps.get c).left.kind != 0) (.leaf (.tup (Vk c)) ([])) (.leaf (.tup (Vw c d)) ((VW d)))) (.need (decide ((0:Int)≤QV d.wide d.high (c :
  Int) (3:Int)∧QV d.wide d.high (c:Int) (3:Int)<(d.ps.n:Int))&&decide (d.ps.n≤d.ps.n)) (.need (decide ((QV d.wide d.high (c:Int) (3:Int)).toNat<d.ps.n))
  (.need (true) (.br ((KG d.play (d.ps.get c).left (d.ps.get (QV d.wide d.high (c:Int) (3:Int)).toNat).right).1 != 2) (.leaf (.tup (Vk c)) ([])) (.leaf (.tup (Vw c d))
  ((VW d)))))))))))))))))))))) (.need (decide ((0:Int)≤QV d.wide d.high (c:Int) (0:Int)∧QV d.wide d.high (c:Int) (0:Int)<(d.ps.n:Int))&&decide (d.ps.n ≤
  d.ps.n)) (.need (decide ((QV d.wide d.high (c:Int) (0:Int)).toNat<d.ps.n)) (.need (true) (.br ((KG d.play (d.ps.get c).up (d.ps.get (QV d.wide d.high (c:Int) (0 :
  Int)).toNat).down).1 != 2) (.leaf (.tup (QKC c)) ([])) (.need (decide (d.ps.n≤d.ps.n)&&(true&&(true&&true))&&decide (((1:Int)≤d.wide∧d.wide≤100)∧((1:Int) ≤
  d.high∧d.high≤100)∧(0:Int)≤(c:Int)∧(c:Int)≤100)) (.br (QV d.wide d.high (c:Int) (1:Int) == -1) (.br ((d.ps.get c).right.kind != 0) (.leaf (.tup (QAw c))
  ([])) (.need (decide (d.ps.n≤d.ps.n)&&(true&&(true&&true))&&decide (((1:Int)≤d.wide∧d.wide≤100)∧((1:Int)≤d.high∧d.high≤100)∧(0:Int)≤(c:Int)∧(c
  : Int)≤100)) (.br (QV d.wide d.high (c:Int) (2:Int) == -1) (.br ((d.ps.get c).down.kind != 0) (.leaf (.tup (W8 c)) ([])) (.need (decide (d.ps.n≤d.ps.n)&&(true&&(true
  && true))&&decide (((1:Int)≤d.wide∧d.wide≤100)∧((1:Int)≤d.high∧d.high≤100)∧(0:Int)≤(c:Int)∧(c:Int)≤100)) (.br (QV d.wide d.high (c:Int) (3 :
  Int) == -1) (.br ((d.ps.get c).left.kind != 0) (.leaf (.tup (Vk c)) ([])) (.leaf (.tup (Vw c d)) ((VW d)))) (.need (decide ((0:Int)≤QV d.wide d.high (c:Int) (3:Int)
  ∧ QV d.wide d.high (c:Int) (3:Int)<(d.ps.n:Int))&&decide (d.ps.n≤d.ps.n)) (.need (decide ((QV d.wide d.high (c:Int) (3:Int)).toNat<d.ps.n)) (.need (true) (.br
  ((KG d.play (d.ps.get c).left (d.ps.get (QV d.wide d.high (c:Int) (3:Int)).toNat).right).1 != 2) (.leaf (.tup (Vk c)) ([])) (.leaf (.tup (Vw c d)) ((VW d))))))))))
  (.need (decide ((0:Int)≤QV d.wide d.high (c:Int) (2:Int)∧QV d.wide d.high (c:Int) (2:Int)<(d.ps.n:Int))&&decide (d.ps.n≤d.ps.n)) (.need (decide ((QV
  d.wide d.high (c:Int) (2:Int)).toNat<d.ps.n)) (.need (true) (.br ((KG d.play (d.ps.get c).down (d.ps.get (QV d.wide d.high (c:Int) (2:Int)).toNat).up).1 != 2) (.leaf
  (.tup (W8 c)) ([])) (.need (decide (d.ps.n≤d.ps.n)&&(true&&(true&&true))&&decide (((1:Int)≤d.wide∧d.wide≤100)∧((1:Int)≤d.high∧d.high≤100)∧(0:Int) ≤
  (c:Int)∧(c:Int)≤100)) (.br (QV d.wide d.high (c:Int) (3:Int) == -1) (.br ((d.ps.get c).left.kind != 0) (.leaf (.tup (Vk c)) ([])) (.leaf (.tup (Vw c d)) ((VW
  d)))) (.need (decide ((0:Int)≤QV d.wide d.high (c:Int) (3:Int)∧QV d.wide d.high (c:Int) (3:Int)<(d.ps.n:Int))&&decide (d.ps.n≤d.ps.n)) (.need (decide
  ((QV d.wide d.high (c:Int) (3:Int)).toNat<d.ps.n)) (.need (true) (.br ((KG d.play (d.ps.get c).left (d.ps.get (QV d.wide d.high (c:Int) (3:Int)).toNat).right).1 !=
  2) (.leaf (.tup (Vk c)) ([])) (.leaf (.tup (Vw c d)) ((VW d)))))))))))))))) (.need (decide ((0:Int)≤QV d.wide d.high (c:Int) (1:Int)∧QV d.wide d.high (c:Int)
  (1:Int)<(d.ps.n:Int))&&decide (d.ps.n≤d.ps.n)) (.need (decide ((QV d.wide d.high (c:Int) (1:Int)).toNat<d.ps.n)) (.need (true) (.br ((KG d.play (d.ps.get
  c).right (d.ps.get (QV d.wide d.high (c:Int) (1:Int)).toNat).left).1 != 2) (.leaf (.tup (QAw c)) ([])) (.need (decide (d.ps.n≤d.ps.n)&&(true&&(true&&true))&&decide
  (((1:Int)≤d.wide∧d.wide≤100)∧((1:Int)≤d.high∧d.high≤100)∧(0:Int)≤(c:Int)∧(c:Int)≤100)) (.br (QV d.wide d.high (c:Int) (2:Int) == -1) (.br
  ((d.ps.get c).down.kind != 0) (.leaf (.tup (W8 c)) ([])) (.need (decide (d.ps.n≤d.ps.n)&&(true&&(true&&true))&&decide (((1:Int)≤d.wide∧d.wide≤100)∧((1:Int) ≤
  d.high∧d.high≤100)∧(0:Int)≤(c:Int)∧(c:Int)≤100)) (.br (QV d.wide d.high (c:Int) (3:Int) == -1) (.br ((d.ps.get c).left.kind != 0) (.leaf (.tup (Vk c))
  ([])) (.leaf (.tup (Vw c d)) ((VW d)))) (.need (decide ((0:Int)≤QV d.wide d.high (c:Int) (3:Int)∧QV d.wide d.high (c:Int) (3:Int)<(d.ps.n:Int))&&decide
  (d.ps.n≤d.ps.n)) (.need (decide ((QV d.wide d.high (c:Int) (3:Int)).toNat<d.ps.n)) (.need (true) (.br ((KG d.play (d.ps.get c).left (d.ps.get (QV d.wide d.high (c :
  Int) (3:Int)).toNat).right).1 != 2) (.leaf (.tup (Vk c)) ([])) (.leaf (.tup (Vw c d)) ((VW d)))))))))) (.need (decide ((0:Int)≤QV d.wide d.high (c:Int) (2:Int) ∧
  QV d.wide d.high (c:Int) (2:Int)<(d.ps.n:Int))&&decide (d.ps.n≤d.ps.n)) (.need (decide ((QV d.wide d.high (c:Int) (2:Int)).toNat<d.ps.n)) (.need (true) (.br
  ((KG d.play (d.ps.get c).down (d.ps.get (QV d.wide d.high (c:Int) (2:Int)).toNat).up).1 != 2) (.leaf (.tup (W8 c)) ([])) (.need (decide (d.ps.n≤d.ps.n)&&(true&&(true
  && true))&&decide (((1:Int)≤d.wide∧d.wide≤100)∧((1:Int)≤d.high∧d.high≤100)∧(0:Int)≤(c:Int)∧(c:Int)≤100)) (.br (QV d.wide d.high (c:Int) (3 :
  Int) == -1) (.br ((d.ps.get c).left.kind != 0) (.leaf (.tup (Vk c)) ([])) (.leaf (.tup (Vw c d)) ((VW d)))) (.need (decide ((0:Int)≤QV d.wide d.high (c:Int) (3:Int)
  ∧ QV d.wide d.high (c:Int) (3:Int)<(d.ps.n:Int))&&decide (d.ps.n≤d.ps.n)) (.need (decide ((QV d.wide d.high (c:Int) (3:Int)).toNat<d.ps.n)) (.need (true) (.br
  ((KG d.play (d.ps.get c).left (d.ps.get (QV d.wide d.high (c:Int) (3:Int)).toNat).right).1 != 2) (.leaf (.tup (Vk c)) ([])) (.leaf (.tup (Vw c d)) ((VW
  d))))))))))))))))))))))))))))) (.leaf (.tup [.ptr 0 0 0,.ptr 62 0 0]) ([])):=by kernel_rfl
def vw(c s:Nat):JSt:=⟨62,[(2,.int false .i64 c),(3,.int false .i64 s),(4,.int false .i64 0)],[],96⟩
def QG7:JSt:=⟨62,[],[],96⟩
theorem QZa(c c' s':Nat):QK 8 [AV.int false i64 (↑c:Int),AV.int true i64 (0:Int),AV.int true i64 (0:Int)] ([]) (vw c' s')=(
  some [(↑c:Int)=(↑c':Int),(0:Int)=(↑s':Int),(0:Int)=(0:Int)]):=by kernel_rfl
theorem QaE(c c' s':Nat):QK 8 [AV.int false i64 (↑c:Int),AV.int true i64 (1:Int),AV.int true i64 (0:Int)] ([]) (vw c' s')=(
  some [(↑c:Int)=(↑c':Int),(1:Int)=(↑s':Int),(0:Int)=(0:Int)]):=by kernel_rfl
theorem QTF(c c' s':Nat):QK 8 [AV.int false i64 (↑c:Int),AV.int true i64 (2:Int),AV.int true i64 (0:Int)] ([]) (vw c' s')=(
  some [(↑c:Int)=(↑c':Int),(2:Int)=(↑s':Int),(0:Int)=(0:Int)]):=by kernel_rfl
theorem QU0(c c' s':Nat):QK 8 [AV.int false i64 (↑c:Int),AV.int true i64 (3:Int),AV.int true i64 (0:Int)] ([]) (vw c' s')=(
  some [(↑c:Int)=(↑c':Int),(3:Int)=(↑s':Int),(0:Int)=(0:Int)]):=by kernel_rfl
theorem QSl(c c':Nat):QK 8 [.ptr 8 0 0,.slz 0 0 d.ps.n cO,vi (d.ps.n:Int),vi (i64.wrap ((c:Int)+1))] ((VW d)) (QAX d c')=(some [0=0,0=0,0
  = 0,d.ps.n=d.ps.n,cO=cO,(d.ps.n:Int)=(d.ps.n:Int),i64.wrap ((c:Int)+1)=(c':Int),d.play.length=d.play.length,d.play.slack =
  d.play.slack,d.play.loose=d.play.loose,d.play.damp.lo=d.play.damp.lo,d.play.damp.hi=d.play.damp.hi,d.wide=d.wide,d.high=d.high,d.turn=d.turn,0=0,d.ps.n =
  d.ps.n,cO=cO,d.ps.n≤d.ps.n,QC 28 d.ps.n (fun i=>QA.enc (d.ps.get i)) fun i=>QA.enc (d.ps.get i)]):=by kernel_rfl
theorem QSs :QK 8 [] ([]) QG7=(
  some []):=by kernel_rfl
end Go.Proofs.Ytbpffdkemeoajaa
namespace Go.SX
open Go Go.RowKit Go.Proofs.Ytbpffdkemeoajaa
variable {Q:AV→List (Nat×Blk)→Prop}
theorem QCS{A b1 b2 b3 n1 n2 x:Bool}{L K:QD}(hA:A=true)(hn:b1=false→n1=true∧n2=true)(hx:x=cond b1 b2 b3)(hr:x=true→L.den Q)(hk:x=false→K.den Q):
  (QD.need A (.br b1 (.br b2 L K) (.need n1 (.need n2 (.need true (.br b3 L K)))))).den Q:=by
 refine QF hA (QI (fun h1 => ?_) (fun h1 => ?_))
 ·rw[h1]at hx;exact QI (fun h=>hr (by rw[hx,h];rfl)) (fun h=>hk (by rw[hx,h];rfl))
 ·rw[h1]at hx;exact QF (hn h1).1 (QF (hn h1).2 (QF rfl (QI (fun h=>hr (by rw[hx,h];rfl)) (fun h=>hk (by rw[hx,h];rfl)))))
end Go.SX
namespace Go.Proofs.Ytbpffdkemeoajaa
open Go.SX
def Ky(x:QG):Nat→Edge
 | 0=>x.up
 | 1=>x.right
 | 2=>x.down
 | _=>x.left
variable (d:Puz)(c:Nat)
def Zi(c s:Nat):Bool:=cond (QV d.wide d.high c s == -1) ((Ky (d.ps.get c) s).kind != 0) ((KG d.play (Ky (d.ps.get c) s) (Ky (d.ps.get (QV d.wide d.high c s).toNat) ((s+2) % 4))).1 != 2)
def Xf(i:Nat):Bool:=Zi d (i / 4) (i % 4)
structure W4 (d:Puz):Prop where
 n9:d.ps.n≤9
 w1:1≤d.wide
 wn:d.wide≤d.ps.n
 h1:1≤d.high
 hn:d.high≤d.ps.n
 wh:d.wide*d.high=d.ps.n
theorem jQ{d:Puz}(h:d.ok=true):W4 d:=by
 simp only[Puz.ok,Puz.okN,Qg,qbA,qdE,beq_iff_eq]at h;obtain⟨⟨⟨a1,a2⟩,⟨b1,b2⟩,⟨c1,c2⟩,e⟩,_⟩:=h;have hw:d.wide≤9:=by omega
 have hh:d.high≤9:=by omega
 have hm:d.wide*d.high≤9*9:=Int.mul_le_mul hw hh (by omega) (by omega)
 have hm0:0≤d.wide*d.high:=Int.mul_nonneg (by omega) (by omega)
 rw[w64 (by omega) (by omega)]at e
 exact⟨by omega,b1,b2,c1,c2,e⟩
theorem QPn{d:Puz}(h:W4 d){c s:Nat}(hc:c<d.ps.n)(hb:(QV d.wide d.high c s == -1)=false):0≤QV d.wide d.high c s∧QV d.wide d.high c s<d.ps.n:=by
 have w1:=h.w1;have m0:0≤(c:Int).tmod d.wide:=Int.tmod_nonneg _ (by omega)
 have m1:(c:Int).tmod d.wide<d.wide:=Int.tmod_lt_of_pos _ (by omega)
 have q0:0≤(c:Int).tdiv d.wide:=Int.tdiv_nonneg (by omega) (by omega)
 have e:=Int.tmod_def (c:Int) d.wide;have wh:=h.wh;simp only[QV]at hb ⊢;generalize (c:Int).tdiv d.wide=q at *;generalize (c:Int).tmod d.wide=m at *
 have hq:q<d.high:=by
  rcases Int.lt_or_le q d.high with g|g
  ·exact g
  ·have:=Int.mul_le_mul_of_nonneg_left g (show 0≤d.wide by omega)
   omega
 have p0:0≤d.wide*q:=Int.mul_nonneg (by omega) q0
 have a1:d.wide*(q+1)≤d.wide*d.high:=Int.mul_le_mul_of_nonneg_left (by omega) (by omega)
 have e1:d.wide*(q+1)=d.wide*q+d.wide:=by rw[Int.mul_add,Int.mul_one]
 cases x0:((s:Int)==0&&decide (0<q))with
 | true=>
  simp only[cond_true];simp only[qbA,qdE]at x0;have:=Int.mul_le_mul_of_nonneg_left (show 1≤q by omega) (show 0≤d.wide by omega)
  omega
 | false=>
  simp only[x0,cond_false]at hb ⊢;cases x1:((s:Int)==1&&decide (m<d.wide-1))with
  | true=>
   simp only[cond_true];simp only[qbA,qdE]at x1;omega
  | false=>
   simp only[x1,cond_false]at hb ⊢;cases x2:((s:Int)==2&&decide (q<d.high-1))with
   | true=>
    simp only[cond_true];simp only[qbA,qdE]at x2;have a2:d.wide*(q+2)≤d.wide*d.high:=Int.mul_le_mul_of_nonneg_left (by omega) (by omega)
    have e2:d.wide*(q+2)=d.wide*q+d.wide*2:=by rw[Int.mul_add]
    omega
   | false=>
    simp only[x2,cond_false]at hb ⊢;cases x3:((s:Int)==3&&decide (0<m))with
    | true=>
     simp only[cond_true];simp only[qbA,qdE]at x3;omega
    | false=>
     simp only[x3,cond_false]at hb;exact absurd hb (by decide)
def QPr(e:Ex)(J:JSt):Prop:=(∃ i,e = .ret∧QU (Xf d) (4*(d.ps.n-c)) (4*c)=some i∧J=vw (i / 4) (i % 4))∨(e = .exit 0∧QU (Xf d) (4*(d.ps.n-c)) (4*c)=none∧J=QG7)
theorem Qaw(hd:W4 d):Ji (QAX d) (fun c=>c≤d.ps.n) (fun c=>d.ps.n-c) (QPr d) 8 QO5 [] (mkE Try.prog YU) (fun _=>hnd (mkE Try.prog YU) 6) (Qd Try.f13 0):=by
 refine⟨fun c g hk=>⟨Ga (QUd d c g) ?_⟩⟩;have n9:=hd.n9;refine QI (fun h => ?_) (fun h => ?_)
 ·have h:c<d.ps.n:=by have:=qdt h;omega
  have hw:=hd.w1;have hwn:=hd.wn;have hh:=hd.h1;have hhn:=hd.hn
  have hA:(decide (d.ps.n≤d.ps.n)&&(true&&(true&&true))&&decide (((1:Int)≤d.wide∧d.wide≤(100:Int))∧((1:Int)≤d.high∧d.high≤(100:Int))∧(0:Int)≤(c:Int)∧(c:Int)≤(100:Int)))=true:=by
   simp only[qlr,decide_true,Bool.true_and,qdE];omega
  have hn:∀ s:Nat,(QV d.wide d.high c s == -1)=false→(decide (0≤QV d.wide d.high c s∧QV d.wide d.high c s<(d.ps.n:Int))&&decide (d.ps.n≤d.ps.n))=true∧decide ((QV d.wide d.high c s).toNat<d.ps.n)=true:=fun s hb=>by
   have:=QPn hd h hb;simp only[qlr,decide_true,Bool.and_true,qdE];omega
  obtain⟨m,hm⟩:∃ m,4*(d.ps.n-c)=m+1+1+1+1:=⟨4*(d.ps.n-c)-4,by omega⟩
  have hm':4*(d.ps.n-(c+1))=m:=by omega
  have q0:Xf d (4*c)=Zi d c 0:=by unfold Xf;rw[show 4*c / 4=c by omega,show 4*c % 4=0 by omega]
  have q1:Xf d (4*c+1)=Zi d c 1:=by unfold Xf;rw[show(4*c+1) / 4=c by omega,show(4*c+1) % 4=1 by omega]
  have q2:Xf d (4*c+1+1)=Zi d c 2:=by unfold Xf;rw[show(4*c+1+1) / 4=c by omega,show(4*c+1+1) % 4=2 by omega]
  have q3:Xf d (4*c+1+1+1)=Zi d c 3:=by unfold Xf;rw[show(4*c+1+1+1) / 4=c by omega,show(4*c+1+1+1) % 4=3 by omega]
  refine QF (by simp;omega) (QF (by simp;omega) ?_)
  refine QCS (x:=Zi d c 0) hA (hn 0) rfl (fun b0 => ?_) (fun b0 => ?_)
  ·refine⟨_,.inl ⟨4*c,rfl,by rw[hm,QU,q0,b0],rfl⟩,rfl,rfl,_,QZa c _ _,?_⟩
   exact⟨by omega,by omega,rfl,trivial⟩
  refine QCS (x:=Zi d c 1) hA (hn 1) rfl (fun b1 => ?_) (fun b1 => ?_)
  ·refine⟨_,.inl ⟨4*c+1,rfl,by rw[hm,QU,q0,b0,QU,q1,b1],rfl⟩,rfl,rfl,_,QaE c _ _,?_⟩
   exact⟨by omega,by omega,rfl,trivial⟩
  refine QCS (x:=Zi d c 2) hA (hn 2) rfl (fun b2 => ?_) (fun b2 => ?_)
  ·refine⟨_,.inl ⟨4*c+1+1,rfl,by rw[hm,QU,q0,b0,QU,q1,b1,QU,q2,b2],rfl⟩,rfl,rfl,_,QTF c _ _,?_⟩
   exact⟨by omega,by omega,rfl,trivial⟩
  refine QCS (x:=Zi d c 3) hA (hn 3) rfl (fun b3 => ?_) (fun b3 => ?_)
  ·refine⟨_,.inl ⟨4*c+1+1+1,rfl,by rw[hm,QU,q0,b0,QU,q1,b1,QU,q2,b2,QU,q3,b3],rfl⟩,rfl,rfl,_,QU0 c _ _,?_⟩
   exact⟨by omega,by omega,rfl,trivial⟩
  have hf:QU (Xf d) (4*(d.ps.n-c)) (4*c)=QU (Xf d) (4*(d.ps.n-(c+1))) (4*(c+1)):=by
   rw[hm,hm',QU,q0,b0,QU,q1,b1,QU,q2,b2,QU,q3,b3,show 4*(c+1)=4*c+1+1+1+1 by omega]
  refine⟨c+1,h,by show d.ps.n-(c+1)<d.ps.n-c;omega,fun e J h=>by unfold QPr at h ⊢;rw[hf];exact h,rfl,rfl,_,QSl d c (c+1),?_⟩
  have hw:i64.wrap ((c:Int)+1)=((c+1:Nat):Int):=(w64 (by omega) (by omega)).trans (by omega)
  repeat' first|exact trivial|with_reducible rfl|exact qlr _|exact hw|exact qRr|refine And.intro ?_ ?_
 ·have h:d.ps.n≤c:=by have:=of_decide_eq_false h;omega
  exact⟨_,.inr ⟨rfl,by rw[show 4*(d.ps.n-c)=0 by omega];rfl,rfl⟩,rfl,rfl,_,QSs,trivial⟩
end Go.Proofs.Ytbpffdkemeoajaa
namespace Go.SX
open Go Go.RowKit Go.Proofs.Ytbpffdkemeoajaa
def WB(p:Prop)(L:St→(Ex→St→QD)→QD)(st:St)(K:Ex→St→QD):QD := .ask p (L st K)
theorem QBv{E:Env}{G:Ctx}{c:Code}{p:Prop}{L:St→(Ex→St→QD)→QD}(h:p→J5 E G c L):J5 E G c (WB p L):=by
 intro st K T Q a w hn hd hr hQ;obtain⟨h1,h2⟩:=(show p∧(L st K).den T from hd);exact h h1 st K T Q a w hn h2 hr hQ
end Go.SX
namespace Go.Proofs.Ytbpffdkemeoajaa
open Go.SX
variable (d:Puz)
def jK:Option Nat:=QU (Xf d) (4*d.ps.n) 0
def vc:Nat:=(jK d).getD 0
def QW4:List (Prop×Ex×JSt):=[((jK d).isSome=true,.ret,vw (vc d / 4) (vc d % 4)),(jK d=none,.exit 0,QG7)]
abbrev QAP(P:Program)(d:Puz):Hnd:={ hnd (mkE P YU) 1 with loop:=fun _=>WB (W4 d) (KN 8 [] (QAX d 0) (QW4 d)) }
theorem QR4(G:Ctx)(hrd:G.rd=none)(hG:G.n=8):KH (mkE Try.prog YU) G (QAP Try.prog d) (Qr Try.f13):=by
 refine Jd (body:=Qd Try.f13 0) (QT HC) hrd (by kernel_rfl) ?_
 refine QBv fun hd => ?_;refine Ju (n0:=8) (QT HC) (by omega) (fun s hs=>Qz (QT HC) 6 G _ hrd) (fun s hs=>(by decide:8≤96)) ?_ (Qaw d hd) (s0:=0) (Nat.zero_le _) ?_
 ·rintro s e J (⟨_,_,_,rfl⟩|⟨_,_,rfl⟩)<;>exact(by decide:8≤96)
 ·rintro e J (⟨i,rfl,h,rfl⟩|⟨rfl,h,rfl⟩)
  ·have h:jK d=some i:=h;refine⟨_,List.mem_cons_self,by simp only[h];rfl,rfl,?_⟩
   simp only[vc,h];rfl
  ·exact⟨_,List.mem_cons_of_mem _ List.mem_cons_self,h,rfl,rfl⟩
def vA:Int×Int×Int:=match d.ok with
 | false=>(0,0,1)
 | true=>(match jK d with
  | some i=>(((i / 4:Nat):Int),((i % 4:Nat):Int),0)
  | none=>(0,0,4))
def W3:WF (Puz×Unit):=fun|(d,_)=>(decide (d.ps.n≤1000),.tup [.int false .i64 (vA d).1,.int false .i64 (vA d).2.1,.int false .i64 (vA d).2.2],[])
def QIB:FC:=wFC W3
theorem QYB :Kc (mkE Try.prog YU) (QAP Try.prog d) Try.f13 (QX.vals 0 ((d,()):Puz×Unit)) (QX.blks 0 ((d,()):Puz×Unit)) 8 = .need (decide (d.ps.n≤d.ps.n)&&true &&
  decide (d.ps.n≤1000)) (.br (!d.ok) (.leaf (.tup [vj 0,vj 0,vj 1]) ([])) (.ask (W4 d) (.ask (0=0) (.ask (0=0) (.ask (0=0) (.ask
  (d.ps.n=d.ps.n) (.ask (cO=cO) (.ask ((d.ps.n:Int)=(d.ps.n:Int)) (.ask ((0:Int)=0) (.ask (d.play.length=d.play.length) (.ask (d.play.slack=d.play.slack)
  (.ask (d.play.loose=d.play.loose) (.ask (d.play.damp.lo=d.play.damp.lo) (.ask (d.play.damp.hi=d.play.damp.hi) (.ask (d.wide=d.wide) (.ask (d.high=d.high) (.ask (d.turn =
  d.turn) (.ask (0=0) (.ask (d.ps.n=d.ps.n) (.ask (cO=cO) (.ask (d.ps.n≤d.ps.n) (.ask (QC 28 d.ps.n (fun i=>QA.enc (d.ps.get i)) fun i=>QA.enc
  (d.ps.get i)) (.both (.asm ((jK d).isSome=true) (.all (fun(g0:Nat→Value) => .leaf (.tup [vi (↑(vc d / 4):Int),vi (↑(vc d % 4):Int),.int
  false .i64 0]) ([])))) (.asm (jK d=none) (.all (fun(g1:Nat→Value) => .leaf (.tup [vj 0,vj 0,vj 4]) ([]))))))))))))))))))))))))))):=by kernel_rfl
theorem QUB:Jr (mkE Try.prog YU) (Qr Try.f13) 8 W3 (fun x_=>(QAP Try.prog x_.1)):=by
 refine⟨?_⟩;rintro⟨d,⟨⟩⟩ hp G h1 h2;exact QR4 d G h1 h2
theorem QV3:Jo (mkE Try.prog YU) Try.f13 8 W3 (fun x_=>(QAP Try.prog x_.1)):=by
 refine⟨?_⟩;rintro⟨d,⟨⟩⟩ hp;refine⟨⟨rfl,by simp[W3],rfl⟩,⟨?_⟩⟩
 rw[QYB d];simp only[W3]at hp;refine QF (by simpa using hp) (QI (fun h=>JE ?_ rfl) (fun h => ?_))
 ·have h:d.ok=false:=by simpa using h
  simp only[W3,vA,h];exact⟨⟨rfl,rfl⟩,⟨rfl,rfl⟩,⟨rfl,rfl⟩,trivial⟩
 ·have h:d.ok=true:=by simpa using h
  refine Qb (jQ h) ?_
  repeat' first|refine Qb (show _=_ by with_reducible rfl) ?_|refine Qb (show _≤_ from qlr _) ?_|refine Qb (show QC _ _ _ _ from qRr) ?_
  refine Yu (KO fun ho=>KK fun g => ?_) (KO fun ho=>KK fun g => ?_)
  ·obtain⟨i,hi⟩:=Option.isSome_iff_exists.1 ho;exact JE (by simp only[W3,vA,vc,h,hi];exact⟨⟨rfl,rfl⟩,⟨rfl,rfl⟩,⟨rfl,rfl⟩,trivial⟩) rfl
  ·exact JE (by simp only[W3,vA,h,ho];exact⟨⟨rfl,rfl⟩,⟨rfl,rfl⟩,⟨rfl,rfl⟩,trivial⟩) rfl
theorem QTb:QQ Try.prog 13 QIB:=
 Jx (QT HC) Try.func13 (by kernel_rfl) (by kernel_rfl) (by decide) QUB QV3
def QCF:Tab:=Qe YU 13 QIB
theorem QPK:Qc QCF:=HC.add QTb
structure Fl where
instance : Enc Fl where
  enc _ := .agg []
  dec | .agg [] => some ⟨⟩ | _ => none
  ok v x h := by
    split at h <;> (try (cases h; done))
    exact⟨fun _ => rfl,rfl⟩
def QJV:Fl×Edge×Unit→Bool×AV:=fun|(b,(s,_))=>(true,.bool false (s.kind==0))
def QKO:FC:=KD (KE QJV)
theorem QUA(b:Fl)(s:Edge):Q8 (mkE Try.prog QCF) (hnd (mkE Try.prog QCF) 2) false Try.f124 (Qt.enc ((b,s,()):Fl×Edge×Unit)) [] 0 =
  QD.leaf (AV.bool false (s.kind==(0:Int))) ([]):=by kernel_rfl
theorem Qaj:QQ Try.prog 124 QKO:=by
 refine KQ QPK 2 Try.func124 (by kernel_rfl) (by kernel_rfl) ?_
 rintro⟨b,s,⟨⟩⟩ hp;rw[QUA b s];simp only[QJV,QD.den,AV.same,AV.sameL,and_true,true_and]at hp ⊢
def QCV:Tab:=Qe QCF 124 QKO
theorem QGW:Qc QCV:=QPK.add Qaj
def QDq:Edge×Unit→Bool×AV:=fun|(s,_)=>(true,.alt (s.kind==0) (.ifc 139 (.agg [])) (.ifc 140 (Enc.enc s)))
def QLp:FC:=KD (KE QDq)
theorem QSj(s:Edge):Q8 (mkE Try.prog QCV) (hnd (mkE Try.prog QCV) 2) false Try.f73 (Qt.enc ((s,()):Edge×Unit)) [] 0 =
  QD.br (s.kind==(0:Int)) (QD.leaf (AV.ifc (139:Nat) (AV.agg [])) ([])) (QD.leaf (AV.ifc (140:Nat) (AV.agg [AV.int false i64 s.kind,AV.int false i64
  s.at_.lo,AV.int false i64 s.at_.hi,AV.int false i64 s.wide.lo,AV.int false i64 s.wide.hi,AV.int false i64 s.deep.lo,AV.int false i64
  s.deep.hi])) ([])):=by kernel_rfl
theorem QUv:QQ Try.prog 73 QLp:=by
 refine Qap (c:=Qr Try.f73) (QT QGW) Try.func73 (by kernel_rfl) (by kernel_rfl) (fun G _ hG=>Qz (QT QGW) 2 G _ hG) ?_
 rintro⟨s,⟨⟩⟩ _;refine Ga (QSj s) ?_;refine⟨fun h r r' => ?_,fun h r r' => ?_⟩
 ·simp only[QDq,h];rfl
 ·simp only[QDq,h];rfl
def JA:Tab:=Qe QCV 73 QLp
theorem jg:Qc JA:=QGW.add QUv
end Go.Proofs.Ytbpffdkemeoajaa
namespace Go.SX
open Go Go.RowKit Go.Proofs.Ytbpffdkemeoajaa
def qt(c:Code):Code:=match JB c with
 | .loop b::_=>b
 | _ => .skip
end Go.SX
namespace Go.Proofs.Ytbpffdkemeoajaa
open Go.SX
structure QB where
 cell:Int
 turn:Int
instance : QA QB where
  ks := [.int .i64,.int .i64]
  enc p j := match j with
    | 0 => p.cell
    | _ => p.turn
  dec f := ⟨f 0,f 1⟩
  ok _ := rfl
variable (d:Puz)(s:QG)(c:Nat)
def qP(o:List QB)(c:Nat):JSt:=⟨49,[(3,.ptr 16 0 0),(4,.slz 24 0 o.length (.of 0)),(11,.slz 0 0 d.ps.n (.of 0)),(12,.int false .i64 d.ps.n),(13,.int false .i64 c)],[(16,.cells 7 33 (Enc.enc s).cells),Ke 56 24 o ⟨0,0⟩]++Q3.blk 0 d.ps,32⟩
def Va(o:List QB)(c t:Nat):JSt:=⟨49,[(3,.ptr 16 0 0),(4,.slz 24 0 o.length (.of 0)),(5,.int false .i64 c),(6,.ptr 32 0 0),(11,.slz 0 0 d.ps.n (.of 0)),(12,.int false .i64 d.ps.n),(13,.int false .i64 c),(18,.int true .i64 t)],[(16,.cells 7 33 (Enc.enc s).cells),Ke 56 24 o ⟨0,0⟩,(32,.cells 7 33 (Enc.enc (d.ps.get c)).cells)]++Q3.blk 0 d.ps,40⟩
def vp:Ex→List Nat
 | .normal=>[3,4,5,6,11,12,13,18]
 | .exit _=>[3,4,11,12,13]
 | .ret=>[]
noncomputable abbrev QBG(d:Puz)(o:List QB):List AV:=
  [.nilp,.ptr 49 0 0,.ptr 16 0 0,.slz 24 0 o.length cO,vi (c:Int),.ptr 32 0 0,.slz 0 0 d.ps.n cO,vi (d.ps.n:Int),.int false .i64
  (c:Int),vj 1]
noncomputable abbrev YT:Nat×Blk:=
  (16,.cells 7 33 ((Enc.enc (s:QG)).cells))
noncomputable abbrev QF3(o:List QB):Nat×Blk:=
  (24,.rowz true 56 [.int .i64,.int .i64] o.length fun i=>QA.enc (o.getD i ⟨0,0⟩))
noncomputable abbrev ZR(d:Puz):Nat×Blk:=
  (32,.cells 7 33 ((Enc.enc ((d.ps.get c):QG)).cells))
noncomputable abbrev Ye:Nat×Blk:=
  (0,.frz [.int .i64,.int .i64,.int .i64,.int .i64,.int .i64,.int .i64,.int .i64,.int .i64,.int .i64,.int .i64,.int .i64,.int .i64,.int .i64,.int .i64,.int .i64,.int
  .i64,.int .i64,.int .i64,.int .i64,.int .i64,.int .i64,.int .i64,.int .i64,.int .i64,.int .i64,.int .i64,.int .i64,.int .i64] d.ps.n fun i=>QA.enc (d.ps.get i))
noncomputable abbrev Jz(d:Puz)(o:List QB)(s:QG):List (Nat×Blk):=
  [(YT s),(QF3 o),(ZR c d),(Ye d)]
noncomputable abbrev QRM(o:List QB):Nat×Blk:=
  (776,.rowz true 56 [.int .i64,.int .i64] (o.length+1) (QY o.length (fun i=>QA.enc (o.getD i ⟨0,0⟩)) (QR [[vi (c:Int),vj 0]] 0)))
theorem QYz(o:List QB)(c:Nat)(g:Nat→Value):exec (mkE Try.prog JA) (hnd (mkE Try.prog JA) 6) (qt (Qd Try.f43 0)) (JSt.inst (Va d s o c 0) g) (KS [] vp) = .need (true) (.need (bif s.up.kind==0 then
  true else true) (.br (!bif s.up.kind==0 then (d.ps.get c).up.kind==0 else isF s.up (d.ps.get c).up) (.leaf (.tup (QBG c d o)) ((Jz c d o s))) (.need (true) (.need (bif
  s.right.kind==0 then true else true) (.br (!bif s.right.kind==0 then (d.ps.get c).right.kind==0 else isF s.right (d.ps.get c).right) (.leaf (.tup (QBG c d o)) ((Jz c d o
  s))) (.need (true) (.need (bif s.down.kind==0 then true else true) (.br (!bif s.down.kind==0 then (d.ps.get c).down.kind==0 else isF s.down (d.ps.get c).down) (.leaf (.tup
  (QBG c d o)) ((Jz c d o s))) (.need (true) (.need (bif s.left.kind==0 then true else true) (.br (!bif s.left.kind==0 then (d.ps.get c).left.kind==0 else isF s.left
  (d.ps.get c).left) (.leaf (.tup (QBG c d o)) ((Jz c d o s))) (.need (decide (o.length≤o.length)&&(true&&decide ((o.length+1+(o.length+1) / 4+192)*16 ≤
  281474976710656∧o.length+1≤9223372036854775807))) (.leaf (.tup [.nilp,.ptr 49 0 0,.ptr 16 0 0,.slz 776 0 (o.length+1) cO,vi (c:Int),.ptr 32 0 0,
  .slz 0 0 d.ps.n cO,vi (d.ps.n:Int),vi (c:Int),vj 1]) ([(YT s),(QRM c o),(ZR c d),(Ye d)])))))))))))))):=by kernel_rfl
noncomputable abbrev QCB(d:Puz)(o:List QB):List AV:=
  [.nilp,.ptr 49 0 0,.ptr 16 0 0,.slz 24 0 o.length cO,vi (c:Int),.ptr 32 0 0,.slz 0 0 d.ps.n cO,vi (d.ps.n:Int),.int false .i64
  (c:Int),vj 2]
noncomputable abbrev QMX(o:List QB):Nat×Blk:=
  (776,.rowz true 56 [.int .i64,.int .i64] (o.length+1) (QY o.length (fun i=>QA.enc (o.getD i ⟨0,0⟩)) (QR [[vi (c:Int),vj 1]] 0)))
theorem QZR(o:List QB)(c:Nat)(g:Nat→Value):exec (mkE Try.prog JA) (hnd (mkE Try.prog JA) 6) (qt (Qd Try.f43 0)) (JSt.inst (Va d s o c 1) g) (KS [] vp) = .need (true) (.need (bif s.left.kind==0 then
  true else true) (.br (!bif s.left.kind==0 then (d.ps.get c).up.kind==0 else isF s.left (d.ps.get c).up) (.leaf (.tup (QCB c d o)) ((Jz c d o s))) (.need (true) (.need (bif
  s.up.kind==0 then true else true) (.br (!bif s.up.kind==0 then (d.ps.get c).right.kind==0 else isF s.up (d.ps.get c).right) (.leaf (.tup (QCB c d o)) ((Jz c d o s))) (.need
  (true) (.need (bif s.right.kind==0 then true else true) (.br (!bif s.right.kind==0 then (d.ps.get c).down.kind==0 else isF s.right (d.ps.get c).down) (.leaf (.tup (QCB c d
  o)) ((Jz c d o s))) (.need (true) (.need (bif s.down.kind==0 then true else true) (.br (!bif s.down.kind==0 then (d.ps.get c).left.kind==0 else isF s.down (d.ps.get c).left)
  (.leaf (.tup (QCB c d o)) ((Jz c d o s))) (.need (decide (o.length≤o.length)&&(true&&decide ((o.length+1+(o.length+1) / 4+192)*16≤281474976710656∧o.length+1
  ≤ 9223372036854775807))) (.leaf (.tup [.nilp,.ptr 49 0 0,.ptr 16 0 0,.slz 776 0 (o.length+1) cO,vi (c:Int),.ptr 32 0 0,.slz 0 0 d.ps.n cO,
  .int false .i64 (d.ps.n:Int),vi (c:Int),vj 2]) ([(YT s),(QMX c o),(ZR c d),(Ye d)])))))))))))))):=by kernel_rfl
noncomputable abbrev QC8(d:Puz)(o:List QB):List AV:=
  [.nilp,.ptr 49 0 0,.ptr 16 0 0,.slz 24 0 o.length cO,vi (c:Int),.ptr 32 0 0,.slz 0 0 d.ps.n cO,vi (d.ps.n:Int),.int false .i64
  (c:Int),vj 3]
noncomputable abbrev QIq(o:List QB):Nat×Blk:=
  (776,.rowz true 56 [.int .i64,.int .i64] (o.length+1) (QY o.length (fun i=>QA.enc (o.getD i ⟨0,0⟩)) (QR [[vi (c:Int),vj 2]] 0)))
theorem QSm(o:List QB)(c:Nat)(g:Nat→Value):exec (mkE Try.prog JA) (hnd (mkE Try.prog JA) 6) (qt (Qd Try.f43 0)) (JSt.inst (Va d s o c 2) g) (KS [] vp) = .need (true) (.need (bif s.down.kind==0 then
  true else true) (.br (!bif s.down.kind==0 then (d.ps.get c).up.kind==0 else isF s.down (d.ps.get c).up) (.leaf (.tup (QC8 c d o)) ((Jz c d o s))) (.need (true) (.need (bif
  s.left.kind==0 then true else true) (.br (!bif s.left.kind==0 then (d.ps.get c).right.kind==0 else isF s.left (d.ps.get c).right) (.leaf (.tup (QC8 c d o)) ((Jz c d o s)))
  (.need (true) (.need (bif s.up.kind==0 then true else true) (.br (!bif s.up.kind==0 then (d.ps.get c).down.kind==0 else isF s.up (d.ps.get c).down) (.leaf (.tup (QC8 c d o))
  ((Jz c d o s))) (.need (true) (.need (bif s.right.kind==0 then true else true) (.br (!bif s.right.kind==0 then (d.ps.get c).left.kind==0 else isF s.right (d.ps.get c).left)
  (.leaf (.tup (QC8 c d o)) ((Jz c d o s))) (.need (decide (o.length≤o.length)&&(true&&decide ((o.length+1+(o.length+1) / 4+192)*16≤281474976710656∧o.length+1
  ≤ 9223372036854775807))) (.leaf (.tup [.nilp,.ptr 49 0 0,.ptr 16 0 0,.slz 776 0 (o.length+1) cO,vi (c:Int),.ptr 32 0 0,.slz 0 0 d.ps.n cO,
  .int false .i64 (d.ps.n:Int),vi (c:Int),vj 3]) ([(YT s),(QIq c o),(ZR c d),(Ye d)])))))))))))))):=by kernel_rfl
noncomputable abbrev QAv(d:Puz)(o:List QB):List AV:=
  [.nilp,.ptr 49 0 0,.ptr 16 0 0,.slz 24 0 o.length cO,vi (c:Int),.ptr 32 0 0,.slz 0 0 d.ps.n cO,vi (d.ps.n:Int),.int false .i64
  (c:Int),vj 4]
noncomputable abbrev QOm(o:List QB):Nat×Blk:=
  (776,.rowz true 56 [.int .i64,.int .i64] (o.length+1) (QY o.length (fun i=>QA.enc (o.getD i ⟨0,0⟩)) (QR [[vi (c:Int),vj 3]] 0)))
theorem QVE(o:List QB)(c:Nat)(g:Nat→Value):exec (mkE Try.prog JA) (hnd (mkE Try.prog JA) 6) (qt (Qd Try.f43 0)) (JSt.inst (Va d s o c 3) g) (KS [] vp) = .need (true) (.need (bif s.right.kind==0
  then true else true) (.br (!bif s.right.kind==0 then (d.ps.get c).up.kind==0 else isF s.right (d.ps.get c).up) (.leaf (.tup (QAv c d o)) ((Jz c d o s))) (.need (true) (.need
  (bif s.down.kind==0 then true else true) (.br (!bif s.down.kind==0 then (d.ps.get c).right.kind==0 else isF s.down (d.ps.get c).right) (.leaf (.tup (QAv c d o)) ((Jz c d o
  s))) (.need (true) (.need (bif s.left.kind==0 then true else true) (.br (!bif s.left.kind==0 then (d.ps.get c).down.kind==0 else isF s.left (d.ps.get c).down) (.leaf (.tup
  (QAv c d o)) ((Jz c d o s))) (.need (true) (.need (bif s.up.kind==0 then true else true) (.br (!bif s.up.kind==0 then (d.ps.get c).left.kind==0 else isF s.up (d.ps.get
  c).left) (.leaf (.tup (QAv c d o)) ((Jz c d o s))) (.need (decide (o.length≤o.length)&&(true&&decide ((o.length+1+(o.length+1) / 4+192)*16≤281474976710656 ∧
  o.length+1≤9223372036854775807))) (.leaf (.tup [.nilp,.ptr 49 0 0,.ptr 16 0 0,.slz 776 0 (o.length+1) cO,vi (c:Int),.ptr 32 0 0,.slz 0 0 d.ps.n
  cO,vi (d.ps.n:Int),vi (c:Int),vj 4]) ([(YT s),(QOm c o),(ZR c d),(Ye d)])))))))))))))):=by kernel_rfl
theorem Qc7(o:List QB)(c:Nat)(g:Nat→Value):exec (mkE Try.prog JA) (hnd (mkE Try.prog JA) 6) (qt (Qd Try.f43 0)) (JSt.inst (Va d s o c 4) g) (KS [] vp) = .leaf (.tup [.ptr 2 0 0,.ptr 49 0 0,.ptr 16
  0 0,.slz 24 0 o.length cO,.slz 0 0 d.ps.n cO,vi (d.ps.n:Int),vi (c:Int)]) ([(YT s),(QF3 o),(Ye d)]):=by kernel_rfl
def G0(o:List QB)(c:Nat):JSt:=⟨49,[(3,.ptr 16 0 0),(4,.slz 24 0 o.length (.of 0)),(11,.slz 0 0 d.ps.n (.of 0)),(12,.int false .i64 d.ps.n),(13,.int false .i64 c)],[(16,.cells 7 33 (Enc.enc s).cells),Ke 56 24 o ⟨0,0⟩]++Q3.blk 0 d.ps,40⟩
abbrev GZ(o:List QB)(o':List QB):List Prop:=
  [0=0,0=0,0=0,o.length=o'.length]
abbrev qC(d:Puz):List Prop:=
  [cO=cO,(c:Int)=(c:Int),0=0,0=0,0=0,d.ps.n=d.ps.n,cO=cO,(d.ps.n:Int)=(d.ps.n:Int)]
abbrev Zz:List Prop:=
  [s.up.kind=s.up.kind,s.up.at_.lo=s.up.at_.lo,s.up.at_.hi=s.up.at_.hi,s.up.wide.lo=s.up.wide.lo]
abbrev Zc:List Prop:=
  [s.up.wide.hi=s.up.wide.hi,s.up.deep.lo=s.up.deep.lo,s.up.deep.hi=s.up.deep.hi,s.right.kind=s.right.kind,s.right.at_.lo=s.right.at_.lo,s.right.at_.hi =
  s.right.at_.hi,s.right.wide.lo=s.right.wide.lo,s.right.wide.hi=s.right.wide.hi,s.right.deep.lo=s.right.deep.lo,s.right.deep.hi=s.right.deep.hi,s.down.kind =
  s.down.kind,s.down.at_.lo=s.down.at_.lo,s.down.at_.hi=s.down.at_.hi,s.down.wide.lo=s.down.wide.lo,s.down.wide.hi=s.down.wide.hi,s.down.deep.lo=s.down.deep.lo,
  s.down.deep.hi=s.down.deep.hi,s.left.kind=s.left.kind,s.left.at_.lo=s.left.at_.lo,s.left.at_.hi=s.left.at_.hi,s.left.wide.lo=s.left.wide.lo,s.left.wide.hi =
  s.left.wide.hi,s.left.deep.lo=s.left.deep.lo,s.left.deep.hi=s.left.deep.hi]
abbrev qB(d:Puz):List Prop:=
  [(d.ps.get c).up.kind=(d.ps.get c).up.kind,(d.ps.get c).up.at_.lo=(d.ps.get c).up.at_.lo,(d.ps.get c).up.at_.hi=(d.ps.get c).up.at_.hi,(d.ps.get c).up.wide.lo=(d.ps.get
  c).up.wide.lo,(d.ps.get c).up.wide.hi=(d.ps.get c).up.wide.hi,(d.ps.get c).up.deep.lo=(d.ps.get c).up.deep.lo,(d.ps.get c).up.deep.hi=(d.ps.get c).up.deep.hi,(d.ps.get
  c).right.kind=(d.ps.get c).right.kind,(d.ps.get c).right.at_.lo=(d.ps.get c).right.at_.lo,(d.ps.get c).right.at_.hi=(d.ps.get c).right.at_.hi,(d.ps.get c).right.wide.lo =
  (d.ps.get c).right.wide.lo,(d.ps.get c).right.wide.hi=(d.ps.get c).right.wide.hi,(d.ps.get c).right.deep.lo=(d.ps.get c).right.deep.lo,(d.ps.get c).right.deep.hi=(d.ps.get
  c).right.deep.hi,(d.ps.get c).down.kind=(d.ps.get c).down.kind,(d.ps.get c).down.at_.lo=(d.ps.get c).down.at_.lo,(d.ps.get c).down.at_.hi=(d.ps.get c).down.at_.hi,
  (d.ps.get c).down.wide.lo=(d.ps.get c).down.wide.lo,(d.ps.get c).down.wide.hi=(d.ps.get c).down.wide.hi,(d.ps.get c).down.deep.lo=(d.ps.get c).down.deep.lo,(d.ps.get
  c).down.deep.hi=(d.ps.get c).down.deep.hi,(d.ps.get c).left.kind=(d.ps.get c).left.kind,(d.ps.get c).left.at_.lo=(d.ps.get c).left.at_.lo,(d.ps.get c).left.at_.hi =
  (d.ps.get c).left.at_.hi,(d.ps.get c).left.wide.lo=(d.ps.get c).left.wide.lo,(d.ps.get c).left.wide.hi=(d.ps.get c).left.wide.hi,(d.ps.get c).left.deep.lo=(d.ps.get
  c).left.deep.lo,(d.ps.get c).left.deep.hi=(d.ps.get c).left.deep.hi,d.ps.n≤d.ps.n,QC 28 d.ps.n (fun i=>QA.enc (d.ps.get i)) fun i=>QA.enc (d.ps.get i)]
theorem QRZ(o o':List QB)(c:Nat):QK 8 [.ptr 16 0 0,.slz 24 0 o.length cO,vi (c:Int),.ptr 32 0 0,.slz 0 0 d.ps.n cO,vi (d.ps.n:Int),vi (c:Int),
  .int true .i64 1] ((Jz c d o s)) (Va d s o' c 1)=(some ((GZ o o')++(qC c d)++[(c:Int)=(c:Int),(1:Int)=1]++(Zz s)++(Zc s)++[o'.length ≤
  o.length,QC 2 o'.length (fun i=>QA.enc (o.getD i ⟨0,0⟩)) fun i=>QA.enc (o'.getD i ⟨0,0⟩)]++(qB c d))):=by kernel_rfl
abbrev QBQ(o:List QB)(o':List QB):List Prop:=
  [0=0,0=0,0=0,o.length+1=o'.length]
theorem QZt(o o':List QB)(c:Nat):QK 8 [.ptr 16 0 0,.slz 776 0 (o.length+1) cO,vi (c:Int),.ptr 32 0 0,.slz 0 0 d.ps.n cO,vi (d.ps.n:Int),vi (c :
  Int),vj 1] ([(YT s),(QRM c o),(ZR c d),(Ye d)]) (Va d s o' c 1)=(some ((QBQ o o')++(qC c d)++[(c:Int)=(c:Int),(1:Int)=1]++(Zz s)
  ++ (Zc s)++[o'.length≤o.length+1,QC 2 o'.length (QY o.length (fun i=>QA.enc (o.getD i ⟨0,0⟩)) (QR [[vi (c:Int),vj 0]] 0)) fun i
  => QA.enc (o'.getD i ⟨0,0⟩)]++(qB c d))):=by kernel_rfl
theorem QXH(o o':List QB)(c:Nat):QK 8 [.ptr 16 0 0,.slz 24 0 o.length cO,vi (c:Int),.ptr 32 0 0,.slz 0 0 d.ps.n cO,vi (d.ps.n:Int),vi (c:Int),
  .int true .i64 2] ((Jz c d o s)) (Va d s o' c 2)=(some ((GZ o o')++(qC c d)++[(c:Int)=(c:Int),(2:Int)=2]++(Zz s)++(Zc s)++[o'.length ≤
  o.length,QC 2 o'.length (fun i=>QA.enc (o.getD i ⟨0,0⟩)) fun i=>QA.enc (o'.getD i ⟨0,0⟩)]++(qB c d))):=by kernel_rfl
theorem QUC(o o':List QB)(c:Nat):QK 8 [.ptr 16 0 0,.slz 776 0 (o.length+1) cO,vi (c:Int),.ptr 32 0 0,.slz 0 0 d.ps.n cO,vi (d.ps.n:Int),vi (c :
  Int),vj 2] ([(YT s),(QMX c o),(ZR c d),(Ye d)]) (Va d s o' c 2)=(some ((QBQ o o')++(qC c d)++[(c:Int)=(c:Int),(2:Int)=2]++(Zz
  s)++(Zc s)++[o'.length≤o.length+1,QC 2 o'.length (QY o.length (fun i=>QA.enc (o.getD i ⟨0,0⟩)) (QR [[vi (c:Int),vj 1]] 0)) fun
  i=>QA.enc (o'.getD i ⟨0,0⟩)]++(qB c d))):=by kernel_rfl
theorem QVG(o o':List QB)(c:Nat):QK 8 [.ptr 16 0 0,.slz 24 0 o.length cO,vi (c:Int),.ptr 32 0 0,.slz 0 0 d.ps.n cO,vi (d.ps.n:Int),vi (c:Int),
  .int true .i64 3] ((Jz c d o s)) (Va d s o' c 3)=(some ((GZ o o')++(qC c d)++[(c:Int)=(c:Int),(3:Int)=3]++(Zz s)++(Zc s)++[o'.length ≤
  o.length,QC 2 o'.length (fun i=>QA.enc (o.getD i ⟨0,0⟩)) fun i=>QA.enc (o'.getD i ⟨0,0⟩)]++(qB c d))):=by kernel_rfl
theorem QSn(o o':List QB)(c:Nat):QK 8 [.ptr 16 0 0,.slz 776 0 (o.length+1) cO,vi (c:Int),.ptr 32 0 0,.slz 0 0 d.ps.n cO,vi (d.ps.n:Int),vi (c :
  Int),vj 3] ([(YT s),(QIq c o),(ZR c d),(Ye d)]) (Va d s o' c 3)=(some ((QBQ o o')++(qC c d)++[(c:Int)=(c:Int),(3:Int)=3]++(Zz
  s)++(Zc s)++[o'.length≤o.length+1,QC 2 o'.length (QY o.length (fun i=>QA.enc (o.getD i ⟨0,0⟩)) (QR [[vi (c:Int),vj 2]] 0)) fun
  i=>QA.enc (o'.getD i ⟨0,0⟩)]++(qB c d))):=by kernel_rfl
theorem QaF(o o':List QB)(c:Nat):QK 8 [.ptr 16 0 0,.slz 24 0 o.length cO,vi (c:Int),.ptr 32 0 0,.slz 0 0 d.ps.n cO,vi (d.ps.n:Int),vi (c:Int),
  .int true .i64 4] ((Jz c d o s)) (Va d s o' c 4)=(some ((GZ o o')++(qC c d)++[(c:Int)=(c:Int),(4:Int)=4]++(Zz s)++(Zc s)++[o'.length ≤
  o.length,QC 2 o'.length (fun i=>QA.enc (o.getD i ⟨0,0⟩)) fun i=>QA.enc (o'.getD i ⟨0,0⟩)]++(qB c d))):=by kernel_rfl
theorem QSy(o o':List QB)(c:Nat):QK 8 [.ptr 16 0 0,.slz 776 0 (o.length+1) cO,vi (c:Int),.ptr 32 0 0,.slz 0 0 d.ps.n cO,vi (d.ps.n:Int),vi (c :
  Int),vj 4] ([(YT s),(QOm c o),(ZR c d),(Ye d)]) (Va d s o' c 4)=(some ((QBQ o o')++(qC c d)++[(c:Int)=(c:Int),(4:Int)=4]++(Zz
  s)++(Zc s)++[o'.length≤o.length+1,QC 2 o'.length (QY o.length (fun i=>QA.enc (o.getD i ⟨0,0⟩)) (QR [[vi (c:Int),vj 3]] 0)) fun
  i=>QA.enc (o'.getD i ⟨0,0⟩)]++(qB c d))):=by kernel_rfl
theorem QUT(o o':List QB)(c:Nat):QK 8 [.ptr 16 0 0,.slz 24 0 o.length cO,.slz 0 0 d.ps.n cO,vi (d.ps.n:Int),vi (c:Int)] ([(YT s),(QF3 o),(Ye d)]) (G0 d s
  o' c)=(some ((GZ o o')++[cO=cO,0=0,d.ps.n=d.ps.n,cO=cO,(d.ps.n:Int)=(d.ps.n:Int),(c:Int)=(c:Int)]++(Zz s)++(Zc s)
  ++ [o'.length≤o.length,QC 2 o'.length (fun i=>QA.enc (o.getD i ⟨0,0⟩)) fun i=>QA.enc (o'.getD i ⟨0,0⟩),d.ps.n≤d.ps.n,QC 28 d.ps.n (fun i=>QA.enc
  (d.ps.get i)) fun i=>QA.enc (d.ps.get i)])):=by kernel_rfl
end Go.Proofs.Ytbpffdkemeoajaa
namespace Go.SX
open Go Go.RowKit Go.Proofs.Ytbpffdkemeoajaa
variable {Q:AV→List (Nat×Blk)→Prop}
theorem QCM{q0 q1 q2 q3 m0 m1 m2 m3 n0 n1 n2 n3:Bool}{L0 L1 L2 L3 K:QD}(hm0:m0=true)(hm1:m1=true)(hm2:m2=true)(hm3:m3=true)(h0:n0=true)(h1:n1=true)(h2:n2=true)(h3:n3=true)(hno:(q0&&(q1&&(q2&&q3)))=false→L0.den Q∧L1.den Q∧L2.den Q∧L3.den Q)(hyes:(q0&&(q1&&(q2&&q3)))=true→K.den Q):
  (QD.need m0 (.need n0 (.br (!q0) L0 (.need m1 (.need n1 (.br (!q1) L1 (.need m2 (.need n2 (.br (!q2) L2 (.need m3 (.need n3 (.br (!q3) L3 K)))))))))))).den Q:=by
 subst hm0 hm1 hm2 hm3 h0 h1 h2 h3;refine QF rfl (QF rfl (QI (fun h => ?_) (fun h=>QF rfl (QF rfl (QI (fun h' => ?_) (fun h'=>QF rfl (QF rfl (QI (fun h'' => ?_) (fun h''=>QF rfl (QF rfl (QI (fun h''' => ?_) (fun h''' => ?_)))))))))))) 
 ·exact(hno (by cases q0<;>simp_all)).1
 ·exact(hno (by cases q0<;>cases q1<;>simp_all)).2.1
 ·exact(hno (by cases q0<;>cases q1<;>cases q2<;>simp_all)).2.2.1
 ·exact(hno (by cases q0<;>cases q1<;>cases q2<;>cases q3<;>simp_all)).2.2.2
 ·exact hyes (by cases q0<;>cases q1<;>cases q2<;>cases q3<;>simp_all)
theorem ja{t t':QD}(e:t=t')(h:t'.den Q):XE Q t:=⟨e ▸ h⟩
end Go.SX
namespace Go.Proofs.Ytbpffdkemeoajaa
open Go.SX
def isS(x y:Edge):Bool:=cond (x.kind==0) (y.kind==0) (isF x y)
variable (d:Puz)(s:QG)
def VG(c t:Nat):Bool:=isS (Ky s ((0+4-t) % 4)) (Ky (d.ps.get c) 0)&&(isS (Ky s ((1+4-t) % 4)) (Ky (d.ps.get c) 1)&&(isS (Ky s ((2+4-t) % 4)) (Ky (d.ps.get c) 2)&&isS (Ky s ((3+4-t) % 4)) (Ky (d.ps.get c) 3)))
def Xw(q:Bool)(l:List QB)(c t:Nat):List QB:=match q with
 | true=>l++[⟨c,t⟩]
 | false=>l
def KX(d:Puz)(s:QG)(l:List QB)(c:Nat):Nat→List QB
 | 0=>l
 | t+1=>Xw (VG d s c t) (KX d s l c t) c t
def KR(d:Puz)(s:QG):Nat→List QB
 | 0=>[]
 | c+1=>KX d s (KR d s c) c 4
theorem QSH(q:Bool)(l:List QB)(c t:Nat):(Xw q l c t).length≤l.length+1:=by
 cases q<;>simp[Xw]
theorem QDs(d:Puz)(s:QG)(l:List QB)(c:Nat):∀ t,(KX d s l c t).length≤l.length+t
 | 0=>qlr _
 | t+1=>by
  have:=QDs d s l c t;have:=QSH (VG d s c t) (KX d s l c t) c t;simp only[KX];omega
theorem Gt(d:Puz)(s:QG):∀ c,(KR d s c).length≤4*c
 | 0=>qlr _
 | c+1=>by
  have:=Gt d s c;have:=QDs d s (KR d s c) c 4;simp only[KR];omega
theorem QBT(o:List QB)(c t:Nat):QC 2 (o++[(⟨c,t⟩:QB)]).length (QY o.length (fun i=>QA.enc (o.getD i ⟨0,0⟩)) (QR [[AV.int false i64 c,AV.int true i64 t]] 0)) (fun i=>QA.enc ((o++[(⟨c,t⟩:QB)]).getD i ⟨0,0⟩)):=by
 intro i hi;rw[List.length_append,List.length_singleton]at hi
 have key:∀ j,QY o.length (fun i=>QA.enc (o.getD i ⟨0,0⟩)) (QR [[AV.int false i64 c,AV.int true i64 t]] 0) i j=if i<o.length then QA.enc (o.getD i ⟨0,0⟩) j else ZQ [AV.int false i64 c,AV.int true i64 t] j:=by
  intro j;rw[VX];split
  ·rfl
  ·rename_i h;have:i=o.length:=by omega
   subst this;simp[QR]
 have e:i<o.length→(o++[(⟨c,t⟩:QB)]).getD i ⟨0,0⟩=o.getD i ⟨0,0⟩:=fun h=>by rw[List.getD_eq_getElem?_getD,List.getD_eq_getElem?_getD,List.getElem?_append_left h]
 have e2:¬ i<o.length→(o++[(⟨c,t⟩:QB)]).getD i ⟨0,0⟩=⟨c,t⟩:=fun h=>by
  have:i=o.length:=by omega
  subst this;simp
 refine⟨?_,?_,trivial⟩
 ·show QY _ _ _ i 0=QA.enc ((o++[(⟨c,t⟩:QB)]).getD i ⟨0,0⟩) 0;rw[key 0];split
  ·rename_i h;rw[e h]
  ·rename_i h;rw[e2 h];rfl
 ·show QY _ _ _ i 1=QA.enc ((o++[(⟨c,t⟩:QB)]).getD i ⟨0,0⟩) 1;rw[key 1];split
  ·rename_i h;rw[e h]
  ·rename_i h;rw[e2 h];rfl
theorem QTl(o:List QB)(c:Nat)(ho:o.length≤4000):Ji (fun t=>Va d s (KX d s o c t) c t) (fun t=>t≤4) (fun t=>4-t) (fun _ e J=>e = .exit 2∧J=G0 d s (KX d s o c 4) c) 8 vp [] (mkE Try.prog JA) (fun _=>hnd (mkE Try.prog JA) 6) (qt (Qd Try.f43 0)):=by
 refine⟨fun t g ht => ?_⟩;have nd:∀ b:Bool,(cond b true true)=true:=fun b=>by cases b<;>rfl
 have hlen:=QDs d s o c t;rcases(by have:=ht;omega:t=0∨t=1∨t=2∨t=3∨t=4)with rfl|rfl|rfl|rfl|rfl
 ·refine ja (QYz d s _ c g) (QCM rfl rfl rfl rfl (nd _) (nd _) (nd _) (nd _) (fun hq => ?_) (fun hq => ?_))
  ·have hq:VG d s c 0=false:=hq;have e:KX d s o c 1=KX d s o c 0:=by simp only[KX,hq,Xw]
   refine⟨?_,?_,?_,?_⟩<;>(
    refine⟨1,by decide,by decide,fun _ _ h=>h,rfl,rfl,_,QRZ _ _ _ _ _,?_⟩
    rw[e]
    repeat' first|exact trivial|with_reducible rfl|exact qlr _|exact qRr|refine And.intro ?_ ?_)
  ·have hq:VG d s c 0=true:=hq;have e:KX d s o c 1=KX d s o c 0++[⟨(c:Nat),(0:Nat)⟩]:=by simp only[KX,hq,Xw]
   refine QF (by simp;omega) ⟨1,by decide,by decide,fun _ _ h=>h,rfl,rfl,_,QZt _ _ _ _ _,?_⟩
   rw[e]
   repeat' first|exact trivial|with_reducible rfl|exact qlr _|exact qRr|refine And.intro ?_ ?_
   ·simp
   ·simp
   ·exact QBT _ c 0
 ·refine ja (QZR d s _ c g) (QCM rfl rfl rfl rfl (nd _) (nd _) (nd _) (nd _) (fun hq => ?_) (fun hq => ?_))
  ·have hq:VG d s c 1=false:=hq;have e:KX d s o c 2=KX d s o c 1:=by simp only[KX,hq,Xw]
   refine⟨?_,?_,?_,?_⟩<;>(
    refine⟨2,by decide,by decide,fun _ _ h=>h,rfl,rfl,_,QXH _ _ _ _ _,?_⟩
    rw[e]
    repeat' first|exact trivial|with_reducible rfl|exact qlr _|exact qRr|refine And.intro ?_ ?_)
  ·have hq:VG d s c 1=true:=hq;have e:KX d s o c 2=KX d s o c 1++[⟨(c:Nat),(1:Nat)⟩]:=by simp only[KX,hq,Xw]
   refine QF (by simp;omega) ⟨2,by decide,by decide,fun _ _ h=>h,rfl,rfl,_,QUC _ _ _ _ _,?_⟩
   rw[e]
   repeat' first|exact trivial|with_reducible rfl|exact qlr _|exact qRr|refine And.intro ?_ ?_
   ·simp
   ·simp
   ·exact QBT _ c 1
 ·refine ja (QSm d s _ c g) (QCM rfl rfl rfl rfl (nd _) (nd _) (nd _) (nd _) (fun hq => ?_) (fun hq => ?_))
  ·have hq:VG d s c 2=false:=hq;have e:KX d s o c 3=KX d s o c 2:=by simp only[KX,hq,Xw]
   refine⟨?_,?_,?_,?_⟩<;>(
    refine⟨3,by decide,by decide,fun _ _ h=>h,rfl,rfl,_,QVG _ _ _ _ _,?_⟩
    rw[e]
    repeat' first|exact trivial|with_reducible rfl|exact qlr _|exact qRr|refine And.intro ?_ ?_)
  ·have hq:VG d s c 2=true:=hq;have e:KX d s o c 3=KX d s o c 2++[⟨(c:Nat),(2:Nat)⟩]:=by simp only[KX,hq,Xw]
   refine QF (by simp;omega) ⟨3,by decide,by decide,fun _ _ h=>h,rfl,rfl,_,QSn _ _ _ _ _,?_⟩
   rw[e]
   repeat' first|exact trivial|with_reducible rfl|exact qlr _|exact qRr|refine And.intro ?_ ?_
   ·simp
   ·simp
   ·exact QBT _ c 2
 ·refine ja (QVE d s _ c g) (QCM rfl rfl rfl rfl (nd _) (nd _) (nd _) (nd _) (fun hq => ?_) (fun hq => ?_))
  ·have hq:VG d s c 3=false:=hq;have e:KX d s o c 4=KX d s o c 3:=by simp only[KX,hq,Xw]
   refine⟨?_,?_,?_,?_⟩<;>(
    refine⟨4,by decide,by decide,fun _ _ h=>h,rfl,rfl,_,QaF _ _ _ _ _,?_⟩
    rw[e]
    repeat' first|exact trivial|with_reducible rfl|exact qlr _|exact qRr|refine And.intro ?_ ?_)
  ·have hq:VG d s c 3=true:=hq;have e:KX d s o c 4=KX d s o c 3++[⟨(c:Nat),(3:Nat)⟩]:=by simp only[KX,hq,Xw]
   refine QF (by simp;omega) ⟨4,by decide,by decide,fun _ _ h=>h,rfl,rfl,_,QSy _ _ _ _ _,?_⟩
   rw[e]
   repeat' first|exact trivial|with_reducible rfl|exact qlr _|exact qRr|refine And.intro ?_ ?_
   ·simp
   ·simp
   ·exact QBT _ c 3
 ·refine ja (Qc7 d s _ c g) ?_;refine⟨_,⟨rfl,rfl⟩,rfl,rfl,_,QUT _ _ _ _ _,?_⟩
  repeat' first|exact trivial|with_reducible rfl|exact qlr _|exact qRr|refine And.intro ?_ ?_
end Go.Proofs.Ytbpffdkemeoajaa
