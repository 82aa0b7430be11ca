/- Check: is a drawing right? (layer 7) -/
import Derived.Test.YtbpffdkemeoajaaMmr
set_option maxRecDepth 100000
namespace Go.Proofs.Ytbpffdkemeoajaa
open Go.SX
def QES (d:Puz):List AV:=[.int false .i64 d.play.length,.int false .i64 d.play.slack,.int false .i64 d.play.loose,.int false .i64 d.play.damp.lo,.int false .i64 d.play.damp.hi,.int false .i64 d.wide,.int false .i64 d.high,.bool false d.turn,.slz 0 0 d.ps.n (.of 0)]
def Hl (d:Puz) (c:Nat):JSt:=⟨62,[(1,.ptr 8 0 0),(16,.slz 0 0 d.ps.n (.of 0)),(17,.int false .i64 d.ps.n),(18,.int false .i64 c)],[(8,.cells 0 28 (QES d))]++Qy.blk 0 d.ps,96⟩
def QIq:Ex→List Nat
 | .normal=>[1,16,17,18]
 | .exit _=>[]
 | .ret=>[2,3,4]
abbrev QHd (c:Nat):List AV:=
  [.nili,.ptr 62 0 0,.int false .i64 (↑c:Int),.int true .i64 (0:Int),.int true .i64 (0:Int)]
abbrev Gq (c:Nat):List AV:=
  [.nili,.ptr 62 0 0,.int false .i64 (↑c:Int),.int true .i64 (1:Int),.int true .i64 (0:Int)]
abbrev Yx (c:Nat):List AV:=
  [.nili,.ptr 62 0 0,.int false .i64 (↑c:Int),.int true .i64 (2:Int),.int true .i64 (0:Int)]
abbrev Js (c:Nat):List AV:=
  [.nili,.ptr 62 0 0,.int false .i64 (↑c:Int),.int true .i64 (3:Int),.int true .i64 (0:Int)]
abbrev Jw (c:Nat) (d:Puz):List AV:=
  [.nilp,.ptr 62 0 0,.ptr 8 0 0,.slz 0 0 d.ps.n (Cap.of 0),.int false .i64 (↑d.ps.n:Int),.int false .i64 (IntKind.i64.wrap ((↑c:Int) + (1:Int)))]
abbrev JY (d:Puz):List (Nat×Blk):=
  [(8,.cells 0 28 [.int false .i64 d.play.length,.int false .i64 d.play.slack,.int false .i64 d.play.loose,.int false .i64 d.play.damp.lo,.int false .i64 d.play.damp.hi,.int
  false .i64 d.wide,.int false .i64 d.high,.bool false d.turn,.slz 0 0 d.ps.n (Cap.of 0)]),(0,.frz [.int .i64,.int .i64,.int .i64,.int .i64,.int .i64,.int .i64,.int .i64,
  .int .i64,.int .i64,.int .i64,.int .i64,.int .i64,.int .i64,.int .i64,.int .i64,.int .i64,.int .i64,.int .i64,.int .i64,.int .i64,.int .i64,.int .i64,.int .i64,.int
  .i64,.int .i64,.int .i64,.int .i64,.int .i64] d.ps.n fun i=>QB.enc (d.ps.get i))]
theorem QO5 (d:Puz) (c:Nat) (g:Nat→Value) :exec (mkE Try.prog XI) (hnd (mkE Try.prog XI) 6) (Qf Try.f13 0) (JSt.inst (Hl d c) g) (KT [] QIq) = .br (decide ((↑c:Int) < (↑d.ps.n:Int))) (.need
  (decide ((0:Int)≤(↑c:Int)∧(↑c:Int) < (↑d.ps.n:Int))&&decide (d.ps.n≤d.ps.n)) (.need (decide (c < d.ps.n)) (.need (decide (d.ps.n≤d.ps.n)&&(true&&(true &&
  true))&&decide (((1:Int)≤d.wide∧d.wide≤(100:Int))∧((1:Int)≤d.high∧d.high≤(100:Int))∧(0:Int)≤(↑c:Int)∧(↑c:Int)≤(100:Int))) (.br (QR d.wide
  d.high (↑c:Int) (0:Int) == (-1:Int)) (.br ((d.ps.get c).up.kind != (0:Int)) (.leaf (.tup (QHd c)) ([])) (.need (decide (d.ps.n≤d.ps.n)&&(true&&(true&&true)) &&
  decide (((1:Int)≤d.wide∧d.wide≤(100:Int))∧((1:Int)≤d.high∧d.high≤(100:Int))∧(0:Int)≤(↑c:Int)∧(↑c:Int)≤(100:Int))) (.br (QR d.wide d.high (↑c
  : Int) (1:Int) == (-1:Int)) (.br ((d.ps.get c).right.kind != (0:Int)) (.leaf (.tup (Gq c)) ([])) (.need (decide (d.ps.n≤d.ps.n)&&(true&&(true&&true))&&decide (((1
  : Int)≤d.wide∧d.wide≤(100:Int))∧((1:Int)≤d.high∧d.high≤(100:Int))∧(0:Int)≤(↑c:Int)∧(↑c:Int)≤(100:Int))) (.br (QR d.wide d.high (↑c:Int) (2 :
  Int) == (-1:Int)) (.br ((d.ps.get c).down.kind != (0:Int)) (.leaf (.tup (Yx c)) ([])) (.need (decide (d.ps.n≤d.ps.n)&&(true&&(true&&true))&&decide (((1:Int) ≤
  d.wide∧d.wide≤(100:Int))∧((1:Int)≤d.high∧d.high≤(100:Int))∧(0:Int)≤(↑c:Int)∧(↑c:Int)≤(100:Int))) (.br (QR d.wide d.high (↑c:Int) (3:Int) ==
  (-1:Int)) (.br ((d.ps.get c).left.kind != (0:Int)) (.leaf (.tup (Js c)) ([])) (.leaf (.tup (Jw c d)) ((JY d)))) (.need (decide ((0:Int)≤QR d.wide d.high (↑c:Int)
  (3:Int)∧QR d.wide d.high (↑c:Int) (3:Int) < (↑d.ps.n:Int))&&decide (d.ps.n≤d.ps.n)) (.need (decide ((QR d.wide d.high (↑c:Int) (3:Int)).toNat < d.ps.n)) (.need
  (true) (.br ((Q5 d.play (d.ps.get c).left (d.ps.get (QR d.wide d.high (↑c:Int) (3:Int)).toNat).right).1 != (2:Int)) (.leaf (.tup (Js c)) ([])) (.leaf (.tup (Jw c d))
  ((JY d)))))))))) (.need (decide ((0:Int)≤QR d.wide d.high (↑c:Int) (2:Int)∧QR d.wide d.high (↑c:Int) (2:Int) < (↑d.ps.n:Int))&&decide (d.ps.n≤d.ps.n))
  (.need (decide ((QR d.wide d.high (↑c:Int) (2:Int)).toNat < d.ps.n)) (.need (true) (.br ((Q5 d.play (d.ps.get c).down (d.ps.get (QR d.wide d.high (↑c:Int) (2 :
  Int)).toNat).up).1 != (2:Int)) (.leaf (.tup (Yx c)) ([])) (.need (decide (d.ps.n≤d.ps.n)&&(true&&(true&&true))&&decide (((1:Int)≤d.wide∧d.wide≤(100:Int)) ∧
  ((1:Int)≤d.high∧d.high≤(100:Int))∧(0:Int)≤(↑c:Int)∧(↑c:Int)≤(100:Int))) (.br (QR d.wide d.high (↑c:Int) (3:Int) == (-1:Int)) (.br ((d.ps.get
  c).left.kind != (0:Int)) (.leaf (.tup (Js c)) ([])) (.leaf (.tup (Jw c d)) ((JY d)))) (.need (decide ((0:Int)≤QR d.wide d.high (↑c:Int) (3:Int)∧QR d.wide
  d.high (↑c:Int) (3:Int) < (↑d.ps.n:Int))&&decide (d.ps.n≤d.ps.n)) (.need (decide ((QR d.wide d.high (↑c:Int) (3:Int)).toNat < d.ps.n)) (.need (true) (.br ((Q5
  d.play (d.ps.get c).left (d.ps.get (QR d.wide d.high (↑c:Int) (3:Int)).toNat).right).1 != (2:Int)) (.leaf (.tup (Js c)) ([])) (.leaf (.tup (Jw c d)) ((JY
  d)))))))))))))))) (.need (decide ((0:Int)≤QR d.wide d.high (↑c:Int) (1:Int)∧QR d.wide d.high (↑c:Int) (1:Int) < (↑d.ps.n:Int))&&decide (d.ps.n≤d.ps.n))
  (.need (decide ((QR d.wide d.high (↑c:Int) (1:Int)).toNat < d.ps.n)) (.need (true) (.br ((Q5 d.play (d.ps.get c).right (d.ps.get (QR d.wide d.high (↑c:Int) (1 :
  Int)).toNat).left).1 != (2:Int)) (.leaf (.tup (Gq c)) ([])) (.need (decide (d.ps.n≤d.ps.n)&&(true&&(true&&true))&&decide (((1:Int)≤d.wide∧d.wide≤(100:Int)) ∧
  ((1:Int)≤d.high∧d.high≤(100:Int))∧(0:Int)≤(↑c:Int)∧(↑c:Int)≤(100:Int))) (.br (QR d.wide d.high (↑c:Int) (2:Int) == (-1:Int)) (.br ((d.ps.get
  c).down.kind != (0:Int)) (.leaf (.tup (Yx c)) ([])) (.need (decide (d.ps.n≤d.ps.n)&&(true&&(true&&true))&&decide (((1:Int)≤d.wide∧d.wide≤(100:Int))∧((1 :
  Int)≤d.high∧d.high≤(100:Int))∧(0:Int)≤(↑c:Int)∧(↑c:Int)≤(100:Int))) (.br (QR d.wide d.high (↑c:Int) (3:Int) == (-1:Int)) (.br ((d.ps.get c).left.kind
  != (0:Int)) (.leaf (.tup (Js c)) ([])) (.leaf (.tup (Jw c d)) ((JY d)))) (.need (decide ((0:Int)≤QR d.wide d.high (↑c:Int) (3:Int)∧QR d.wide d.high (↑c:Int)
  (3:Int) < (↑d.ps.n:Int))&&decide (d.ps.n≤d.ps.n)) (.need (decide ((QR d.wide d.high (↑c:Int) (3:Int)).toNat < d.ps.n)) (.need (true) (.br ((Q5 d.play (d.ps.get
  c).left (d.ps.get (QR d.wide d.high (↑c:Int) (3:Int)).toNat).right).1 != (2:Int)) (.leaf (.tup (Js c)) ([])) (.leaf (.tup (Jw c d)) ((JY d)))))))))) (.need (decide ((0
  : Int)≤QR d.wide d.high (↑c:Int) (2:Int)∧QR d.wide d.high (↑c:Int) (2:Int) < (↑d.ps.n:Int))&&decide (d.ps.n≤d.ps.n)) (.need (decide ((QR d.wide d.high (↑c :
  Int) (2:Int)).toNat < d.ps.n)) (.need (true) (.br ((Q5 d.play (d.ps.get c).down (d.ps.get (QR d.wide d.high (↑c:Int) (2:Int)).toNat).up).1 != (2:Int)) (.leaf (.tup (Yx
  c)) ([])) (.need (decide (d.ps.n≤d.ps.n)&&(true&&(true&&true))&&decide (((1:Int)≤d.wide∧d.wide≤(100:Int))∧((1:Int)≤d.high∧d.high≤(100:Int))∧(0 :
  Int)≤(↑c:Int)∧(↑c:Int)≤(100:Int))) (.br (QR d.wide d.high (↑c:Int) (3:Int) == (-1:Int)) (.br ((d.ps.get c).left.kind != (0:Int)) (.leaf (.tup (Js c)) ([]))
  (.leaf (.tup (Jw c d)) ((JY d)))) (.need (decide ((0:Int)≤QR d.wide d.high (↑c:Int) (3:Int)∧QR d.wide d.high (↑c:Int) (3:Int) < (↑d.ps.n:Int))&&decide
  (d.ps.n≤d.ps.n)) (.need (decide ((QR d.wide d.high (↑c:Int) (3:Int)).toNat < d.ps.n)) (.need (true) (.br ((Q5 d.play (d.ps.get c).left (d.ps.get (QR d.wide d.high (↑c :
  Int) (3:Int)).toNat).right).1 != (2:Int)) (.leaf (.tup (Js c)) ([])) (.leaf (.tup (Jw c d)) ((JY d)))))))))))))))))))))) (.need (decide ((0:Int)≤QR d.wide d.high (↑c
  : Int) (0:Int)∧QR d.wide d.high (↑c:Int) (0:Int) < (↑d.ps.n:Int))&&decide (d.ps.n≤d.ps.n)) (.need (decide ((QR d.wide d.high (↑c:Int) (0:Int)).toNat < d.ps.n))
  (.need (true) (.br ((Q5 d.play (d.ps.get c).up (d.ps.get (QR d.wide d.high (↑c:Int) (0:Int)).toNat).down).1 != (2:Int)) (.leaf (.tup (QHd c)) ([])) (.need (decide (d.ps.n
  ≤ d.ps.n)&&(true&&(true&&true))&&decide (((1:Int)≤d.wide∧d.wide≤(100:Int))∧((1:Int)≤d.high∧d.high≤(100:Int))∧(0:Int)≤(↑c:Int)∧(↑c:Int) ≤
  (100:Int))) (.br (QR d.wide d.high (↑c:Int) (1:Int) == (-1:Int)) (.br ((d.ps.get c).right.kind != (0:Int)) (.leaf (.tup (Gq c)) ([])) (.need (decide (d.ps.n≤d.ps.n)
  && (true&&(true&&true))&&decide (((1:Int)≤d.wide∧d.wide≤(100:Int))∧((1:Int)≤d.high∧d.high≤(100:Int))∧(0:Int)≤(↑c:Int)∧(↑c:Int)≤(100 :
  Int))) (.br (QR d.wide d.high (↑c:Int) (2:Int) == (-1:Int)) (.br ((d.ps.get c).down.kind != (0:Int)) (.leaf (.tup (Yx c)) ([])) (.need (decide (d.ps.n≤d.ps.n)&&(true
  && (true&&true))&&decide (((1:Int)≤d.wide∧d.wide≤(100:Int))∧((1:Int)≤d.high∧d.high≤(100:Int))∧(0:Int)≤(↑c:Int)∧(↑c:Int)≤(100:Int))) (.br
  (QR d.wide d.high (↑c:Int) (3:Int) == (-1:Int)) (.br ((d.ps.get c).left.kind != (0:Int)) (.leaf (.tup (Js c)) ([])) (.leaf (.tup (Jw c d)) ((JY d)))) (.need (decide
  ((0:Int)≤QR d.wide d.high (↑c:Int) (3:Int)∧QR d.wide d.high (↑c:Int) (3:Int) < (↑d.ps.n:Int))&&decide (d.ps.n≤d.ps.n)) (.need (decide ((QR d.wide d.high
  (↑c:Int) (3:Int)).toNat < d.ps.n)) (.need (true) (.br ((Q5 d.play (d.ps.get c).left (d.ps.get (QR d.wide d.high (↑c:Int) (3:Int)).toNat).right).1 != (2:Int)) (.leaf
  (.tup (Js c)) ([])) (.leaf (.tup (Jw c d)) ((JY d)))))))))) (.need (decide ((0:Int)≤QR d.wide d.high (↑c:Int) (2:Int)∧QR d.wide d.high (↑c:Int) (2:Int) <
  (↑d.ps.n:Int))&&decide (d.ps.n≤d.ps.n)) (.need (decide ((QR d.wide d.high (↑c:Int) (2:Int)).toNat < d.ps.n)) (.need (true) (.br ((Q5 d.play (d.ps.get c).down (d.ps.get
  (QR d.wide d.high (↑c:Int) (2:Int)).toNat).up).1 != (2:Int)) (.leaf (.tup (Yx c)) ([])) (.need (decide (d.ps.n≤d.ps.n)&&(true&&(true&&true))&&decide (((1:Int)
  ≤ d.wide∧d.wide≤(100:Int))∧((1:Int)≤d.high∧d.high≤(100:Int))∧(0:Int)≤(↑c:Int)∧(↑c:Int)≤(100:Int))) (.br (QR d.wide d.high (↑c:Int) (3:Int) ==
  (-1:Int)) (.br ((d.ps.get c).left.kind != (0:Int)) (.leaf (.tup (Js c)) ([])) (.leaf (.tup (Jw c d)) ((JY d)))) (.need (decide ((0:Int)≤QR d.wide d.high (↑c:Int)
  (3:Int)∧QR d.wide d.high (↑c:Int) (3:Int) < (↑d.ps.n:Int))&&decide (d.ps.n≤d.ps.n)) (.need (decide ((QR d.wide d.high (↑c:Int) (3:Int)).toNat < d.ps.n)) (.need
  (true) (.br ((Q5 d.play (d.ps.get c).left (d.ps.get (QR d.wide d.high (↑c:Int) (3:Int)).toNat).right).1 != (2:Int)) (.leaf (.tup (Js c)) ([])) (.leaf (.tup (Jw c d))
  ((JY d)))))))))))))))) (.need (decide ((0:Int)≤QR d.wide d.high (↑c:Int) (1:Int)∧QR d.wide d.high (↑c:Int) (1:Int) < (↑d.ps.n:Int))&&decide (d.ps.n ≤
  d.ps.n)) (.need (decide ((QR d.wide d.high (↑c:Int) (1:Int)).toNat < d.ps.n)) (.need (true) (.br ((Q5 d.play (d.ps.get c).right (d.ps.get (QR d.wide d.high (↑c:Int) (1 :
  Int)).toNat).left).1 != (2:Int)) (.leaf (.tup (Gq c)) ([])) (.need (decide (d.ps.n≤d.ps.n)&&(true&&(true&&true))&&decide (((1:Int)≤d.wide∧d.wide≤(100:Int)) ∧
  ((1:Int)≤d.high∧d.high≤(100:Int))∧(0:Int)≤(↑c:Int)∧(↑c:Int)≤(100:Int))) (.br (QR d.wide d.high (↑c:Int) (2:Int) == (-1:Int)) (.br ((d.ps.get
  c).down.kind != (0:Int)) (.leaf (.tup (Yx c)) ([])) (.need (decide (d.ps.n≤d.ps.n)&&(true&&(true&&true))&&decide (((1:Int)≤d.wide∧d.wide≤(100:Int))∧((1 :
  Int)≤d.high∧d.high≤(100:Int))∧(0:Int)≤(↑c:Int)∧(↑c:Int)≤(100:Int))) (.br (QR d.wide d.high (↑c:Int) (3:Int) == (-1:Int)) (.br ((d.ps.get c).left.kind
  != (0:Int)) (.leaf (.tup (Js c)) ([])) (.leaf (.tup (Jw c d)) ((JY d)))) (.need (decide ((0:Int)≤QR d.wide d.high (↑c:Int) (3:Int)∧QR d.wide d.high (↑c:Int)
  (3:Int) < (↑d.ps.n:Int))&&decide (d.ps.n≤d.ps.n)) (.need (decide ((QR d.wide d.high (↑c:Int) (3:Int)).toNat < d.ps.n)) (.need (true) (.br ((Q5 d.play (d.ps.get
  c).left (d.ps.get (QR d.wide d.high (↑c:Int) (3:Int)).toNat).right).1 != (2:Int)) (.leaf (.tup (Js c)) ([])) (.leaf (.tup (Jw c d)) ((JY d)))))))))) (.need (decide ((0
  : Int)≤QR d.wide d.high (↑c:Int) (2:Int)∧QR d.wide d.high (↑c:Int) (2:Int) < (↑d.ps.n:Int))&&decide (d.ps.n≤d.ps.n)) (.need (decide ((QR d.wide d.high (↑c :
  Int) (2:Int)).toNat < d.ps.n)) (.need (true) (.br ((Q5 d.play (d.ps.get c).down (d.ps.get (QR d.wide d.high (↑c:Int) (2:Int)).toNat).up).1 != (2:Int)) (.leaf (.tup (Yx
  c)) ([])) (.need (decide (d.ps.n≤d.ps.n)&&(true&&(true&&true))&&decide (((1:Int)≤d.wide∧d.wide≤(100:Int))∧((1:Int)≤d.high∧d.high≤(100:Int))∧(0 :
  Int)≤(↑c:Int)∧(↑c:Int)≤(100:Int))) (.br (QR d.wide d.high (↑c:Int) (3:Int) == (-1:Int)) (.br ((d.ps.get c).left.kind != (0:Int)) (.leaf (.tup (Js c)) ([]))
  (.leaf (.tup (Jw c d)) ((JY d)))) (.need (decide ((0:Int)≤QR d.wide d.high (↑c:Int) (3:Int)∧QR d.wide d.high (↑c:Int) (3:Int) < (↑d.ps.n:Int))&&decide
  (d.ps.n≤d.ps.n)) (.need (decide ((QR d.wide d.high (↑c:Int) (3:Int)).toNat < d.ps.n)) (.need (true) (.br ((Q5 d.play (d.ps.get c).left (d.ps.get (QR d.wide d.high (↑c :
  Int) (3:Int)).toNat).right).1 != (2:Int)) (.leaf (.tup (Js c)) ([])) (.leaf (.tup (Jw c d)) ((JY d))))))))))))))))))))))))))))) (.leaf (.tup [.ptr 0 0 0,.ptr 62 0 0])
  ([])):=by kernel_rfl
def WT (c s:Nat):JSt:=⟨62,[(2,.int false .i64 c),(3,.int false .i64 s),(4,.int false .i64 0)],[],96⟩
def QAu:JSt:=⟨62,[],[],96⟩
theorem QP7 (c c' s':Nat):QO 8 [AV.int false IntKind.i64 (↑c:Int),AV.int true IntKind.i64 (0:Int),AV.int true IntKind.i64 (0:Int)] ([]) (WT c' s')=(
  some [(↑c:Int)=(↑c':Int),(0:Int)=(↑s':Int),(0:Int)=(0:Int)]):=by kernel_rfl
theorem QLF (c c' s':Nat):QO 8 [AV.int false IntKind.i64 (↑c:Int),AV.int true IntKind.i64 (1:Int),AV.int true IntKind.i64 (0:Int)] ([]) (WT c' s')=(
  some [(↑c:Int)=(↑c':Int),(1:Int)=(↑s':Int),(0:Int)=(0:Int)]):=by kernel_rfl
theorem QLJ (c c' s':Nat):QO 8 [AV.int false IntKind.i64 (↑c:Int),AV.int true IntKind.i64 (2:Int),AV.int true IntKind.i64 (0:Int)] ([]) (WT c' s')=(
  some [(↑c:Int)=(↑c':Int),(2:Int)=(↑s':Int),(0:Int)=(0:Int)]):=by kernel_rfl
theorem QRB (c c' s':Nat):QO 8 [AV.int false IntKind.i64 (↑c:Int),AV.int true IntKind.i64 (3:Int),AV.int true IntKind.i64 (0:Int)] ([]) (WT c' s')=(
  some [(↑c:Int)=(↑c':Int),(3:Int)=(↑s':Int),(0:Int)=(0:Int)]):=by kernel_rfl
theorem QSK (d:Puz) (c c':Nat) :QO 8 [.ptr 8 0 0,.slz 0 0 d.ps.n (Cap.of 0),.int false .i64 (↑d.ps.n:Int),.int false .i64 (IntKind.i64.wrap ((↑c:Int) + (1:Int)))] ((JY d)) (Hl d c')=( some [0=0,
  0=0,0=0,d.ps.n=d.ps.n,Cap.of 0=Cap.of 0,(↑d.ps.n:Int)=(↑d.ps.n:Int),IntKind.i64.wrap ((↑c:Int) + (1:Int))=(↑c':Int),d.play.length=d.play.length,
  d.play.slack=d.play.slack,d.play.loose=d.play.loose,d.play.damp.lo=d.play.damp.lo,d.play.damp.hi=d.play.damp.hi,d.wide=d.wide,d.high=d.high,d.turn=d.turn,0=0,
  d.ps.n=d.ps.n,Cap.of 0=Cap.of 0,d.ps.n≤d.ps.n,QD 28 d.ps.n (fun i=>QB.enc (d.ps.get i)) fun i=>QB.enc (d.ps.get i)]):=by kernel_rfl
theorem QTX :QO 8 [] ([]) QAu=(
  some []):=by kernel_rfl
end Go.Proofs.Ytbpffdkemeoajaa
namespace Go.SX
open Go Go.RowKit Go.Proofs.Ytbpffdkemeoajaa
theorem QAC {Q:AV→List (Nat×Blk)→Prop} {A b1 b2 b3 n1 n2 x:Bool} {L K:QC} (hA:A=true) (hn:b1=false→n1=true∧n2=true) (hx:x=cond b1 b2 b3) (hr:x=true→L.den Q) (hk:x=false→K.den Q) :
  (QC.need A (.br b1 (.br b2 L K) (.need n1 (.need n2 (.need true (.br b3 L K)))))).den Q:=by
 refine QF hA (QL (fun h1 => ?_) (fun h1 => ?_))
 ·rw [h1] at hx
  exact QL (fun h=>hr (by rw [hx,h];rfl)) (fun h=>hk (by rw [hx,h];rfl))
 ·rw [h1] at hx
  exact QF (hn h1).1 (QF (hn h1).2 (QF rfl (QL (fun h=>hr (by rw [hx,h];rfl)) (fun h=>hk (by rw [hx,h];rfl)))))
end Go.SX
namespace Go.Proofs.Ytbpffdkemeoajaa
open Go.SX
def XE (x:QP):Nat→Edge
 | 0=>x.up
 | 1=>x.right
 | 2=>x.down
 | _=>x.left
def Xm (d:Puz) (c s:Nat):Bool:=cond (QR d.wide d.high c s == -1) ((XE (d.ps.get c) s).kind != 0) ((Q5 d.play (XE (d.ps.get c) s) (XE (d.ps.get (QR d.wide d.high c s).toNat) ((s + 2) % 4))).1 != 2)
def VV (d:Puz) (i:Nat):Bool:=Xm d (i / 4) (i % 4)
structure Zo (d:Puz):Prop where
 n9:d.ps.n≤9
 w1:1≤d.wide
 wn:d.wide≤d.ps.n
 h1:1≤d.high
 hn:d.high≤d.ps.n
 wh:d.wide * d.high=d.ps.n
theorem QDQ {d:Puz} (h:d.ok=true):Zo d:=by
 simp only [Puz.ok,Puz.okN,QW,Bool.and_eq_true,decide_eq_true_eq,beq_iff_eq] at h
 obtain ⟨⟨⟨a1,a2⟩,⟨b1,b2⟩,⟨c1,c2⟩,e⟩,_⟩:=h
 have hw:d.wide≤9:=by omega
 have hh:d.high≤9:=by omega
 have hm:d.wide * d.high≤9 * 9:=Int.mul_le_mul hw hh (by omega) (by omega)
 have hm0:0≤d.wide * d.high:=Int.mul_nonneg (by omega) (by omega)
 rw [w64 (by omega) (by omega)] at e
 exact ⟨by omega,b1,b2,c1,c2,e⟩
theorem QNm {d:Puz} (h:Zo d) {c s:Nat} (hc:c < d.ps.n) (hb:(QR d.wide d.high c s == -1)=false):0≤QR d.wide d.high c s∧QR d.wide d.high c s < d.ps.n:=by
 have w1:=h.w1
 have m0:0≤(c:Int).tmod d.wide:=Int.tmod_nonneg _ (by omega)
 have m1:(c:Int).tmod d.wide < d.wide:=Int.tmod_lt_of_pos _ (by omega)
 have q0:0≤(c:Int).tdiv d.wide:=Int.tdiv_nonneg (by omega) (by omega)
 have e:=Int.tmod_def (c:Int) d.wide
 have wh:=h.wh
 simp only [QR] at hb ⊢
 generalize (c:Int).tdiv d.wide=q at *
 generalize (c:Int).tmod d.wide=m at *
 have hq:q < d.high:=by
  rcases Int.lt_or_le q d.high with g|g
  ·exact g
  ·have:=Int.mul_le_mul_of_nonneg_left g (show 0≤d.wide by omega)
   omega
 have p0:0≤d.wide * q:=Int.mul_nonneg (by omega) q0
 have a1:d.wide * (q + 1)≤d.wide * d.high:=Int.mul_le_mul_of_nonneg_left (by omega) (by omega)
 have e1:d.wide * (q + 1)=d.wide * q + d.wide:=by rw [Int.mul_add,Int.mul_one]
 cases x0:((s:Int) == 0&&decide (0 < q)) with
 | true=>
  simp only [cond_true]
  simp only [Bool.and_eq_true,decide_eq_true_eq] at x0
  have:=Int.mul_le_mul_of_nonneg_left (show 1≤q by omega) (show 0≤d.wide by omega)
  omega
 | false=>
  simp only [x0,cond_false] at hb ⊢
  cases x1:((s:Int) == 1&&decide (m < d.wide - 1)) with
  | true=>
   simp only [cond_true]
   simp only [Bool.and_eq_true,decide_eq_true_eq] at x1
   omega
  | false=>
   simp only [x1,cond_false] at hb ⊢
   cases x2:((s:Int) == 2&&decide (q < d.high - 1)) with
   | true=>
    simp only [cond_true]
    simp only [Bool.and_eq_true,decide_eq_true_eq] at x2
    have a2:d.wide * (q + 2)≤d.wide * d.high:=Int.mul_le_mul_of_nonneg_left (by omega) (by omega)
    have e2:d.wide * (q + 2)=d.wide * q + d.wide * 2:=by rw [Int.mul_add]
    omega
   | false=>
    simp only [x2,cond_false] at hb ⊢
    cases x3:((s:Int) == 3&&decide (0 < m)) with
    | true=>
     simp only [cond_true]
     simp only [Bool.and_eq_true,decide_eq_true_eq] at x3
     omega
    | false=>
     simp only [x3,cond_false] at hb
     exact absurd hb (by decide)
def QHN (d:Puz) (c:Nat) (e:Ex) (J:JSt):Prop:=(∃ i,e = .ret∧QK (VV d) (4 * (d.ps.n - c)) (4 * c)=some i∧J=WT (i / 4) (i % 4))∨(e = .exit 0∧QK (VV d) (4 * (d.ps.n - c)) (4 * c)=none∧J=QAu)
theorem QMd (d:Puz) (hd:Zo d):JK (Hl d) (fun c=>c≤d.ps.n) (fun c=>d.ps.n - c) (QHN d) 8 QIq [] (mkE Try.prog XI) (fun _=>hnd (mkE Try.prog XI) 6) (Qf Try.f13 0):=by
 refine ⟨fun c g hk=>⟨vC (QO5 d c g) ?_⟩⟩
 have n9:=hd.n9
 refine QL (fun h => ?_) (fun h => ?_)
 ·have h:c < d.ps.n:=by have:=of_decide_eq_true h;omega
  have hw:=hd.w1
  have hwn:=hd.wn
  have hh:=hd.h1
  have hhn:=hd.hn
  have hA:(decide (d.ps.n≤d.ps.n)&&(true&&(true&&true))&&decide (((1:Int)≤d.wide∧d.wide≤(100:Int))∧((1:Int)≤d.high∧d.high≤(100:Int))∧(0:Int)≤(c:Int)∧(c:Int)≤(100:Int)))=true:=by
   simp only [Nat.le_refl,decide_true,Bool.true_and,decide_eq_true_eq];omega
  have hn:∀ s:Nat,(QR d.wide d.high c s == -1)=false→(decide (0≤QR d.wide d.high c s∧QR d.wide d.high c s < (d.ps.n:Int))&&decide (d.ps.n≤d.ps.n))=true∧decide ((QR d.wide d.high c s).toNat < d.ps.n)=true:=fun s hb=>by
   have:=QNm hd h hb
   simp only [Nat.le_refl,decide_true,Bool.and_true,decide_eq_true_eq];omega
  obtain ⟨m,hm⟩:∃ m,4 * (d.ps.n - c)=m + 1 + 1 + 1 + 1:=⟨4 * (d.ps.n - c) - 4,by omega⟩
  have hm':4 * (d.ps.n - (c + 1))=m:=by omega
  have q0:VV d (4 * c)=Xm d c 0:=by unfold VV;rw [show 4 * c / 4=c by omega,show 4 * c % 4=0 by omega]
  have q1:VV d (4 * c + 1)=Xm d c 1:=by unfold VV;rw [show (4 * c + 1) / 4=c by omega,show (4 * c + 1) % 4=1 by omega]
  have q2:VV d (4 * c + 1 + 1)=Xm d c 2:=by unfold VV;rw [show (4 * c + 1 + 1) / 4=c by omega,show (4 * c + 1 + 1) % 4=2 by omega]
  have q3:VV d (4 * c + 1 + 1 + 1)=Xm d c 3:=by unfold VV;rw [show (4 * c + 1 + 1 + 1) / 4=c by omega,show (4 * c + 1 + 1 + 1) % 4=3 by omega]
  refine QF (by simp;omega) (QF (by simp;omega) ?_)
  refine QAC (x:=Xm d c 0) hA (hn 0) rfl (fun b0 => ?_) (fun b0 => ?_)
  ·refine ⟨_,.inl ⟨4 * c,rfl,by rw [hm,QK,q0,b0],rfl⟩,rfl,rfl,_,QP7 c _ _,?_⟩
   exact ⟨by omega,by omega,rfl,trivial⟩
  refine QAC (x:=Xm d c 1) hA (hn 1) rfl (fun b1 => ?_) (fun b1 => ?_)
  ·refine ⟨_,.inl ⟨4 * c + 1,rfl,by rw [hm,QK,q0,b0,QK,q1,b1],rfl⟩,rfl,rfl,_,QLF c _ _,?_⟩
   exact ⟨by omega,by omega,rfl,trivial⟩
  refine QAC (x:=Xm d c 2) hA (hn 2) rfl (fun b2 => ?_) (fun b2 => ?_)
  ·refine ⟨_,.inl ⟨4 * c + 1 + 1,rfl,by rw [hm,QK,q0,b0,QK,q1,b1,QK,q2,b2],rfl⟩,rfl,rfl,_,QLJ c _ _,?_⟩
   exact ⟨by omega,by omega,rfl,trivial⟩
  refine QAC (x:=Xm d c 3) hA (hn 3) rfl (fun b3 => ?_) (fun b3 => ?_)
  ·refine ⟨_,.inl ⟨4 * c + 1 + 1 + 1,rfl,by rw [hm,QK,q0,b0,QK,q1,b1,QK,q2,b2,QK,q3,b3],rfl⟩,rfl,rfl,_,QRB c _ _,?_⟩
   exact ⟨by omega,by omega,rfl,trivial⟩
  have hf:QK (VV d) (4 * (d.ps.n - c)) (4 * c)=QK (VV d) (4 * (d.ps.n - (c + 1))) (4 * (c + 1)):=by
   rw [hm,hm',QK,q0,b0,QK,q1,b1,QK,q2,b2,QK,q3,b3,show 4 * (c + 1)=4 * c + 1 + 1 + 1 + 1 by omega]
  refine ⟨c + 1,h,by show d.ps.n - (c + 1) < d.ps.n - c;omega,fun e J h=>by unfold QHN at h ⊢;rw [hf];exact h,rfl,rfl,_,QSK d c (c + 1),?_⟩
  have hw:IntKind.i64.wrap ((c:Int) + 1)=((c + 1:Nat):Int):=(w64 (by omega) (by omega)).trans (by omega)
  repeat' first|exact trivial|with_reducible rfl|exact Nat.le_refl _|exact hw|exact QD.refl _ _ _|refine And.intro ?_ ?_
 ·have h:d.ps.n≤c:=by have:=of_decide_eq_false h;omega
  exact ⟨_,.inr ⟨rfl,by rw [show 4 * (d.ps.n - c)=0 by omega];rfl,rfl⟩,rfl,rfl,_,QTX,trivial⟩
end Go.Proofs.Ytbpffdkemeoajaa
namespace Go.SX
open Go Go.RowKit Go.Proofs.Ytbpffdkemeoajaa
def WE (p:Prop) (L:St→(Ex→St→QC)→QC) (st:St) (K:Ex→St→QC):QC := .ask p (L st K)
theorem QCp {E:Env} {G:Ctx} {c:Code} {p:Prop} {L:St→(Ex→St→QC)→QC} (h:p→JP E G c L):JP E G c (WE p L):=by
 intro st K T Q a w hn hd hr hQ
 obtain ⟨h1,h2⟩:=(show p∧(L st K).den T from hd)
 exact h h1 st K T Q a w hn h2 hr hQ
end Go.SX
namespace Go.Proofs.Ytbpffdkemeoajaa
open Go.SX
def ZS (d:Puz):Option Nat:=QK (VV d) (4 * d.ps.n) 0
def W5 (d:Puz):Nat:=(ZS d).getD 0
def QQy (d:Puz):List (Prop×Ex×JSt):=[((ZS d).isSome=true,.ret,WT (W5 d / 4) (W5 d % 4)),(ZS d=none,.exit 0,QAu)]
abbrev HL (P:Program) (d:Puz):Hnd:={ hnd (mkE P XI) 1 with loop:=fun _=>WE (Zo d) (KC 8 [] (Hl d 0) (QQy d)) }
theorem QRa (d:Puz) (G:Ctx) (hrd:G.rd=none) (hG:G.n=8):Q4 (mkE Try.prog XI) G (HL Try.prog d) (Qm Try.f13):=by
 refine JR (body:=Qf Try.f13 0) (QN vX) hrd (by kernel_rfl) ?_
 refine QCp fun hd => ?_
 refine Je (n0:=8) (QN vX) (by omega) (fun s hs=>Qt (QN vX) 6 G _ hrd) (fun s hs=>(by decide:8≤96)) ?_ (QMd d hd) (s0:=0) (Nat.zero_le _) ?_
 ·rintro s e J (⟨_,_,_,rfl⟩|⟨_,_,rfl⟩)<;>exact (by decide:8≤96)
 ·rintro e J (⟨i,rfl,h,rfl⟩|⟨rfl,h,rfl⟩)
  ·have h:ZS d=some i:=h
   refine ⟨_,List.mem_cons_self,by simp only [h];rfl,rfl,?_⟩
   simp only [W5,h];rfl
  ·exact ⟨_,List.mem_cons_of_mem _ List.mem_cons_self,h,rfl,rfl⟩
def W0 (d:Puz):Int×Int×Int:=match d.ok with
 | false=>(0,0,1)
 | true=>(match ZS d with
  | some i=>(((i / 4:Nat):Int),((i % 4:Nat):Int),0)
  | none=>(0,0,4))
def YW:WF (Puz×Unit):=fun|(d,_)=>(decide (d.ps.n≤1000),.tup [.int false .i64 (W0 d).1,.int false .i64 (W0 d).2.1,.int false .i64 (W0 d).2.2],[])
def QKS:FC:=wFC YW
theorem QR6 (d:Puz) :KY (mkE Try.prog XI) (HL Try.prog d) Try.f13 (QS.vals 0 ((d,()):Puz×Unit)) (QS.blks 0 ((d,()):Puz×Unit)) 8 = .need (decide (d.ps.n≤d.ps.n)&&true &&
  decide (d.ps.n≤1000)) (.br (!d.ok) (.leaf (.tup [.int true .i64 (0:Int),.int true .i64 (0:Int),.int true .i64 (1:Int)]) ([])) (.ask (Zo d) (.ask (0=0) (.ask (0=0)
  (.ask (0=0) (.ask (d.ps.n=d.ps.n) (.ask (Cap.of 0=Cap.of 0) (.ask ((↑d.ps.n:Int)=(↑d.ps.n:Int)) (.ask ((0:Int)=(0:Int)) (.ask (d.play.length=d.play.length) (.ask
  (d.play.slack=d.play.slack) (.ask (d.play.loose=d.play.loose) (.ask (d.play.damp.lo=d.play.damp.lo) (.ask (d.play.damp.hi=d.play.damp.hi) (.ask (d.wide=d.wide) (.ask
  (d.high=d.high) (.ask (d.turn=d.turn) (.ask (0=0) (.ask (d.ps.n=d.ps.n) (.ask (Cap.of 0=Cap.of 0) (.ask (d.ps.n≤d.ps.n) (.ask (QD 28 d.ps.n (fun i=>QB.enc
  (d.ps.get i)) fun i=>QB.enc (d.ps.get i)) (.both (.asm ((ZS d).isSome=true) (.all (fun (g0:Nat→Value) => .leaf (.tup [.int false .i64 (↑(W5 d / 4):Int),.int false
  .i64 (↑(W5 d % 4):Int),.int false .i64 (0:Int)]) ([])))) (.asm (ZS d=none) (.all (fun (g1:Nat→Value) => .leaf (.tup [.int true .i64 (0:Int),.int true .i64 (0 :
  Int),.int true .i64 (4:Int)]) ([]))))))))))))))))))))))))))):=by kernel_rfl
theorem QLr:Kz (mkE Try.prog XI) (Qm Try.f13) 8 YW (fun x_=>(HL Try.prog x_.1)):=by
 refine ⟨?_⟩
 rintro ⟨d,⟨⟩⟩ hp G h1 h2
 exact QRa d G h1 h2
theorem QPF:K1 (mkE Try.prog XI) Try.f13 8 YW (fun x_=>(HL Try.prog x_.1)):=by
 refine ⟨?_⟩
 rintro ⟨d,⟨⟩⟩ hp
 refine ⟨⟨rfl,by simp [YW],rfl⟩,⟨?_⟩⟩
 rw [QR6 d]
 simp only [YW] at hp
 refine QF (by simpa using hp) (QL (fun h=>Ki ?_ rfl) (fun h => ?_))
 ·have h:d.ok=false:=by simpa using h
  simp only [YW,W0,h];exact ⟨⟨rfl,rfl⟩,⟨rfl,rfl⟩,⟨rfl,rfl⟩,trivial⟩
 ·have h:d.ok=true:=by simpa using h
  refine Qc (QDQ h) ?_
  repeat' first|refine Qc (show _=_ by with_reducible rfl) ?_|refine Qc (show _≤_ from Nat.le_refl _) ?_|refine Qc (show QD _ _ _ _ from QD.refl _ _ _) ?_
  refine Xc (KQ fun ho=>KX fun g => ?_) (KQ fun ho=>KX fun g => ?_)
  ·obtain ⟨i,hi⟩:=Option.isSome_iff_exists.1 ho
   exact Ki (by simp only [YW,W0,W5,h,hi];exact ⟨⟨rfl,rfl⟩,⟨rfl,rfl⟩,⟨rfl,rfl⟩,trivial⟩) rfl
  ·exact Ki (by simp only [YW,W0,h,ho];exact ⟨⟨rfl,rfl⟩,⟨rfl,rfl⟩,⟨rfl,rfl⟩,trivial⟩) rfl
theorem QR1:QM Try.prog 13 QKS:=
 K6 (QN vX) Try.func13 (by kernel_rfl) (by kernel_rfl) (by decide) QLr QPF
def HR:Tab:=QX XI 13 QKS
theorem QDo:QU HR:=vX.add QR1
end Go.Proofs.Ytbpffdkemeoajaa
namespace Go.Proofs.Ytbpffdkemeoajaa
open Go.SX
structure Fl where
instance : Enc Fl where
  enc _ := .agg []
  dec | .agg [] => some ⟨⟩ | _ => none
  ok v x h := by
    split at h <;> (try (cases h; done))
    exact ⟨fun _ => rfl, rfl⟩
def QE6:Fl×Edge×Unit→Bool×AV:=fun|(b,(s,_))=>(true,.bool false (s.kind == 0))
def QI4:FC:=Qw (Qx QE6)
theorem QLP (b:Fl) (s:Edge):Qs (mkE Try.prog HR) (hnd (mkE Try.prog HR) 2) false Try.f124 (Qi.enc ((b,s,()):Fl×Edge×Unit)) [] 0 =
  QC.leaf (AV.bool false (s.kind == (0:Int))) ([]):=by kernel_rfl
theorem QP1:QM Try.prog 124 QI4:=by
 refine Q2 QDo 2 Try.func124 (by kernel_rfl) (by kernel_rfl) ?_
 rintro ⟨b,s,⟨⟩⟩ hp
 rw [QLP b s]
 simp only [QE6,QC.den,AV.same,AV.sameL,and_true,true_and] at hp ⊢
def QAB:Tab:=QX HR 124 QI4
theorem QBk:QU QAB:=QDo.add QP1
def QAT:Edge×Unit→Bool×AV:=fun|(s,_)=>(true,.alt (s.kind == 0) (.ifc 139 (.agg [])) (.ifc 140 (Enc.enc s)))
def QJF:FC:=Qw (Qx QAT)
theorem QPT (s:Edge):Qs (mkE Try.prog QAB) (hnd (mkE Try.prog QAB) 2) false Try.f73 (Qi.enc ((s,()):Edge×Unit)) [] 0 =
  QC.br (s.kind == (0:Int)) (QC.leaf (AV.ifc (139:Nat) (AV.agg [])) ([])) (QC.leaf (AV.ifc (140:Nat) (AV.agg [AV.int false IntKind.i64 s.kind,AV.int false IntKind.i64
  s.at_.lo,AV.int false IntKind.i64 s.at_.hi,AV.int false IntKind.i64 s.wide.lo,AV.int false IntKind.i64 s.wide.hi,AV.int false IntKind.i64 s.deep.lo,AV.int false IntKind.i64
  s.deep.hi])) ([])):=by kernel_rfl
theorem QRl:QM Try.prog 73 QJF:=by
 refine QRR (c:=Qm Try.f73) (QN QBk) Try.func73 (by kernel_rfl) (by kernel_rfl) (fun G _ hG=>Qt (QN QBk) 2 G _ hG) ?_
 rintro ⟨s,⟨⟩⟩ _
 refine vC (QPT s) ?_
 refine ⟨fun h r r' => ?_,fun h r r' => ?_⟩
 ·simp only [QAT,h];rfl
 ·simp only [QAT,h];rfl
def Kh:Tab:=QX QAB 73 QJF
theorem Zh:QU Kh:=QBk.add QRl
end Go.Proofs.Ytbpffdkemeoajaa
