/- - -/
import Derived.Test.YtbpffdkemeoajaaMaza
open Go.IntKind (i64)
set_option maxRecDepth 100000
namespace Go.Proofs.Ytbpffdkemeoajaa
open Go.SX
variable (f:Nat→Int)(C:List (List QB))(f':Nat→Int)(ac:Code)(l:List QB)(body:Code)(cs:List QB)(k k':Nat)(x:QE)(has has':Int→Bool)
def qW:List AV:=[.int false .i64 (f 0),.int false .i64 (f 1),.int false .i64 (f 2),.int false .i64 (f 3),.int false .i64 (f 4),.int false .i64 (f 5),.int false .i64 (f 6),.int false .i64 (f 7),.int false .i64 (f 8),.int false .i64 (f 9),.int false .i64 (f 10),.int false .i64 (f 11),.int false .i64 (f 12)]
def QDA:List AV:=[.int true .i64 0,.int true .i64 0,.int true .i64 0,.int true .i64 0,.int true .i64 0,.int true .i64 0,.int true .i64 0,.int true .i64 0,.int true .i64 0,.int true .i64 0,.int true .i64 0,.int true .i64 0,.int true .i64 0]
def pmB:List (Nat×Blk):=[(200,.frz [.int .i64,.int .i64] l.length fun i=>QA.enc (l.getD i ⟨0,0⟩))]
def pmJ(f:Nat→Int)(k:Nat):JSt:=⟨33,[(2,.ptr 208 0 0),(4,.ptr 216 0 0),(8,.slz 200 0 l.length (.of 0)),(9,.int false .i64 l.length),(10,.int false .i64 k)],[(216,.cells 1 95 QDA),(208,.cells 1 95 (qW f))]++pmB l,248⟩
def pmE:JSt:=⟨33,[(2,.ptr 208 0 0),(4,.ptr 216 0 0)],[(216,.cells 1 95 QDA),(208,.cells 1 95 (qW f))],248⟩
def QJ3:Ex→List Nat
 | .normal=>[2,4,8,9,10]
 | .exit _=>[2,4]
 | .ret=>[]
noncomputable abbrev Jb(l:List QB):List AV:=
  [.nilp,.ptr 33 0 0,.ptr 208 0 0,.ptr 216 0 0,.slz 200 0 l.length cO,vi (l.length:Int),vi (i64.wrap ((k:Int)+1))]
noncomputable abbrev XR:Nat×Blk:=
  (216,.cells 1 95 [vj 0,vj 0,vj 0,vj 0,vj 0,vj 0,vj 0,vj 0,vj 0,
  .int true .i64 0,vj 0,vj 0,vj 0])
noncomputable abbrev Xo:Nat×Blk:=
  (200,.frz [.int .i64,.int .i64] l.length fun i=>QA.enc (l.getD i ⟨0,0⟩))
noncomputable abbrev Xu(l:List QB):List (Nat×Blk):=
  [(208,.cells 1 95 [vi (f 0),vi (f 1),vi (f 2),vi (f 3),vi (f 4),vi (f 5),vi (f 6),
  .int false .i64 (f 7),vi (f 8),vi (f 9),vi (f 10),vi (f 11),vi (i64.wrap (↑(BitVec.ofInt 64 (f 12) |||
  BitVec.ofInt 64 (i64.wrap ((1:Int)*2^min k 64))).toNat:Int))]),XR,(Xo l)]
noncomputable abbrev QIx(l:List QB):List (Nat×Blk):=
  [(208,.cells 1 95 [vi (i64.wrap (↑(BitVec.ofInt 64 (f 0) ||| BitVec.ofInt 64 (i64.wrap ((1:Int)*2^min (l.getD k ⟨0,0⟩).cell.toNat 64))).toNat :
  Int)),vi (f 1),vi (f 2),vi (f 3),vi (f 4),vi (f 5),vi (f 6),vi (f 7),.int false
  .i64 (f 8),vi (f 9),vi (f 10),vi (f 11),vi (f 12)]),XR,(Xo l)]
noncomputable abbrev QIi(l:List QB):List (Nat×Blk):=
  [(208,.cells 1 95 [vi (f 0),vi (i64.wrap (↑(BitVec.ofInt 64 (f 1) ||| BitVec.ofInt 64 (i64.wrap ((1:Int)*2^min (l.getD k ⟨0,
  0⟩).cell.toNat 64))).toNat:Int)),vi (f 2),vi (f 3),vi (f 4),vi (f 5),vi (f 6),vi (f 7),.int
  false .i64 (f 8),vi (f 9),vi (f 10),vi (f 11),vi (f 12)]),XR,(Xo l)]
noncomputable abbrev QN2(l:List QB):List (Nat×Blk):=
  [(208,.cells 1 95 [vi (f 0),vi (f 1),vi (i64.wrap (↑(BitVec.ofInt 64 (f 2) ||| BitVec.ofInt 64 (i64.wrap ((1:Int)*2 ^
  min (l.getD k ⟨0,0⟩).cell.toNat 64))).toNat:Int)),vi (f 3),vi (f 4),vi (f 5),vi (f 6),vi (f 7),.int false
  .i64 (f 8),vi (f 9),vi (f 10),vi (f 11),vi (f 12)]),XR,(Xo l)]
noncomputable abbrev QLJ(l:List QB):List (Nat×Blk):=
  [(208,.cells 1 95 [vi (f 0),vi (f 1),vi (f 2),vi (i64.wrap (↑(BitVec.ofInt 64 (f 3) ||| BitVec.ofInt 64
  (i64.wrap ((1:Int)*2^min (l.getD k ⟨0,0⟩).cell.toNat 64))).toNat:Int)),vi (f 4),vi (f 5),vi (f 6),vi (f 7),
  .int false .i64 (f 8),vi (f 9),vi (f 10),vi (f 11),vi (f 12)]),XR,(Xo l)]
noncomputable abbrev QQT(l:List QB):List (Nat×Blk):=
  [(208,.cells 1 95 [vi (f 0),vi (f 1),vi (f 2),vi (f 3),vi (i64.wrap (↑(BitVec.ofInt 64 (f 4) |||
  BitVec.ofInt 64 (i64.wrap ((1:Int)*2^min (l.getD k ⟨0,0⟩).cell.toNat 64))).toNat:Int)),vi (f 5),vi (f 6),vi (f 7),.int
  false .i64 (f 8),vi (f 9),vi (f 10),vi (f 11),vi (f 12)]),XR,(Xo l)]
noncomputable abbrev QNG(l:List QB):List (Nat×Blk):=
  [(208,.cells 1 95 [vi (f 0),vi (f 1),vi (f 2),vi (f 3),vi (f 4),vi (i64.wrap
  (↑(BitVec.ofInt 64 (f 5) ||| BitVec.ofInt 64 (i64.wrap ((1:Int)*2^min (l.getD k ⟨0,0⟩).cell.toNat 64))).toNat:Int)),vi (f 6),vi (f 7),
  .int false .i64 (f 8),vi (f 9),vi (f 10),vi (f 11),vi (f 12)]),XR,(Xo l)]
noncomputable abbrev QHv(l:List QB):List (Nat×Blk):=
  [(208,.cells 1 95 [vi (f 0),vi (f 1),vi (f 2),vi (f 3),vi (f 4),vi (f 5),.int false .i64
  (i64.wrap (↑(BitVec.ofInt 64 (f 6) ||| BitVec.ofInt 64 (i64.wrap ((1:Int)*2^min (l.getD k ⟨0,0⟩).cell.toNat 64))).toNat:Int)),vi (f 7),.int
  false .i64 (f 8),vi (f 9),vi (f 10),vi (f 11),vi (f 12)]),XR,(Xo l)]
noncomputable abbrev QNC(l:List QB):List (Nat×Blk):=
  [(208,.cells 1 95 [vi (f 0),vi (f 1),vi (f 2),vi (f 3),vi (f 4),vi (f 5),vi (f 6),
  .int false .i64 (i64.wrap (↑(BitVec.ofInt 64 (f 7) ||| BitVec.ofInt 64 (i64.wrap ((1:Int)*2^min (l.getD k ⟨0,0⟩).cell.toNat 64))).toNat:Int)),.int false
  .i64 (f 8),vi (f 9),vi (f 10),vi (f 11),vi (f 12)]),XR,(Xo l)]
noncomputable abbrev QJ8(l:List QB):List (Nat×Blk):=
  [(208,.cells 1 95 [vi (f 0),vi (f 1),vi (f 2),vi (f 3),vi (f 4),vi (f 5),vi (f 6),
  .int false .i64 (f 7),vi (i64.wrap (↑(BitVec.ofInt 64 (f 8) ||| BitVec.ofInt 64 (i64.wrap ((1:Int)*2^min (l.getD k ⟨0,0⟩).cell.toNat 64))).toNat
  : Int)),vi (f 9),vi (f 10),vi (f 11),vi (f 12)]),XR,(Xo l)]
noncomputable abbrev QNg(l:List QB):List (Nat×Blk):=
  [(208,.cells 1 95 [vi (f 0),vi (f 1),vi (f 2),vi (f 3),vi (f 4),vi (f 5),vi (f 6),
  .int false .i64 (f 7),vi (f 8),vi (i64.wrap (↑(BitVec.ofInt 64 (f 9) ||| BitVec.ofInt 64 (i64.wrap ((1:Int)*2^min (l.getD k ⟨0,
  0⟩).cell.toNat 64))).toNat:Int)),vi (f 10),vi (f 11),vi (f 12)]),XR,(Xo l)]
noncomputable abbrev QMQ(l:List QB):Int:=
  (↑(BitVec.ofInt 64 (f 10) ||| BitVec.ofInt 64 (i64.wrap ((1:Int)*2^min (l.getD k ⟨0,0⟩).cell.toNat 64))).toNat:Int)
noncomputable abbrev QQf(l:List QB):List (Nat×Blk):=
  [(208,.cells 1 95 [vi (f 0),vi (f 1),vi (f 2),vi (f 3),vi (f 4),vi (f 5),vi (f 6),
  .int false .i64 (f 7),vi (f 8),vi (f 9),vi (i64.wrap (QMQ f k l)),vi (f 11),vi (f 12)]),XR,(Xo
  l)]
noncomputable abbrev QMZ(l:List QB):Int:=
  (↑(BitVec.ofInt 64 (f 11) ||| BitVec.ofInt 64 (i64.wrap ((1:Int)*2^min (l.getD k ⟨0,0⟩).cell.toNat 64))).toNat:Int)
noncomputable abbrev QLK(l:List QB):List (Nat×Blk):=
  [(208,.cells 1 95 [vi (f 0),vi (f 1),vi (f 2),vi (f 3),vi (f 4),vi (f 5),vi (f 6),
  .int false .i64 (f 7),vi (f 8),vi (f 9),vi (f 10),vi (i64.wrap (QMZ f k l)),vi (f 12)]),XR,(Xo
  l)]
noncomputable abbrev QMn:List (Nat×Blk):=
  [(208,.cells 1 95 [vi (f 0),vi (f 1),vi (f 2),vi (f 3),vi (f 4),vi (f 5),vi (f 6),
  .int false .i64 (f 7),vi (f 8),vi (f 9),vi (f 10),vi (f 11),vi (f 12)]),XR]
theorem QTw(f:Nat→Int)(k:Nat)(g:Nat→Value):exec (mkF Try.prog Qn) (hnd (mkF Try.prog Qn) 3) (Qd Try.f51 0) (JSt.inst (pmJ l f k) g) (KS [] QJ3) = .br (decide ((k:Int)<(l.length:Int))) (.need (decide
  ((0:Int)≤(k:Int)∧(k:Int)<(l.length:Int))&&decide (l.length≤l.length)) (.need (decide (k<l.length)) (.need (decide ((0:Int)≤(k:Int)∧(k:Int)<12)) (.br
  (decide ((k:Int)=0)) (.br ((l.getD k ⟨0,0⟩).cell == -2) (.need (decide ((0:Int)≤(k:Int))) (.leaf (.tup (Jb k l)) ((Xu f k l)))) (.need (decide ((0:Int)≤(l.getD k
  ⟨0,0⟩).cell)) (.leaf (.tup (Jb k l)) ((QIx f k l))))) (.br (decide ((k:Int)=1)) (.br ((l.getD k ⟨0,0⟩).cell == -2) (.need (decide ((0:Int)≤(k:Int))) (.leaf (.tup
  (Jb k l)) ((Xu f k l)))) (.need (decide ((0:Int)≤(l.getD k ⟨0,0⟩).cell)) (.leaf (.tup (Jb k l)) ((QIi f k l))))) (.br (decide ((k:Int)=2)) (.br ((l.getD k ⟨0,
  0⟩).cell == -2) (.need (decide ((0:Int)≤(k:Int))) (.leaf (.tup (Jb k l)) ((Xu f k l)))) (.need (decide ((0:Int)≤(l.getD k ⟨0,0⟩).cell)) (.leaf (.tup (Jb k l))
  ((QN2 f k l))))) (.br (decide ((k:Int)=3)) (.br ((l.getD k ⟨0,0⟩).cell == -2) (.need (decide ((0:Int)≤(k:Int))) (.leaf (.tup (Jb k l)) ((Xu f k l)))) (.need (decide
  ((0:Int)≤(l.getD k ⟨0,0⟩).cell)) (.leaf (.tup (Jb k l)) ((QLJ f k l))))) (.br (decide ((k:Int)=4)) (.br ((l.getD k ⟨0,0⟩).cell == -2) (.need (decide ((0:Int)≤(k :
  Int))) (.leaf (.tup (Jb k l)) ((Xu f k l)))) (.need (decide ((0:Int)≤(l.getD k ⟨0,0⟩).cell)) (.leaf (.tup (Jb k l)) ((QQT f k l))))) (.br (decide ((k:Int)=5)) (.br
  ((l.getD k ⟨0,0⟩).cell == -2) (.need (decide ((0:Int)≤(k:Int))) (.leaf (.tup (Jb k l)) ((Xu f k l)))) (.need (decide ((0:Int)≤(l.getD k ⟨0,0⟩).cell)) (.leaf (.tup
  (Jb k l)) ((QNG f k l))))) (.br (decide ((k:Int)=6)) (.br ((l.getD k ⟨0,0⟩).cell == -2) (.need (decide ((0:Int)≤(k:Int))) (.leaf (.tup (Jb k l)) ((Xu f k l))))
  (.need (decide ((0:Int)≤(l.getD k ⟨0,0⟩).cell)) (.leaf (.tup (Jb k l)) ((QHv f k l))))) (.br (decide ((k:Int)=7)) (.br ((l.getD k ⟨0,0⟩).cell == -2) (.need (decide ((0
  : Int)≤(k:Int))) (.leaf (.tup (Jb k l)) ((Xu f k l)))) (.need (decide ((0:Int)≤(l.getD k ⟨0,0⟩).cell)) (.leaf (.tup (Jb k l)) ((QNC f k l))))) (.br (decide ((k :
  Int)=8)) (.br ((l.getD k ⟨0,0⟩).cell == -2) (.need (decide ((0:Int)≤(k:Int))) (.leaf (.tup (Jb k l)) ((Xu f k l)))) (.need (decide ((0:Int)≤(l.getD k ⟨0,0⟩).cell))
  (.leaf (.tup (Jb k l)) ((QJ8 f k l))))) (.br (decide ((k:Int)=9)) (.br ((l.getD k ⟨0,0⟩).cell == -2) (.need (decide ((0:Int)≤(k:Int))) (.leaf (.tup (Jb k l)) ((Xu
  f k l)))) (.need (decide ((0:Int)≤(l.getD k ⟨0,0⟩).cell)) (.leaf (.tup (Jb k l)) ((QNg f k l))))) (.br (decide ((k:Int)=10)) (.br ((l.getD k ⟨0,0⟩).cell == -2) (.need
  (decide ((0:Int)≤(k:Int))) (.leaf (.tup (Jb k l)) ((Xu f k l)))) (.need (decide ((0:Int)≤(l.getD k ⟨0,0⟩).cell)) (.leaf (.tup (Jb k l)) ((QQf f k l))))) (.br
  ((l.getD k ⟨0,0⟩).cell == -2) (.need (decide ((0:Int)≤(k:Int))) (.leaf (.tup (Jb k l)) ((Xu f k l)))) (.need (decide ((0:Int)≤(l.getD k ⟨0,0⟩).cell)) (.leaf (.tup
  (Jb k l)) ((QLK f k l))))))))))))))))))) (.leaf (.tup [.ptr 0 0 0,.ptr 33 0 0,.ptr 208 0 0,.ptr 216 0 0]) ((QMn f))):=by kernel_rfl
noncomputable abbrev Xq(l:List QB):List AV:=
  [.ptr 208 0 0,.ptr 216 0 0,.slz 200 0 l.length cO,vi (l.length:Int),vi (i64.wrap ((k:Int)+1))]
abbrev Xj(l:List QB):List Prop:=
  [0=0,0=0,0=0,0=0,l.length=l.length,cO=cO,(l.length:Int)=(l.length:Int),i64.wrap ((k:Int)+1)=(k':Int)]
abbrev XQ:List Prop:=
  [(0:Int)=0,(0:Int)=0,(0:Int)=0,(0:Int)=0,(0:Int)=0,(0:Int)=0,(0:Int)=0,(0:Int)=0]
abbrev XZ:List Prop:=
  [(0:Int)=0,(0:Int)=0,(0:Int)=0,(0:Int)=0]
abbrev jL:List Prop:=
  [(0:Int)=0,f 0=f' 0,f 1=f' 1,f 2=f' 2,f 3=f' 3,f 4=f' 4,f 5=f' 5,f 6=f' 6]
abbrev QFT:List Prop:=
  [f 7=f' 7,f 8=f' 8,f 9=f' 9,f 10=f' 10]
theorem YH(f f':Nat→Int)(k k':Nat):QK 208 (Xq k l) ((Xu f k l)) (pmJ l f' k')=(some ([0=0]++(Xj k k' l)++XQ++XZ++(jL f f')++(QFT f f')++[f 11=f' 11,i64.wrap
  (↑(BitVec.ofInt 64 (f 12) ||| BitVec.ofInt 64 (i64.wrap ((1:Int)*2^min k 64))).toNat:Int)=f' 12,l.length≤l.length,QC 2 l.length (fun i=>QA.enc (l.getD
  i ⟨0,0⟩)) fun i=>QA.enc (l.getD i ⟨0,0⟩)])):=by kernel_rfl
abbrev zk:List Prop:=
  [f 5=f' 5,f 6=f' 6,f 7=f' 7,f 8=f' 8,f 9=f' 9]
abbrev Y1:List Prop:=
  [f 10=f' 10,f 11=f' 11,f 12=f' 12,l.length≤l.length,QC 2 l.length (fun i=>QA.enc (l.getD i ⟨0,0⟩)) fun i=>QA.enc (l.getD i ⟨0,0⟩)]
theorem Qb2(f f':Nat→Int)(k k':Nat):QK 208 (Xq k l) ((QIx f k l)) (pmJ l f' k')=(some ([0=0]++(Xj k k' l)++XQ++XZ++[(0:Int)=0,i64.wrap (↑(BitVec.ofInt 64 (f 0) ||| BitVec.ofInt
  64 (i64.wrap ((1:Int)*2^min (l.getD k ⟨0,0⟩).cell.toNat 64))).toNat:Int)=f' 0,f 1=f' 1,f 2=f' 2,f 3=f' 3,f 4=f' 4]++(zk f f')++(Y1 f f' l))):=by kernel_rfl
theorem QaC(f f':Nat→Int)(k k':Nat):QK 208 (Xq k l) ((QIi f k l)) (pmJ l f' k')=(some ([0=0]++(Xj k k' l)++XQ++XZ++[(0:Int)=0,f 0=f' 0,i64.wrap (↑(BitVec.ofInt 64 (f 1) |||
  BitVec.ofInt 64 (i64.wrap ((1:Int)*2^min (l.getD k ⟨0,0⟩).cell.toNat 64))).toNat:Int)=f' 1,f 2=f' 2,f 3=f' 3,f 4=f' 4]++(zk f f')++(Y1 f f'
  l))):=by kernel_rfl
theorem Qau(f f':Nat→Int)(k k':Nat):QK 208 (Xq k l) ((QN2 f k l)) (pmJ l f' k')=(some ([0=0]++(Xj k k' l)++XQ++XZ++[(0:Int)=0,f 0=f' 0,f 1=f' 1,i64.wrap (↑(BitVec.ofInt 64
  (f 2) ||| BitVec.ofInt 64 (i64.wrap ((1:Int)*2^min (l.getD k ⟨0,0⟩).cell.toNat 64))).toNat:Int)=f' 2,f 3=f' 3,f 4=f' 4]++(zk f f')++(Y1 f f' l))):=by kernel_rfl
abbrev QA6:List Prop:=
  [(0:Int)=0,f 0=f' 0,f 1=f' 1,f 2=f' 2]
theorem QYA(f f':Nat→Int)(k k':Nat):QK 208 (Xq k l) ((QLJ f k l)) (pmJ l f' k')=(some ([0=0]++(Xj k k' l)++XQ++XZ++(QA6 f f')++[i64.wrap (↑(BitVec.ofInt 64 (f 3) ||| BitVec.ofInt
  64 (i64.wrap ((1:Int)*2^min (l.getD k ⟨0,0⟩).cell.toNat 64))).toNat:Int)=f' 3,f 4=f' 4]++(zk f f')++(Y1 f f' l))):=by kernel_rfl
theorem QbR(f f':Nat→Int)(k k':Nat):QK 208 (Xq k l) ((QQT f k l)) (pmJ l f' k')=(some ([0=0]++(Xj k k' l)++XQ++XZ++(QA6 f f')++[f 3=f' 3,i64.wrap (↑(BitVec.ofInt 64 (f 4) |||
  BitVec.ofInt 64 (i64.wrap ((1:Int)*2^min (l.getD k ⟨0,0⟩).cell.toNat 64))).toNat:Int)=f' 4]++(zk f f')++(Y1 f f' l))):=by kernel_rfl
theorem QSS(f f':Nat→Int)(k k':Nat):QK 208 (Xq k l) ((QNG f k l)) (pmJ l f' k')=(some ([0=0]++(Xj k k' l)++XQ++XZ++(QA6 f f')++[f 3=f' 3,f 4=f' 4,i64.wrap (↑(BitVec.ofInt
  64 (f 5) ||| BitVec.ofInt 64 (i64.wrap ((1:Int)*2^min (l.getD k ⟨0,0⟩).cell.toNat 64))).toNat:Int)=f' 5,f 6=f' 6,f 7=f' 7,f 8=f' 8,f 9=f' 9]++(Y1
  f f' l))):=by kernel_rfl
theorem QW1(f f':Nat→Int)(k k':Nat):QK 208 (Xq k l) ((QHv f k l)) (pmJ l f' k')=(some ([0=0]++(Xj k k' l)++XQ++XZ++(QA6 f f')++[f 3=f' 3,f 4=f' 4,f 5=f' 5,i64.wrap
  (↑(BitVec.ofInt 64 (f 6) ||| BitVec.ofInt 64 (i64.wrap ((1:Int)*2^min (l.getD k ⟨0,0⟩).cell.toNat 64))).toNat:Int)=f' 6,f 7=f' 7,f 8=f' 8,f 9=f' 9] ++
  (Y1 f f' l))):=by kernel_rfl
theorem QVI(f f':Nat→Int)(k k':Nat):QK 208 (Xq k l) ((QNC f k l)) (pmJ l f' k')=(some ([0=0]++(Xj k k' l)++XQ++XZ++(jL f f')++[i64.wrap (↑(BitVec.ofInt 64 (f 7) |||
  BitVec.ofInt 64 (i64.wrap ((1:Int)*2^min (l.getD k ⟨0,0⟩).cell.toNat 64))).toNat:Int)=f' 7,f 8=f' 8,f 9=f' 9]++(Y1 f f' l))):=by kernel_rfl
theorem QR1(f f':Nat→Int)(k k':Nat):QK 208 (Xq k l) ((QJ8 f k l)) (pmJ l f' k')=(some ([0=0]++(Xj k k' l)++XQ++XZ++(jL f f')++[f 7=f' 7,i64.wrap (↑(BitVec.ofInt 64 (f 8) |||
  BitVec.ofInt 64 (i64.wrap ((1:Int)*2^min (l.getD k ⟨0,0⟩).cell.toNat 64))).toNat:Int)=f' 8,f 9=f' 9]++(Y1 f f' l))):=by kernel_rfl
theorem QUJ(f f':Nat→Int)(k k':Nat):QK 208 (Xq k l) ((QNg f k l)) (pmJ l f' k')=(some ([0=0]++(Xj k k' l)++XQ++XZ++(jL f f')++[f 7=f' 7,f 8=f' 8,i64.wrap (↑(BitVec.ofInt
  64 (f 9) ||| BitVec.ofInt 64 (i64.wrap ((1:Int)*2^min (l.getD k ⟨0,0⟩).cell.toNat 64))).toNat:Int)=f' 9]++(Y1 f f' l))):=by kernel_rfl
theorem QTW(f f':Nat→Int)(k k':Nat):QK 208 (Xq k l) ((QQf f k l)) (pmJ l f' k')=(some ([0=0]++(Xj k k' l)++XQ++XZ++(jL f f')++[f 7=f' 7,f 8=f' 8,f 9=f' 9,i64.wrap
  (QMQ f k l)=f' 10,f 11=f' 11,f 12=f' 12,l.length≤l.length,QC 2 l.length (fun i=>QA.enc (l.getD i ⟨0,0⟩)) fun i=>QA.enc (l.getD i ⟨0,0⟩)])):=by kernel_rfl
theorem QYC(f f':Nat→Int)(k k':Nat):QK 208 (Xq k l) ((QLK f k l)) (pmJ l f' k')=(some ([0=0]++(Xj k k' l)++XQ++XZ++(jL f f')++(QFT f f')++[i64.wrap (QMZ f k l)=f' 11,f
  12=f' 12,l.length≤l.length,QC 2 l.length (fun i=>QA.enc (l.getD i ⟨0,0⟩)) fun i=>QA.enc (l.getD i ⟨0,0⟩)])):=by kernel_rfl
theorem QVK :QK 208 [.ptr 208 0 0,.ptr 216 0 0] ((QMn f)) (pmE f')=(some ([0=0,0=0,0=0,0=0]++XQ++XZ++(jL f f')++(QFT f f')++[f 11=f' 11,f 12=f' 12])):=by kernel_rfl
def plS(s:QB)(j:Nat):Int:=match s.cell == -2 with
 | true=>(match Nat.beq j 12 with|true=>VT (f 12) k|false=>f j)
 | false=>(match Nat.beq j k with|true=>VT (f k) s.cell|false=>f j)
def plL(l:List QB)(f:Nat→Int):Nat→Nat→Int
 | 0=>f
 | k+1=>plS (plL l f k) k (l.getD k ⟨0,0⟩)
theorem Yh{n:Int}(h:(n == -2)=false)(h2:n = -2∨0≤n):decide (0≤n)=true:=decide_eq_true (h2.resolve_left (by simpa using h))
set_option maxHeartbeats 1600000 in
theorem QYF(f:Nat→Int)(hl12:l.length≤12)(hc:ji l):Ji (fun k=>pmJ l (plL l f k) k) (fun k=>k≤l.length) (fun k=>l.length-k) (fun _ e J=>e = .exit 0∧J=pmE (plL l f l.length)) 208 QJ3 [] (mkF Try.prog Qn) (fun _=>hnd (mkF Try.prog Qn) 3) (Qd Try.f51 0):=by
 refine⟨fun k g hk=>Q0 (QTw l (plL l f k) k g) ?_⟩;have hl:l.length≤1000:=by omega
 refine QI (fun h => ?_) (fun h => ?_)
 ·have h:k<l.length:=by have:=qdt h;omega
  have hw:=K6 h hl;have hcc:=hc.s k h;refine QF (by simp;omega) (QF (by simp;omega) (QF (by simp;omega) ?_))
  refine QI (fun q => ?_) (fun q => ?_)
  ·have q:=qdt q;have hk0:k=0:=by omega
   clear hw;subst hk0;have hw:=K6 h hl;have hd:l.length-1<l.length-0:=by omega
   refine QI (fun hc=>QF (by simp) ⟨1,h,hd,fun _ _ h=>h,rfl,rfl,_,YH l (plL l f 0) (plL l f 1) 0 1,?_⟩) (fun hc=>QF (Yh hc hcc) ⟨1,h,hd,fun _ _ h=>h,rfl,rfl,_,Qb2 l (plL l f 0) (plL l f 1) 0 1,?_⟩)
   all_goals
    have hs:∀ j,plL l f 1 j=plS (plL l f 0) 0 (l.getD 0 ⟨0,0⟩) j:=fun _=>rfl;generalize plL l f 1=f' at hs ⊢;generalize plL l f 0=f0 at hs ⊢
    repeat' first|with_reducible refine QN ?_ ?_|exact trivial|with_reducible rfl|exact qlr _|exact qRr|exact hw|(rw[hs];unfold plS;first|(rw[hc];done)|(rw[hc];rfl))|refine And.intro ?_ ?_
  have q0:¬ (k:Int)=0:=of_decide_eq_false q;clear q;refine QI (fun q => ?_) (fun q => ?_)
  ·have q:=qdt q;have hk1:k=1:=by omega
   clear hw;subst hk1;have hw:=K6 h hl;have hd:l.length-2<l.length-1:=by omega
   refine QI (fun hc=>QF (by simp) ⟨2,h,hd,fun _ _ h=>h,rfl,rfl,_,YH l (plL l f 1) (plL l f 2) 1 2,?_⟩) (fun hc=>QF (Yh hc hcc) ⟨2,h,hd,fun _ _ h=>h,rfl,rfl,_,QaC l (plL l f 1) (plL l f 2) 1 2,?_⟩)
   all_goals
    have hs:∀ j,plL l f 2 j=plS (plL l f 1) 1 (l.getD 1 ⟨0,0⟩) j:=fun _=>rfl;generalize plL l f 2=f' at hs ⊢;generalize plL l f 1=f0 at hs ⊢
    repeat' first|with_reducible refine QN ?_ ?_|exact trivial|with_reducible rfl|exact qlr _|exact qRr|exact hw|(rw[hs];unfold plS;first|(rw[hc];done)|(rw[hc];rfl))|refine And.intro ?_ ?_
  have q1:¬ (k:Int)=1:=of_decide_eq_false q;clear q;refine QI (fun q => ?_) (fun q => ?_)
  ·have q:=qdt q;have hk2:k=2:=by omega
   clear hw;subst hk2;have hw:=K6 h hl;have hd:l.length-3<l.length-2:=by omega
   refine QI (fun hc=>QF (by simp) ⟨3,h,hd,fun _ _ h=>h,rfl,rfl,_,YH l (plL l f 2) (plL l f 3) 2 3,?_⟩) (fun hc=>QF (Yh hc hcc) ⟨3,h,hd,fun _ _ h=>h,rfl,rfl,_,Qau l (plL l f 2) (plL l f 3) 2 3,?_⟩)
   all_goals
    have hs:∀ j,plL l f 3 j=plS (plL l f 2) 2 (l.getD 2 ⟨0,0⟩) j:=fun _=>rfl;generalize plL l f 3=f' at hs ⊢;generalize plL l f 2=f0 at hs ⊢
    repeat' first|with_reducible refine QN ?_ ?_|exact trivial|with_reducible rfl|exact qlr _|exact qRr|exact hw|(rw[hs];unfold plS;first|(rw[hc];done)|(rw[hc];rfl))|refine And.intro ?_ ?_
  have q2:¬ (k:Int)=2:=of_decide_eq_false q;clear q;refine QI (fun q => ?_) (fun q => ?_)
  ·have q:=qdt q;have hk3:k=3:=by omega
   clear hw;subst hk3;have hw:=K6 h hl;have hd:l.length-4<l.length-3:=by omega
   refine QI (fun hc=>QF (by simp) ⟨4,h,hd,fun _ _ h=>h,rfl,rfl,_,YH l (plL l f 3) (plL l f 4) 3 4,?_⟩) (fun hc=>QF (Yh hc hcc) ⟨4,h,hd,fun _ _ h=>h,rfl,rfl,_,QYA l (plL l f 3) (plL l f 4) 3 4,?_⟩)
   all_goals
    have hs:∀ j,plL l f 4 j=plS (plL l f 3) 3 (l.getD 3 ⟨0,0⟩) j:=fun _=>rfl;generalize plL l f 4=f' at hs ⊢;generalize plL l f 3=f0 at hs ⊢
    repeat' first|with_reducible refine QN ?_ ?_|exact trivial|with_reducible rfl|exact qlr _|exact qRr|exact hw|(rw[hs];unfold plS;first|(rw[hc];done)|(rw[hc];rfl))|refine And.intro ?_ ?_
  have q3:¬ (k:Int)=3:=of_decide_eq_false q;clear q;refine QI (fun q => ?_) (fun q => ?_)
  ·have q:=qdt q;have hk4:k=4:=by omega
   clear hw;subst hk4;have hw:=K6 h hl;have hd:l.length-5<l.length-4:=by omega
   refine QI (fun hc=>QF (by simp) ⟨5,h,hd,fun _ _ h=>h,rfl,rfl,_,YH l (plL l f 4) (plL l f 5) 4 5,?_⟩) (fun hc=>QF (Yh hc hcc) ⟨5,h,hd,fun _ _ h=>h,rfl,rfl,_,QbR l (plL l f 4) (plL l f 5) 4 5,?_⟩)
   all_goals
    have hs:∀ j,plL l f 5 j=plS (plL l f 4) 4 (l.getD 4 ⟨0,0⟩) j:=fun _=>rfl;generalize plL l f 5=f' at hs ⊢;generalize plL l f 4=f0 at hs ⊢
    repeat' first|with_reducible refine QN ?_ ?_|exact trivial|with_reducible rfl|exact qlr _|exact qRr|exact hw|(rw[hs];unfold plS;first|(rw[hc];done)|(rw[hc];rfl))|refine And.intro ?_ ?_
  have q4:¬ (k:Int)=4:=of_decide_eq_false q;clear q;refine QI (fun q => ?_) (fun q => ?_)
  ·have q:=qdt q;have hk5:k=5:=by omega
   clear hw;subst hk5;have hw:=K6 h hl;have hd:l.length-6<l.length-5:=by omega
   refine QI (fun hc=>QF (by simp) ⟨6,h,hd,fun _ _ h=>h,rfl,rfl,_,YH l (plL l f 5) (plL l f 6) 5 6,?_⟩) (fun hc=>QF (Yh hc hcc) ⟨6,h,hd,fun _ _ h=>h,rfl,rfl,_,QSS l (plL l f 5) (plL l f 6) 5 6,?_⟩)
   all_goals
    have hs:∀ j,plL l f 6 j=plS (plL l f 5) 5 (l.getD 5 ⟨0,0⟩) j:=fun _=>rfl;generalize plL l f 6=f' at hs ⊢;generalize plL l f 5=f0 at hs ⊢
    repeat' first|with_reducible refine QN ?_ ?_|exact trivial|with_reducible rfl|exact qlr _|exact qRr|exact hw|(rw[hs];unfold plS;first|(rw[hc];done)|(rw[hc];rfl))|refine And.intro ?_ ?_
  have q5:¬ (k:Int)=5:=of_decide_eq_false q;clear q;refine QI (fun q => ?_) (fun q => ?_)
  ·have q:=qdt q;have hk6:k=6:=by omega
   clear hw;subst hk6;have hw:=K6 h hl;have hd:l.length-7<l.length-6:=by omega
   refine QI (fun hc=>QF (by simp) ⟨7,h,hd,fun _ _ h=>h,rfl,rfl,_,YH l (plL l f 6) (plL l f 7) 6 7,?_⟩) (fun hc=>QF (Yh hc hcc) ⟨7,h,hd,fun _ _ h=>h,rfl,rfl,_,QW1 l (plL l f 6) (plL l f 7) 6 7,?_⟩)
   all_goals
    have hs:∀ j,plL l f 7 j=plS (plL l f 6) 6 (l.getD 6 ⟨0,0⟩) j:=fun _=>rfl;generalize plL l f 7=f' at hs ⊢;generalize plL l f 6=f0 at hs ⊢
    repeat' first|with_reducible refine QN ?_ ?_|exact trivial|with_reducible rfl|exact qlr _|exact qRr|exact hw|(rw[hs];unfold plS;first|(rw[hc];done)|(rw[hc];rfl))|refine And.intro ?_ ?_
  have q6:¬ (k:Int)=6:=of_decide_eq_false q;clear q;refine QI (fun q => ?_) (fun q => ?_)
  ·have q:=qdt q;have hk7:k=7:=by omega
   clear hw;subst hk7;have hw:=K6 h hl;have hd:l.length-8<l.length-7:=by omega
   refine QI (fun hc=>QF (by simp) ⟨8,h,hd,fun _ _ h=>h,rfl,rfl,_,YH l (plL l f 7) (plL l f 8) 7 8,?_⟩) (fun hc=>QF (Yh hc hcc) ⟨8,h,hd,fun _ _ h=>h,rfl,rfl,_,QVI l (plL l f 7) (plL l f 8) 7 8,?_⟩)
   all_goals
    have hs:∀ j,plL l f 8 j=plS (plL l f 7) 7 (l.getD 7 ⟨0,0⟩) j:=fun _=>rfl;generalize plL l f 8=f' at hs ⊢;generalize plL l f 7=f0 at hs ⊢
    repeat' first|with_reducible refine QN ?_ ?_|exact trivial|with_reducible rfl|exact qlr _|exact qRr|exact hw|(rw[hs];unfold plS;first|(rw[hc];done)|(rw[hc];rfl))|refine And.intro ?_ ?_
  have q7:¬ (k:Int)=7:=of_decide_eq_false q;clear q;refine QI (fun q => ?_) (fun q => ?_)
  ·have q:=qdt q;have hk8:k=8:=by omega
   clear hw;subst hk8;have hw:=K6 h hl;have hd:l.length-9<l.length-8:=by omega
   refine QI (fun hc=>QF (by simp) ⟨9,h,hd,fun _ _ h=>h,rfl,rfl,_,YH l (plL l f 8) (plL l f 9) 8 9,?_⟩) (fun hc=>QF (Yh hc hcc) ⟨9,h,hd,fun _ _ h=>h,rfl,rfl,_,QR1 l (plL l f 8) (plL l f 9) 8 9,?_⟩)
   all_goals
    have hs:∀ j,plL l f 9 j=plS (plL l f 8) 8 (l.getD 8 ⟨0,0⟩) j:=fun _=>rfl;generalize plL l f 9=f' at hs ⊢;generalize plL l f 8=f0 at hs ⊢
    repeat' first|with_reducible refine QN ?_ ?_|exact trivial|with_reducible rfl|exact qlr _|exact qRr|exact hw|(rw[hs];unfold plS;first|(rw[hc];done)|(rw[hc];rfl))|refine And.intro ?_ ?_
  have q8:¬ (k:Int)=8:=of_decide_eq_false q;clear q;refine QI (fun q => ?_) (fun q => ?_)
  ·have q:=qdt q;have hk9:k=9:=by omega
   clear hw;subst hk9;have hw:=K6 h hl;have hd:l.length-10<l.length-9:=by omega
   refine QI (fun hc=>QF (by simp) ⟨10,h,hd,fun _ _ h=>h,rfl,rfl,_,YH l (plL l f 9) (plL l f 10) 9 10,?_⟩) (fun hc=>QF (Yh hc hcc) ⟨10,h,hd,fun _ _ h=>h,rfl,rfl,_,QUJ l (plL l f 9) (plL l f 10) 9 10,?_⟩)
   all_goals
    have hs:∀ j,plL l f 10 j=plS (plL l f 9) 9 (l.getD 9 ⟨0,0⟩) j:=fun _=>rfl;generalize plL l f 10=f' at hs ⊢;generalize plL l f 9=f0 at hs ⊢
    repeat' first|with_reducible refine QN ?_ ?_|exact trivial|with_reducible rfl|exact qlr _|exact qRr|exact hw|(rw[hs];unfold plS;first|(rw[hc];done)|(rw[hc];rfl))|refine And.intro ?_ ?_
  have q9:¬ (k:Int)=9:=of_decide_eq_false q;clear q;refine QI (fun q => ?_) (fun q => ?_)
  ·have q:=qdt q;have hk10:k=10:=by omega
   clear hw;subst hk10;have hw:=K6 h hl;have hd:l.length-11<l.length-10:=by omega
   refine QI (fun hc=>QF (by simp) ⟨11,h,hd,fun _ _ h=>h,rfl,rfl,_,YH l (plL l f 10) (plL l f 11) 10 11,?_⟩) (fun hc=>QF (Yh hc hcc) ⟨11,h,hd,fun _ _ h=>h,rfl,rfl,_,QTW l (plL l f 10) (plL l f 11) 10 11,?_⟩)
   all_goals
    have hs:∀ j,plL l f 11 j=plS (plL l f 10) 10 (l.getD 10 ⟨0,0⟩) j:=fun _=>rfl;generalize plL l f 11=f' at hs ⊢;generalize plL l f 10=f0 at hs ⊢
    repeat' first|with_reducible refine QN ?_ ?_|exact trivial|with_reducible rfl|exact qlr _|exact qRr|exact hw|(rw[hs];unfold plS;first|(rw[hc];done)|(rw[hc];rfl))|refine And.intro ?_ ?_
  have q10:¬ (k:Int)=10:=of_decide_eq_false q;clear q;have hk11:k=11:=by omega
  clear hw;subst hk11;have hw:=K6 h hl
  refine QI (fun hc => QF (by simp) ?_) (fun hc => QF (decide_eq_true (by have : ¬ (l.getD 11 ⟨0,0⟩).cell = -2 := by simpa using hc
                                                                          omega)) ?_)
  ·refine⟨12,h,by show l.length-12<l.length-11;omega,fun _ _ h=>h,rfl,rfl,_,YH l (plL l f 11) (plL l f 12) 11 12,?_⟩
   have hs:∀ j,plL l f 12 j=plS (plL l f 11) 11 (l.getD 11 ⟨0,0⟩) j:=fun _=>rfl;generalize plL l f 12=f' at hs ⊢;generalize plL l f 11=f0 at hs ⊢
   repeat' first|with_reducible refine QN ?_ ?_|exact trivial|with_reducible rfl|exact qlr _|exact qRr|exact hw|(rw[hs];unfold plS;first|(rw[hc];done)|(rw[hc];rfl))|refine And.intro ?_ ?_
  ·refine⟨12,h,by show l.length-12<l.length-11;omega,fun _ _ h=>h,rfl,rfl,_,QYC l (plL l f 11) (plL l f 12) 11 12,?_⟩
   have hs:∀ j,plL l f 12 j=plS (plL l f 11) 11 (l.getD 11 ⟨0,0⟩) j:=fun _=>rfl;generalize plL l f 12=f' at hs ⊢;generalize plL l f 11=f0 at hs ⊢
   repeat' first|with_reducible refine QN ?_ ?_|exact trivial|with_reducible rfl|exact qlr _|exact qRr|exact hw|(rw[hs];unfold plS;first|(rw[hc];done)|(rw[hc];rfl))|refine And.intro ?_ ?_
 ·have:k=l.length:=by have:=of_decide_eq_false h;omega
  subst this;refine⟨_,⟨rfl,rfl⟩,rfl,rfl,_,QVK _ _,?_⟩
  repeat' first|with_reducible refine QN ?_ ?_|exact trivial|with_reducible rfl|exact qlr _|exact qRr|refine And.intro ?_ ?_
abbrev pmH(P:Program)(l:List QB)(f f':Nat→Int):Hnd:={ hnd (mkE P Qn) 1 with loop:=fun _=>KN 208 [] (pmJ l f (0:Nat)) [(True,.exit 0,pmE f')] }
theorem QYp(f:Nat→Int)(hl:l.length≤12)(hc:ji l)(G:Ctx)(hrd:G.rd=none)(hG:G.n=208):KH (mkE Try.prog Qn) G (pmH Try.prog l f (plL l f l.length)) (Qr Try.f51):=by
 refine Jd (body:=Qd Try.f51 0) (QT Q6) hrd (by kernel_rfl) ?_
 refine Ze (E:=mkF Try.prog Qn) rfl (Ju (n0:=208) (vD Q6) (by omega) (fun s hs=>Qz (vD Q6) 3 G _ hrd) (fun s hs=>(by decide:208≤248)) ?_ (QYF l f hl hc) (s0:=0) (Nat.zero_le _) ?_)
 ·rintro s e J ⟨_,rfl⟩;exact(by decide:208≤248)
 ·rintro e J ⟨rfl,rfl⟩;exact⟨_,List.mem_cons_self,trivial,rfl,rfl⟩
def pmU(f f':Nat→Int):UC:=⟨0,⟨2,[(0,.agg (qW f)),(1,.slz 200 0 l.length (.of 0))],pmB l,208⟩,fun _ => .agg (qW f'),fun _=>[]⟩
theorem QWF(f f':Nat→Int):Jw (mkE Try.prog Qn) (pmH Try.prog l f f') Try.f51 (pmU l f f') = .ask (0=0) (.ask (0=0) (.ask (0=0) (.ask (0=0) (.ask (0=0) (.ask (l.length=l.length) (.ask
  (cO=cO) (.ask ((l.length:Int)=(l.length:Int)) (.ask ((0:Int)=0) (.ask ((0:Int)=0) (.ask ((0:Int)=0) (.ask ((0:Int)=0) (.ask ((0:Int)=0) (.ask
  ((0:Int)=0) (.ask ((0:Int)=0) (.ask ((0:Int)=0) (.ask ((0:Int)=0) (.ask ((0:Int)=0) (.ask ((0:Int)=0) (.ask ((0:Int)=0) (.ask ((0:Int)=0) (.ask ((0 :
  Int)=0) (.ask (f 0=f 0) (.ask (f 1=f 1) (.ask (f 2=f 2) (.ask (f 3=f 3) (.ask (f 4=f 4) (.ask (f 5=f 5) (.ask (f 6=f 6) (.ask (f 7=f 7) (.ask (f 8=f 8) (.ask (f
  9=f 9) (.ask (f 10=f 10) (.ask (f 11=f 11) (.ask (f 12=f 12) (.ask (l.length≤l.length) (.ask (QC 2 l.length (fun i=>QA.enc (l.getD i ⟨0,0⟩)) fun i=>QA.enc
  (l.getD i ⟨0,0⟩)) (.asm (True) (.all (fun(g0:Nat→Value) => .leaf (.agg [vi (f' 0),vi (f' 1),vi (f' 2),vi (f' 3),.int
  false .i64 (f' 4),vi (f' 5),vi (f' 6),vi (f' 7),vi (f' 8),vi (f' 9),vi (f' 10),.int false .i64
  (f' 11),vi (f' 12)]) ([])))))))))))))))))))))))))))))))))))))))):=by kernel_rfl
theorem QaS(f f':Nat→Int):QK 208 [(AV.agg [AV.int false i64 (f' (0:Nat)),AV.int false i64 (f' (1:Nat)),AV.int false i64 (f' (2:Nat)),AV.int false i64 (f' (3:Nat)),AV.int false i64 (f' (4:Nat)),AV.int false i64 (f' (5:Nat)),AV.int false i64 (f' (6:Nat)),AV.int false i64 (f' (7:Nat)),AV.int false i64 (f' (8:Nat)),AV.int false i64 (f' (9:Nat)),AV.int false i64 (f' (10:Nat)),AV.int false i64 (f' (11:Nat)),AV.int false i64 (f' (12:Nat))])] ([]) (Kk (pmU l f f'))=(
  some [f' (0:Nat)=f' (0:Nat),f' (1:Nat)=f' (1:Nat),f' (2:Nat)=f' (2:Nat),f' (3:Nat)=f' (3:Nat),f' (4:Nat)=f' (4:Nat),f' (5:Nat)=f' (5:Nat),
  f' (6:Nat)=f' (6:Nat),f' (7:Nat)=f' (7:Nat),f' (8:Nat)=f' (8:Nat),f' (9:Nat)=f' (9:Nat),f' (10:Nat)=f' (10:Nat),f' (11:Nat)=f' (11:Nat),f'
  (12:Nat)=f' (12:Nat)]):=by kernel_rfl
theorem QRx(f:Nat→Int)(hl:l.length≤12)(hc:ji l):QQ Try.prog 51 (uFC (pmU l f (plL l f l.length))):=by
 refine JZ (E:=mkE Try.prog Qn) (QT Q6) Try.func51 (by kernel_rfl) (by kernel_rfl) (GB (Nat.zero_le _) rfl rfl fun _=>rfl) (QYp l f hl hc) ⟨?_⟩
 refine Q0 (QWF l f (plL l f l.length)) ?_
 repeat' first|refine QF rfl ?_|refine Qb (p:=_=_) rfl ?_|refine Qb (p:=_≤_) (qlr _) ?_|refine Qb (p:=QC _ _ _ _) (qRr) ?_
 refine KO fun _=>KK fun g=>⟨rfl,rfl,_,QaS l f _,?_⟩
 repeat' first|with_reducible refine QN ?_ ?_|exact trivial|with_reducible rfl|exact qlr _|exact qRr|refine And.intro ?_ ?_
def tdT:List AV:=[.ptr 40 0 0,.int true .i64 0,.fn (.func 62) [.ptr 120 0 0,.ptr 112 0 0,.ptr 104 0 0],.tup [],.ptr 168 0 0,.ptr 176 0 0,.int true .i64 0,.bool true false,.ptr 200 0 0,.tup [],.ptr 40 0 0,.fn (.func 76) [.ptr 224 0 0],.tup [],.tup [],.tup [],.tup [],.tup [],.tup [],.tup [],.tup [],.tup [],.tup []]
def QG3:List AV:=[.ptr 296 0 0,.ptr 224 0 0,.ptr 280 0 0,.ptr 264 0 0,.ptr 304 0 0]
def tdR(C:List (List QB)):List (Nat×Blk):=
 [(304,.cellsR 0 34 [.fn (.func 77) QG3]),(280,.cellsR 0 63 [.map 272]),(264,.cellsR 0 123 [.yld 257]),(224,.cellsR 0 89 [.ptr 40 0 0]),(176,.cellsR 0 101 [.fn (.func 62) [.ptr 120 0 0,.ptr 112 0 0,.ptr 104 0 0]]),(40,.cellsR 0 125 (srK 41 x C)),Y0 false 41 C]++VY 0 x
def tdW(l:List QB)(a:Nat)(b:Nat)(has:Int→Bool)(many n:Int)(f:List QB)(moved turned:Int):List (Nat×Blk):=
 [(296,.cells 0 38 [.slz a 0 l.length (.of 0)]),rwL a l,(272,.mpf .i64 (.int true .i64 0) has fun i => .int false .i64 (QH l i)),(257,.lp .ready none tdT #[12] ac body),(200,.cells 0 3 [.int false .i64 many]),(168,.cells 0 3 [.int false .i64 n]),(120,.cells 0 38 [.slz b 0 f.length (.of 0)]),rwL b f,(112,.cells 0 92 [.int false .i64 moved]),(104,.cells 0 92 [.int false .i64 turned])]
def QAc(C:List (List QB))(ac body:Code)(l:List QB)(has:Int→Bool)(many n:Int)(f:List QB)(moved turned:Int):JSt:=
 ⟨5,[(0,.ptr 296 0 0),(1,.ptr 224 0 0),(2,.ptr 280 0 0),(3,.ptr 264 0 0),(4,.ptr 304 0 0)],tdW ac body l 344 352 has many n f moved turned++tdR x C,360⟩
def tdU(C:List (List QB))(ac body:Code)(l:List QB)(has:Int→Bool)(many n:Int)(f:List QB)(moved turned:Int)(has':Int→Bool)(many' n':Int)(f':List QB)(moved' turned':Int):UC:=
 ⟨336,QAc x C ac body l has many n f moved turned,fun _ => .bool false true,fun m=>tdW ac body l m (m+1) has' many' n' f' moved' turned'⟩
def tdJ(C:List (List QB))(ac body:Code)(cs l:List QB)(has:Int→Bool)(many n:Int)(f:List QB)(moved turned:Int)(k:Nat):JSt:=
 ⟨98,[(0,.ptr 296 0 0),(1,.ptr 224 0 0),(2,.ptr 280 0 0),(3,.ptr 264 0 0),(4,.ptr 304 0 0),(48,.slz 384 0 cs.length (.of 0)),(49,.int false .i64 cs.length),(50,.int false .i64 k)],
  (384,.frz [.int .i64,.int .i64] cs.length fun i=>QA.enc (cs.getD i ⟨0,0⟩))::tdW ac body l 368 376 has many n f moved turned++tdR x C,400⟩
def tdE(l:List QB)(has:Int→Bool)(many n:Int)(f:List QB)(moved turned:Int):JSt:=⟨98,[],tdW ac body l 368 376 has many n f moved turned,400⟩
def QAC:List Nat:=[296,272,257,200,168,120,112,104]
noncomputable abbrev QDr:List AV:=
  [.nilp,.ptr 98 0 0,.ptr 296 0 0,.ptr 224 0 0,.ptr 280 0 0,.ptr 264 0 0,.ptr 304 0 0,.slz 384 0 cs.length cO,vi (cs.length:Int),.int false .i64
  (i64.wrap ((k:Int)+1))]
noncomputable abbrev GR:Nat×Blk:=
  (257,.lp LoopState.ready none tdT (Array.mk [12]) ac body)
noncomputable abbrev QFP(f:List QB):Nat×Blk:=
  (120,.cells 0 38 [.slz 376 0 f.length cO])
noncomputable abbrev zr:Nat×Blk:=
  (224,.cellsR 0 89 [.ptr 40 0 0])
noncomputable abbrev QGc:Nat×Blk:=
  (304,.cellsR 0 34 [.fn (Fn.func 77) [.ptr 296 0 0,.ptr 224 0 0,.ptr 280 0 0,.ptr 264 0 0,.ptr 304 0 0]])
noncomputable abbrev QGX:Nat×Blk:=
  (384,.frz [.int .i64,.int .i64] cs.length fun i=>QA.enc (cs.getD i ⟨0,0⟩))
noncomputable abbrev ze:Nat×Blk:=
  (40,.cellsR 0 125 [vi x.d.play.length,vi x.d.play.slack,vi x.d.play.loose,vi x.d.play.damp.lo,.int false .i64
  x.d.play.damp.hi,vi x.d.wide,vi x.d.high,.bool false x.d.turn,.slz 0 0 x.d.ps.n cO,.slz 1 0 x.scans.n cO,.slz 2 0 x.hang.n (Cap.of
  0),vi x.lost,vi x.foreign,.slz 41 0 C.length cO])
noncomputable abbrev G7:Nat×Blk:=
  (176,.cellsR 0 101 [.fn (Fn.func 62) [.ptr 120 0 0,.ptr 112 0 0,.ptr 104 0 0]])
noncomputable abbrev QGe(f:List QB):Nat×Blk:=
  (376,.rowz true 56 [.int .i64,.int .i64] f.length fun i=>QA.enc (f.getD i ⟨0,0⟩))
abbrev Y5:List CK:=
  [.int .i64,.int .i64,.int .i64,.int .i64,.int .i64,.int .i64,.int .i64,.int .i64,.int .i64,.int .i64,.int .i64,.int .i64,.int .i64,.int .i64,.int .i64,.int .i64,.int
  .i64,.int .i64,.int .i64,.int .i64,.int .i64,.int .i64,.int .i64,.int .i64,.int .i64,.int .i64,.int .i64,.int .i64]
noncomputable abbrev HQ:Nat×Blk:=
  (2,.frz [.int .i64,.int .i64,.int .i64,.int .i64] x.hang.n fun i=>QA.enc (x.hang.get i))
noncomputable abbrev Gc:Nat×Blk:=
  (41,.frz2 false 38 [.int .i64,.int .i64] C.length (fun i=>(QJ C i).length) fun i j=>QA.enc ((QJ C i).getD j ⟨0,0⟩))
noncomputable abbrev QHz(f:List QB)(has:Int→Bool)(l:List QB)(many:Int)(moved:Int)(n:Int)(turned:Int)(x:QE):List (Nat×Blk):=
  [(296,.cells 0 38 [.slz 368 0 l.length cO]),(272,.mpf i64 (.int true .i64 0) has fun i => .int false .i64 (QH l i)),(GR ac body),(200,.cells 0 3 [.int
  false .i64 many]),(168,.cells 0 3 [vi n]),(QFP f),(112,.cells 0 92 [vi moved]),(104,.cells 0 92 [vi turned]),zr,(280,.cellsR 0
  63 [.map 272]),(264,.cellsR 0 123 [.yld 257]),QGc,(QGX cs),(368,.rowz true 56 [.int .i64,.int .i64] l.length fun i=>QA.enc (l.getD i ⟨0,0⟩)),(ze C x),G7,
  (QGe f),(0,.frz Y5 x.d.ps.n fun i=>QA.enc (x.d.ps.get i)),(1,.frz Y5 x.scans.n fun i=>QA.enc (x.scans.get i)),(HQ x),(Gc C)]
noncomputable abbrev QBa:List AV:=
  [vi (cs.getD k ⟨0,0⟩).cell,vi (cs.getD k ⟨0,0⟩).turn]
noncomputable abbrev QQ0(f:List QB)(has:Int→Bool)(k:Nat)(l:List QB)(many:Int)(moved:Int)(n:Int)(turned:Int)(x:QE):List (Nat×Blk):=
  [(296,.cells 0 38 [.slz 1064 0 (i64.wrap ((↑(l.length+1):Int)-1)).toNat cO]),(272,.mpf i64 (.int true .i64 0) (QW (cs.getD k ⟨0,0⟩).cell true
  (QW (cs.getD k ⟨0,0⟩).cell true has)) (Q9 (cs.getD k ⟨0,0⟩).cell (.int false .i64 (i64.wrap (toI (Bool.rec ((fun _=>(fun i => .int false .i64 (QH l i)) ((fun i=>
  QA.enc (cs.getD i ⟨0,0⟩)) ((k:Int).toNat+0) 0)) ()) ((fun _ => .int false .i64 (i64.wrap (toI ((fun i => .int false .i64 (QH l i)) ((fun i=>QA.enc (cs.getD i
  ⟨0,0⟩)) ((k:Int).toNat+0) 0))+1))) ()) (decide ((fun i=>QA.enc (cs.getD i ⟨0,0⟩)) ((k:Int).toNat+0) 0=(fun i=>QA.enc (cs.getD i ⟨0,0⟩)) ((k:Int).toNat+0)
  0)))-1))) (Q9 (cs.getD k ⟨0,0⟩).cell (.int false .i64 (i64.wrap (toI (.int false .i64 (QH l (cs.getD k ⟨0,0⟩).cell))+1))) fun i => .int false .i64 (QH l i)))),
  (GR ac body),(200,.cells 0 3 [vi many]),(168,.cells 0 3 [vi n]),(QFP f),(112,.cells 0 92 [vi moved]),(104,.cells 0 92 [.int
  false .i64 turned]),zr,(280,.cellsR 0 63 [.map 272]),(264,.cellsR 0 123 [.yld 257]),QGc,(QGX cs),(1064,.rowz true 56 [.int .i64,.int .i64] (l.length+1) (QY
  l.length (fun i=>QA.enc (l.getD i ⟨0,0⟩)) (QR [(QBa cs k)] 0))),(ze C x),G7,(QGe f),(0,.frz Y5 x.d.ps.n fun i=>QA.enc (x.d.ps.get i)),(1,.frz Y5
  x.scans.n fun i=>QA.enc (x.scans.get i)),(HQ x),(Gc C)]
noncomputable abbrev QPU(k:Nat)(l2:List QB):Nat×Blk:=
  (272,.mpf i64 (.int true .i64 0) (QW (cs.getD k ⟨0,0⟩).cell true has') (Q9 (cs.getD k ⟨0,0⟩).cell (.int false .i64 (i64.wrap (toI (.int false .i64 (QH l2
  (cs.getD k ⟨0,0⟩).cell))-1))) fun i => .int false .i64 (QH l2 i)))
noncomputable abbrev QLx(f':List QB)(has':Int→Bool)(k:Nat)(l2:List QB)(many':Int)(moved':Int)(n':Int)(turned':Int)(x:QE):List (Nat×Blk):=
  [(296,.cells 0 38 [.slz 1176 0 (i64.wrap ((l2.length:Int)-1)).toNat cO]),(QPU cs has' k l2),(GR ac body),(200,.cells 0 3 [vi many']),
  (168,.cells 0 3 [vi n']),(120,.cells 0 38 [.slz 1177 0 f'.length cO]),(112,.cells 0 92 [vi moved']),(104,.cells 0 92 [.int false .i64
  turned']),zr,(280,.cellsR 0 63 [.map 272]),(264,.cellsR 0 123 [.yld 257]),QGc,(QGX cs),(1176,.rowz true 56 [.int .i64,.int .i64] l2.length fun i=>QA.enc
  (l2.getD i ⟨0,0⟩)),(ze C x),G7,(1177,.rowz true 56 [.int .i64,.int .i64] f'.length fun i=>QA.enc (f'.getD i ⟨0,0⟩)),(0,.frz Y5 x.d.ps.n fun i=>QA.enc
  (x.d.ps.get i)),(1,.frz Y5 x.scans.n fun i=>QA.enc (x.scans.get i)),(HQ x),(Gc C)]
noncomputable abbrev QPC(f:List QB)(has:Int→Bool)(l:List QB)(many:Int)(moved:Int)(n:Int)(turned:Int)(x:QE):List (Nat×Blk):=
  [(296,.cells 0 38 [.slz 368 0 l.length cO]),(272,.mpf i64 (.int true .i64 0) has fun i => .int false .i64 (QH l i)),(GR ac body),(200,.cells 0 3 [.int
  false .i64 many]),(168,.cells 0 3 [vi n]),(QFP f),(112,.cells 0 92 [vi moved]),(104,.cells 0 92 [vi turned]),(368,.rowz true 56
  [.int .i64,.int .i64] l.length fun i=>QA.enc (l.getD i ⟨0,0⟩)),(ze C x),G7,zr,(QGe f),(0,.frz Y5 x.d.ps.n fun i=>QA.enc (x.d.ps.get i)),(1,.frz Y5
  x.scans.n fun i=>QA.enc (x.scans.get i)),(HQ x),(Gc C)]
theorem QWO(pb1 pb2:List Prop→Bool)(x:QE)(C:List (List QB))(ac body:Code)(cs l l2:List QB)(has has2:Int→Bool)(many n:Int)(f:List QB)(moved turned:Int)(k:Nat)(has':Int→Bool)(many' n':Int)(f':List QB)(moved' turned':Int)(g:Nat→Value):exec (mkC Try.prog (XO pb1 pb2 x C l2 (tdU x C ac body l2 has2 many n f moved turned has' many' n' f' moved' turned'))) (hnd (mkC Try.prog (XO pb1 pb2 x C l2 (tdU x C ac
  body l2 has2 many n f moved turned has' many' n' f' moved' turned'))) 0) (Qd Try.f77 0) (JSt.inst (tdJ x C ac body cs l has many n f moved turned k) g) (KS QAC Zp) = .br
  (decide ((k:Int)<(cs.length:Int))) (.need (decide ((0:Int)≤(k:Int)∧(k:Int)<(cs.length:Int))&&decide (cs.length≤cs.length)) (.need (decide (k<cs.length))
  (.all (fun(g0:Nat→Value) => .need (isI i64 (.int false .i64 (QH l (cs.getD k ⟨0,0⟩).cell))) (.br (decide (toI (.int false .i64 (QH l (cs.getD k ⟨0,0⟩).cell)) ≥
  bif (cs.getD k ⟨0,0⟩).cell == -2 then x.foreign else (1:Int))) (.leaf (.tup (QDr cs k)) ((QHz C ac body cs f has l many moved n turned x))) (.need (decide (l.length≤l.length)
  && (true&&decide ((l.length+1+(l.length+1) / 4+192)*16≤281474976710656∧l.length+1≤9223372036854775807))) (.need (isI i64 (.int false .i64 (QH l
  (cs.getD k ⟨0,0⟩).cell))) (.need (pb1 ([0=0,0=0,0=0,l.length+1=l2.length,cO=cO,l2.length≤l.length+1,QC 2 l2.length (QY l.length (fun i=>
  QA.enc (l.getD i ⟨0,0⟩)) (QR [(QBa cs k)] 0)) fun i=>QA.enc (l2.getD i ⟨0,0⟩),x.d.play.length=x.d.play.length,x.d.play.slack=x.d.play.slack,x.d.play.loose =
  x.d.play.loose,x.d.play.damp.lo=x.d.play.damp.lo,x.d.play.damp.hi=x.d.play.damp.hi,x.d.wide=x.d.wide,x.d.high=x.d.high,x.d.turn=x.d.turn,0=0,x.d.ps.n=x.d.ps.n,
  cO=cO,0=0,x.scans.n=x.scans.n,cO=cO,0=0,x.hang.n=x.hang.n,cO=cO,x.lost=x.lost,x.foreign=x.foreign,0=0,C.length =
  C.length,cO=cO,C.length=C.length,Kd 2 C.length (fun i=>(QJ C i).length) (fun i=>(QJ C i).length) (fun i j=>QA.enc ((QJ C i).getD j ⟨0,0⟩)) fun
  i j=>QA.enc ((QJ C i).getD j ⟨0,0⟩),x.d.ps.n≤x.d.ps.n,QC 28 x.d.ps.n (fun i=>QA.enc (x.d.ps.get i)) fun i=>QA.enc (x.d.ps.get i),x.scans.n≤x.scans.n,
  QC 28 x.scans.n (fun i=>QA.enc (x.scans.get i)) fun i=>QA.enc (x.scans.get i),x.hang.n≤x.hang.n,QC 4 x.hang.n (fun i=>QA.enc (x.hang.get i)) fun i=>
  QA.enc (x.hang.get i)])) (.br (!Kj x l2) (.need (isI i64 (Bool.rec ((fun _=>(fun i => .int false .i64 (QH l i)) ((fun i=>QA.enc (cs.getD i ⟨0,0⟩)) ((k :
  Int).toNat+0) 0)) ()) ((fun _ => .int false .i64 (i64.wrap (toI ((fun i => .int false .i64 (QH l i)) ((fun i=>QA.enc (cs.getD i ⟨0,0⟩)) ((k:Int).toNat+0) 0)) +
  1))) ()) (decide ((fun i=>QA.enc (cs.getD i ⟨0,0⟩)) ((k:Int).toNat+0) 0=(fun i=>QA.enc (cs.getD i ⟨0,0⟩)) ((k:Int).toNat+0) 0)))) (.need (decide ((0:Int) ≤
  i64.wrap ((↑(l.length+1):Int)-1)∧(i64.wrap ((↑(l.length+1):Int)-1)).toNat≤l.length+1-0)) (.leaf (.tup (QDr cs k)) ((QQ0 C ac body cs f has k l
  many moved n turned x))))) (.need (pb2 ([0=0,0=0,0=0,0=0,0=0,0=0,0=0,0=0,0=0,0=0,0=0,l.length+1=l2.length,cO=cO,l2.length ≤
  l.length+1,QC 2 l2.length (QY l.length (fun i=>QA.enc (l.getD i ⟨0,0⟩)) (QR [(QBa cs k)] 0)) fun i=>QA.enc (l2.getD i ⟨0,0⟩),KA (.int true .i64 0) (.int
  true .i64 0) (QW (cs.getD k ⟨0,0⟩).cell true has) has2 (Q9 (cs.getD k ⟨0,0⟩).cell (.int false .i64 (i64.wrap (toI (.int false .i64 (QH l (cs.getD k ⟨0,0⟩).cell)) +
  1))) fun i => .int false .i64 (QH l i)) fun i => .int false .i64 (QH l2 i),LoopState.ready=LoopState.ready,(none:Option Code)=none,Array.mk [12]=Array.mk [12],ac =
  ac,body=body,0=0,0=0,(0:Int)=0,Fn.func 62=Fn.func 62,0=0,0=0,0=0,0=0,0=0,0=0,0=0,0=0,0=0,0=0,(0:Int)=0,false=false,0=0,0 =
  0,0=0,0=0,Fn.func 76=Fn.func 76,0=0,0=0,many=many,n=n,0=0,f.length=f.length,cO=cO,f.length≤f.length,QC 2 f.length (fun i=>
  QA.enc (f.getD i ⟨0,0⟩)) fun i=>QA.enc (f.getD i ⟨0,0⟩),moved=moved,turned=turned,Fn.func 77=Fn.func 77,0=0,0=0,0=0,0=0,0=0,0=0,0=0,0=0,0 =
  0,0=0,0=0,0=0,Fn.func 62=Fn.func 62,0=0,0=0,0=0,0=0,0=0,0=0,x.d.play.length=x.d.play.length,x.d.play.slack=x.d.play.slack,x.d.play.loose =
  x.d.play.loose,x.d.play.damp.lo=x.d.play.damp.lo,x.d.play.damp.hi=x.d.play.damp.hi,x.d.wide=x.d.wide,x.d.high=x.d.high,x.d.turn=x.d.turn,0=0,x.d.ps.n=x.d.ps.n,
  cO=cO,0=0,x.scans.n=x.scans.n,cO=cO,0=0,x.hang.n=x.hang.n,cO=cO,x.lost=x.lost,x.foreign=x.foreign,0=0,C.length =
  C.length,cO=cO,C.length=C.length,Kd 2 C.length (fun i=>(QJ C i).length) (fun i=>(QJ C i).length) (fun i j=>QA.enc ((QJ C i).getD j ⟨0,0⟩)) fun
  i j=>QA.enc ((QJ C i).getD j ⟨0,0⟩),x.d.ps.n≤x.d.ps.n,QC 28 x.d.ps.n (fun i=>QA.enc (x.d.ps.get i)) fun i=>QA.enc (x.d.ps.get i),x.scans.n≤x.scans.n,
  QC 28 x.scans.n (fun i=>QA.enc (x.scans.get i)) fun i=>QA.enc (x.scans.get i),x.hang.n≤x.hang.n,QC 4 x.hang.n (fun i=>QA.enc (x.hang.get i)) fun i=>
  QA.enc (x.hang.get i)])) (.need (isI i64 (.int false .i64 (QH l2 (cs.getD k ⟨0,0⟩).cell))) (.need (decide ((0:Int)≤i64.wrap ((l2.length:Int)-1) ∧
  (i64.wrap ((l2.length:Int)-1)).toNat≤l2.length-0)) (.br (false) (.leaf (.tup [.nili,.ptr 98 0 0,.bool true false]) ([(296,.cells 0 38 [.slz 1176 0
  (i64.wrap ((l2.length:Int)-1)).toNat cO]),(QPU cs has' k l2),(GR ac body),(200,.cells 0 3 [vi many']),(168,.cells 0 3 [.int false .i64
  n']),(120,.cells 0 38 [.slz 1177 0 f'.length cO]),(112,.cells 0 92 [vi moved']),(104,.cells 0 92 [vi turned']),(1176,.rowz true 56 [.int
  .i64,.int .i64] l2.length fun i=>QA.enc (l2.getD i ⟨0,0⟩)),(ze C x),G7,zr,(1177,.rowz true 56 [.int .i64,.int .i64] f'.length fun i=>QA.enc (f'.getD i ⟨0,
  0⟩)),(0,.frz Y5 x.d.ps.n fun i=>QA.enc (x.d.ps.get i)),(1,.frz Y5 x.scans.n fun i=>QA.enc (x.scans.get i)),(HQ x),(Gc C)])) (.leaf (.tup (QDr cs k)) ((QLx C
  ac body cs f' has' k l2 many' moved' n' turned' x)))))))))))))))) (.leaf (.tup [.ptr 0 0 0,.ptr 98 0 0]) ((QPC C ac body f has l many moved n turned x))):=by kernel_rfl
noncomputable abbrev QHO:List AV:=
  [.ptr 296 0 0,.ptr 224 0 0,.ptr 280 0 0,.ptr 264 0 0,.ptr 304 0 0,.slz 384 0 cs.length cO,vi (cs.length:Int),vi (i64.wrap ((k :
  Int)+1))]
abbrev Vh:List Prop:=
  [0=0,0=0,0=0,0=0,0=0,0=0]
abbrev QFU:List Prop:=
  [0=0,0=0,0=0,0=0,0=0,cs.length=cs.length,cO=cO,(cs.length:Int)=(cs.length:Int),i64.wrap ((k:Int)+1)=(k':Int),cs.length ≤
  cs.length,QC 2 cs.length (fun i=>QA.enc (cs.getD i ⟨0,0⟩)) fun i=>QA.enc (cs.getD i ⟨0,0⟩),0=0]
abbrev QNW(l:List QB):List Prop:=
  [cO=cO,l.length≤l.length,QC 2 l.length (fun i=>QA.enc (l.getD i ⟨0,0⟩)) fun i=>QA.enc (l.getD i ⟨0,0⟩),KA (.int true .i64 0) (.int true .i64 0)
  has has (fun i => .int false .i64 (QH l i)) fun i => .int false .i64 (QH l i),LoopState.ready=LoopState.ready,(none:Option Code)=none,Array.mk [12]=Array.mk [(12 :
  Tmp)],ac=ac,body=body,0=0,0=0,(0:Int)=0,Fn.func (62:FuncId)=Fn.func (62:FuncId)]
abbrev QEN(f:List QB)(many:Int)(n:Int):List Prop:=
  [0=0,0=0,0=0,0=0,(0:Int)=0,false=false,0=0,0=0,0=0,0=0,Fn.func (76:FuncId)=Fn.func (76:FuncId),0=0,0=0,many=many,n=n,0=0,
  f.length=f.length,cO=cO,f.length≤f.length,QC 2 f.length (fun i=>QA.enc (f.getD i ⟨0,0⟩)) fun i=>QA.enc (f.getD i ⟨0,0⟩)]
abbrev QFx:List Prop:=
  [x.d.play.length=x.d.play.length,x.d.play.slack=x.d.play.slack,x.d.play.loose=x.d.play.loose,x.d.play.damp.lo=x.d.play.damp.lo,x.d.play.damp.hi=x.d.play.damp.hi,
  x.d.wide=x.d.wide,x.d.high=x.d.high,x.d.turn=x.d.turn,0=0,x.d.ps.n=x.d.ps.n,cO=cO,0=0,x.scans.n=x.scans.n,cO=cO,0=0,x.hang.n =
  x.hang.n,cO=cO,x.lost=x.lost,x.foreign=x.foreign,0=0,C.length=C.length,cO=cO,C.length=C.length,Kd 2 C.length (fun i=>(QJ C
  i).length) (fun i=>(QJ C i).length) (fun i j=>QA.enc ((QJ C i).getD j ⟨0,0⟩)) fun i j=>QA.enc ((QJ C i).getD j ⟨0,0⟩),x.d.ps.n≤x.d.ps.n,QC 28 x.d.ps.n (fun
  i=>QA.enc (x.d.ps.get i)) fun i=>QA.enc (x.d.ps.get i),x.scans.n≤x.scans.n,QC 28 x.scans.n (fun i=>QA.enc (x.scans.get i)) fun i=>QA.enc (x.scans.get i),
  x.hang.n≤x.hang.n,QC 4 x.hang.n (fun i=>QA.enc (x.hang.get i)) fun i=>QA.enc (x.hang.get i)]
theorem QW9(C:List (List QB))(ac body:Code)(cs l:List QB)(has:Int→Bool)(many n:Int)(f:List QB)(moved turned:Int)(k k':Nat):QK 360 (QHO cs k) ((QHz C ac body cs f has l many moved n turned x)) (tdJ x C ac body cs l has many n f moved turned k')=(some (Vh++(QFU cs k k')++[l.length =
  l.length]++(QNW ac body has l)++Vh++(QEN f many n)++[moved=moved,turned=turned,Fn.func 77=Fn.func (77:FuncId)]++Vh++Vh++[Fn.func 62=Fn.func
  (62:FuncId)]++Vh++(QFx C x))):=by kernel_rfl
abbrev QHn:List Prop:=
  [(none:Option Code)=none,Array.mk [12]=Array.mk [(12:Tmp)],ac=ac,body=body,0=0,0=0,(0:Int)=0,Fn.func (62:FuncId)=Fn.func (62:FuncId)]
theorem Qcv(x:QE)(C:List (List QB))(ac body:Code)(cs l:List QB)(has h':Int→Bool)(many n:Int)(f:List QB)(moved turned:Int)(k k':Nat):QK 360 (QHO cs k) ((QQ0 C ac body cs f has k l many moved n turned x)) (tdJ x C ac body cs l h' many n f moved turned k')=(some (Vh++(QFU cs k k') ++
  [(i64.wrap ((↑(l.length+1):Int)-1)).toNat=l.length,cO=cO,l.length≤l.length+1,QC 2 l.length (QY l.length (fun i=>QA.enc (l.getD i ⟨0,
  0⟩)) (QR [(QBa cs k)] 0)) fun i=>QA.enc (l.getD i ⟨0,0⟩),KA (.int true .i64 0) (.int true .i64 0) (QW (cs.getD k ⟨0,0⟩).cell true (QW (cs.getD k ⟨0,0⟩).cell true
  has)) h' (Q9 (cs.getD k ⟨0,0⟩).cell (.int false .i64 (i64.wrap (toI (Bool.rec ((fun x=>(fun i => .int false .i64 (QH l i)) ((fun i=>QA.enc (cs.getD i ⟨0,0⟩)) ((k
  : Int).toNat+0) 0)) ()) ((fun x => .int false .i64 (i64.wrap (toI ((fun i => .int false .i64 (QH l i)) ((fun i=>QA.enc (cs.getD i ⟨0,0⟩)) ((k:Int).toNat+0) 0))
  + 1))) ()) (decide ((fun i=>QA.enc (cs.getD i ⟨0,0⟩)) ((k:Int).toNat+0) 0=(fun i=>QA.enc (cs.getD i ⟨0,0⟩)) ((k:Int).toNat+0) 0)))-1))) (Q9 (cs.getD k ⟨0,
  0⟩).cell (.int false .i64 (i64.wrap (toI (.int false .i64 (QH l (cs.getD k ⟨0,0⟩).cell))+1))) fun i => .int false .i64 (QH l i))) fun i => .int false .i64 (QH l i),
  LoopState.ready=LoopState.ready]++(QHn ac body)++Vh++(QEN f many n)++[moved=moved,turned=turned,Fn.func 77=Fn.func (77:FuncId)]++Vh++Vh ++
  [Fn.func 62=Fn.func (62:FuncId)]++Vh++(QFx C x))):=by kernel_rfl
theorem QY0(C:List (List QB))(ac body:Code)(cs l l2:List QB)(k:Nat)(has' h':Int→Bool)(many' n':Int)(f':List QB)(moved' turned':Int)(k':Nat):QK 360 (QHO cs k) ((QLx C ac body cs f' has' k l2 many' moved' n' turned' x)) (tdJ x C ac body cs l h' many' n' f' moved' turned' k')=(some (Vh++(QFU cs k k') ++
  [(i64.wrap ((l2.length:Int)-1)).toNat=l.length,cO=cO,l.length≤l2.length,QC 2 l.length (fun i=>QA.enc (l2.getD i ⟨0,0⟩)) fun i=>QA.enc
  (l.getD i ⟨0,0⟩),KA (.int true .i64 0) (.int true .i64 0) (QW (cs.getD k ⟨0,0⟩).cell true has') h' (Q9 (cs.getD k ⟨0,0⟩).cell (.int false .i64 (i64.wrap (toI
  (.int false .i64 (QH l2 (cs.getD k ⟨0,0⟩).cell))-1))) fun i => .int false .i64 (QH l2 i)) fun i => .int false .i64 (QH l i),LoopState.ready=LoopState.ready]++(QHn ac
  body)++Vh++[0=0,0=0,0=0,0=0,(0:Int)=0,false=false,0=0,0=0,0=0,0=0,Fn.func (76:FuncId)=Fn.func (76:FuncId),0=0,0=0,many'=many',
  n'=n',0=0,f'.length=f'.length,cO=cO,f'.length≤f'.length,QC 2 f'.length (fun i=>QA.enc (f'.getD i ⟨0,0⟩)) fun i=>QA.enc (f'.getD i ⟨0,0⟩),
  moved'=moved',turned'=turned',Fn.func 77=Fn.func (77:FuncId)]++Vh++Vh++[Fn.func 62=Fn.func (62:FuncId)]++Vh++(QFx C x))):=by kernel_rfl
theorem QSB(C:List (List QB))(ac body:Code)(l:List QB)(has:Int→Bool)(many n:Int)(f:List QB)(moved turned:Int):QK 360 [] ((QPC C ac body f has l many moved n turned x)) (tdE ac body l has many n f moved turned)=(some ([0=0,l.length=l.length]++(QNW ac body has l)++Vh ++
  (QEN f many n)++[moved=moved,turned=turned])):=by kernel_rfl
end Go.Proofs.Ytbpffdkemeoajaa
