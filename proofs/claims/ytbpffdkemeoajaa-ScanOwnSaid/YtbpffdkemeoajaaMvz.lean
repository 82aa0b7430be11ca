/- - -/
import Derived.Test.YtbpffdkemeoajaaMvy
open Go.IntKind (i64)
set_option maxRecDepth 100000
namespace Go.Proofs.Ytbpffdkemeoajaa
open Go.SX
variable (f:Nat→Int)(l:List QB)(f':Nat→Int)(k k':Nat)
def WY:List AV:=[.int false .i64 (f 0),.int false .i64 (f 1),.int false .i64 (f 2),.int false .i64 (f 3),.int false .i64 (f 4),.int false .i64 (f 5),.int false .i64 (f 6),.int false .i64 (f 7),.int false .i64 (f 8),.int false .i64 (f 9),.int false .i64 (f 10),.int false .i64 (f 11),.int false .i64 (f 12)]
def Ga:List AV:=[.int true .i64 0,.int true .i64 0,.int true .i64 0,.int true .i64 0,.int true .i64 0,.int true .i64 0,.int true .i64 0,.int true .i64 0,.int true .i64 0,.int true .i64 0,.int true .i64 0,.int true .i64 0,.int true .i64 0]
def pmB:List (Nat×Blk):=[(200,.frz [.int .i64,.int .i64] l.length fun i=>QA.enc (l.getD i ⟨0,0⟩))]
def pmJ(f:Nat→Int)(k:Nat):JSt:=⟨33,[(2,.ptr 208 0 0),(4,.ptr 216 0 0),(8,.slz 200 0 l.length (.of 0)),(9,.int false .i64 l.length),(10,.int false .i64 k)],[(216,.cells 1 95 Ga),(208,.cells 1 95 (WY f))]++pmB l,248⟩
def pmE:JSt:=⟨33,[(2,.ptr 208 0 0),(4,.ptr 216 0 0)],[(216,.cells 1 95 Ga),(208,.cells 1 95 (WY f))],248⟩
def QHF:Ex→List Nat
 | .normal=>[2,4,8,9,10]
 | .exit _=>[2,4]
 | .ret=>[]
noncomputable abbrev JE(l:List QB):List AV:=
  [.nilp,.ptr 33 0 0,.ptr 208 0 0,.ptr 216 0 0,.slz 200 0 l.length cO,vi (l.length:Int),vi (i64.wrap ((k:Int)+1))]
noncomputable abbrev V4:Nat×Blk:=
  (216,.cells 1 95 [vj 0,vj 0,vj 0,vj 0,vj 0,vj 0,vj 0,vj 0,vj 0,
  .int true .i64 0,vj 0,vj 0,vj 0])
noncomputable abbrev XF:Nat×Blk:=
  (200,.frz [.int .i64,.int .i64] l.length fun i=>QA.enc (l.getD i ⟨0,0⟩))
noncomputable abbrev XT(l:List QB):List (Nat×Blk):=
  [(208,.cells 1 95 [vi (f 0),vi (f 1),vi (f 2),vi (f 3),vi (f 4),vi (f 5),vi (f 6),
  .int false .i64 (f 7),vi (f 8),vi (f 9),vi (f 10),vi (f 11),vi (i64.wrap (↑(BitVec.ofInt 64 (f 12) |||
  BitVec.ofInt 64 (i64.wrap ((1:Int)*2^min k 64))).toNat:Int))]),V4,(XF l)]
noncomputable abbrev QMQ(l:List QB):List (Nat×Blk):=
  [(208,.cells 1 95 [vi (i64.wrap (↑(BitVec.ofInt 64 (f 0) ||| BitVec.ofInt 64 (i64.wrap ((1:Int)*2^min (l.getD k ⟨0,0⟩).cell.toNat 64))).toNat :
  Int)),vi (f 1),vi (f 2),vi (f 3),vi (f 4),vi (f 5),vi (f 6),vi (f 7),.int false
  .i64 (f 8),vi (f 9),vi (f 10),vi (f 11),vi (f 12)]),V4,(XF l)]
noncomputable abbrev QLV(l:List QB):List (Nat×Blk):=
  [(208,.cells 1 95 [vi (f 0),vi (i64.wrap (↑(BitVec.ofInt 64 (f 1) ||| BitVec.ofInt 64 (i64.wrap ((1:Int)*2^min (l.getD k ⟨0,
  0⟩).cell.toNat 64))).toNat:Int)),vi (f 2),vi (f 3),vi (f 4),vi (f 5),vi (f 6),vi (f 7),.int
  false .i64 (f 8),vi (f 9),vi (f 10),vi (f 11),vi (f 12)]),V4,(XF l)]
noncomputable abbrev QMg(l:List QB):List (Nat×Blk):=
  [(208,.cells 1 95 [vi (f 0),vi (f 1),vi (i64.wrap (↑(BitVec.ofInt 64 (f 2) ||| BitVec.ofInt 64 (i64.wrap ((1:Int)*2 ^
  min (l.getD k ⟨0,0⟩).cell.toNat 64))).toNat:Int)),vi (f 3),vi (f 4),vi (f 5),vi (f 6),vi (f 7),.int false
  .i64 (f 8),vi (f 9),vi (f 10),vi (f 11),vi (f 12)]),V4,(XF l)]
noncomputable abbrev QIl(l:List QB):List (Nat×Blk):=
  [(208,.cells 1 95 [vi (f 0),vi (f 1),vi (f 2),vi (i64.wrap (↑(BitVec.ofInt 64 (f 3) ||| BitVec.ofInt 64
  (i64.wrap ((1:Int)*2^min (l.getD k ⟨0,0⟩).cell.toNat 64))).toNat:Int)),vi (f 4),vi (f 5),vi (f 6),vi (f 7),
  .int false .i64 (f 8),vi (f 9),vi (f 10),vi (f 11),vi (f 12)]),V4,(XF l)]
noncomputable abbrev QEt(l:List QB):List (Nat×Blk):=
  [(208,.cells 1 95 [vi (f 0),vi (f 1),vi (f 2),vi (f 3),vi (i64.wrap (↑(BitVec.ofInt 64 (f 4) |||
  BitVec.ofInt 64 (i64.wrap ((1:Int)*2^min (l.getD k ⟨0,0⟩).cell.toNat 64))).toNat:Int)),vi (f 5),vi (f 6),vi (f 7),.int
  false .i64 (f 8),vi (f 9),vi (f 10),vi (f 11),vi (f 12)]),V4,(XF l)]
noncomputable abbrev QK3(l:List QB):List (Nat×Blk):=
  [(208,.cells 1 95 [vi (f 0),vi (f 1),vi (f 2),vi (f 3),vi (f 4),vi (i64.wrap
  (↑(BitVec.ofInt 64 (f 5) ||| BitVec.ofInt 64 (i64.wrap ((1:Int)*2^min (l.getD k ⟨0,0⟩).cell.toNat 64))).toNat:Int)),vi (f 6),vi (f 7),
  .int false .i64 (f 8),vi (f 9),vi (f 10),vi (f 11),vi (f 12)]),V4,(XF l)]
noncomputable abbrev QFH(l:List QB):List (Nat×Blk):=
  [(208,.cells 1 95 [vi (f 0),vi (f 1),vi (f 2),vi (f 3),vi (f 4),vi (f 5),.int false .i64
  (i64.wrap (↑(BitVec.ofInt 64 (f 6) ||| BitVec.ofInt 64 (i64.wrap ((1:Int)*2^min (l.getD k ⟨0,0⟩).cell.toNat 64))).toNat:Int)),vi (f 7),.int
  false .i64 (f 8),vi (f 9),vi (f 10),vi (f 11),vi (f 12)]),V4,(XF l)]
noncomputable abbrev QL0(l:List QB):List (Nat×Blk):=
  [(208,.cells 1 95 [vi (f 0),vi (f 1),vi (f 2),vi (f 3),vi (f 4),vi (f 5),vi (f 6),
  .int false .i64 (i64.wrap (↑(BitVec.ofInt 64 (f 7) ||| BitVec.ofInt 64 (i64.wrap ((1:Int)*2^min (l.getD k ⟨0,0⟩).cell.toNat 64))).toNat:Int)),.int false
  .i64 (f 8),vi (f 9),vi (f 10),vi (f 11),vi (f 12)]),V4,(XF l)]
noncomputable abbrev QJ5(l:List QB):List (Nat×Blk):=
  [(208,.cells 1 95 [vi (f 0),vi (f 1),vi (f 2),vi (f 3),vi (f 4),vi (f 5),vi (f 6),
  .int false .i64 (f 7),vi (i64.wrap (↑(BitVec.ofInt 64 (f 8) ||| BitVec.ofInt 64 (i64.wrap ((1:Int)*2^min (l.getD k ⟨0,0⟩).cell.toNat 64))).toNat
  : Int)),vi (f 9),vi (f 10),vi (f 11),vi (f 12)]),V4,(XF l)]
noncomputable abbrev QGn(l:List QB):List (Nat×Blk):=
  [(208,.cells 1 95 [vi (f 0),vi (f 1),vi (f 2),vi (f 3),vi (f 4),vi (f 5),vi (f 6),
  .int false .i64 (f 7),vi (f 8),vi (i64.wrap (↑(BitVec.ofInt 64 (f 9) ||| BitVec.ofInt 64 (i64.wrap ((1:Int)*2^min (l.getD k ⟨0,
  0⟩).cell.toNat 64))).toNat:Int)),vi (f 10),vi (f 11),vi (f 12)]),V4,(XF l)]
noncomputable abbrev QGh(l:List QB):Int:=
  (↑(BitVec.ofInt 64 (f 10) ||| BitVec.ofInt 64 (i64.wrap ((1:Int)*2^min (l.getD k ⟨0,0⟩).cell.toNat 64))).toNat:Int)
noncomputable abbrev QL6(l:List QB):List (Nat×Blk):=
  [(208,.cells 1 95 [vi (f 0),vi (f 1),vi (f 2),vi (f 3),vi (f 4),vi (f 5),vi (f 6),
  .int false .i64 (f 7),vi (f 8),vi (f 9),vi (i64.wrap (QGh f k l)),vi (f 11),vi (f 12)]),V4,(XF
  l)]
noncomputable abbrev QJM(l:List QB):Int:=
  (↑(BitVec.ofInt 64 (f 11) ||| BitVec.ofInt 64 (i64.wrap ((1:Int)*2^min (l.getD k ⟨0,0⟩).cell.toNat 64))).toNat:Int)
noncomputable abbrev QE0(l:List QB):List (Nat×Blk):=
  [(208,.cells 1 95 [vi (f 0),vi (f 1),vi (f 2),vi (f 3),vi (f 4),vi (f 5),vi (f 6),
  .int false .i64 (f 7),vi (f 8),vi (f 9),vi (f 10),vi (i64.wrap (QJM f k l)),vi (f 12)]),V4,(XF
  l)]
noncomputable abbrev QMy:List (Nat×Blk):=
  [(208,.cells 1 95 [vi (f 0),vi (f 1),vi (f 2),vi (f 3),vi (f 4),vi (f 5),vi (f 6),
  .int false .i64 (f 7),vi (f 8),vi (f 9),vi (f 10),vi (f 11),vi (f 12)]),V4]
theorem QVp(f:Nat→Int)(k:Nat)(g:Nat→Value):exec (mkF Try.prog Q8) (hnd (mkF Try.prog Q8) 3) (Qa Try.f51 0) (JSt.inst (pmJ l f k) g) (KL [] QHF) = .br (decide ((k:Int)<(l.length:Int))) (.need (decide
  ((0:Int)≤(k:Int)∧(k:Int)<(l.length:Int))&&decide (l.length≤l.length)) (.need (decide (k<l.length)) (.need (decide ((0:Int)≤(k:Int)∧(k:Int)<12)) (.br
  (decide ((k:Int)=0)) (.br ((l.getD k ⟨0,0⟩).cell == -2) (.need (decide ((0:Int)≤(k:Int))) (.leaf (.tup (JE k l)) ((XT f k l)))) (.need (decide ((0:Int)≤(l.getD k
  ⟨0,0⟩).cell)) (.leaf (.tup (JE k l)) ((QMQ f k l))))) (.br (decide ((k:Int)=1)) (.br ((l.getD k ⟨0,0⟩).cell == -2) (.need (decide ((0:Int)≤(k:Int))) (.leaf (.tup
  (JE k l)) ((XT f k l)))) (.need (decide ((0:Int)≤(l.getD k ⟨0,0⟩).cell)) (.leaf (.tup (JE k l)) ((QLV f k l))))) (.br (decide ((k:Int)=2)) (.br ((l.getD k ⟨0,
  0⟩).cell == -2) (.need (decide ((0:Int)≤(k:Int))) (.leaf (.tup (JE k l)) ((XT f k l)))) (.need (decide ((0:Int)≤(l.getD k ⟨0,0⟩).cell)) (.leaf (.tup (JE k l))
  ((QMg f k l))))) (.br (decide ((k:Int)=3)) (.br ((l.getD k ⟨0,0⟩).cell == -2) (.need (decide ((0:Int)≤(k:Int))) (.leaf (.tup (JE k l)) ((XT f k l)))) (.need (decide
  ((0:Int)≤(l.getD k ⟨0,0⟩).cell)) (.leaf (.tup (JE k l)) ((QIl f k l))))) (.br (decide ((k:Int)=4)) (.br ((l.getD k ⟨0,0⟩).cell == -2) (.need (decide ((0:Int)≤(k :
  Int))) (.leaf (.tup (JE k l)) ((XT f k l)))) (.need (decide ((0:Int)≤(l.getD k ⟨0,0⟩).cell)) (.leaf (.tup (JE k l)) ((QEt f k l))))) (.br (decide ((k:Int)=5)) (.br
  ((l.getD k ⟨0,0⟩).cell == -2) (.need (decide ((0:Int)≤(k:Int))) (.leaf (.tup (JE k l)) ((XT f k l)))) (.need (decide ((0:Int)≤(l.getD k ⟨0,0⟩).cell)) (.leaf (.tup
  (JE k l)) ((QK3 f k l))))) (.br (decide ((k:Int)=6)) (.br ((l.getD k ⟨0,0⟩).cell == -2) (.need (decide ((0:Int)≤(k:Int))) (.leaf (.tup (JE k l)) ((XT f k l))))
  (.need (decide ((0:Int)≤(l.getD k ⟨0,0⟩).cell)) (.leaf (.tup (JE k l)) ((QFH f k l))))) (.br (decide ((k:Int)=7)) (.br ((l.getD k ⟨0,0⟩).cell == -2) (.need (decide ((0
  : Int)≤(k:Int))) (.leaf (.tup (JE k l)) ((XT f k l)))) (.need (decide ((0:Int)≤(l.getD k ⟨0,0⟩).cell)) (.leaf (.tup (JE k l)) ((QL0 f k l))))) (.br (decide ((k :
  Int)=8)) (.br ((l.getD k ⟨0,0⟩).cell == -2) (.need (decide ((0:Int)≤(k:Int))) (.leaf (.tup (JE k l)) ((XT f k l)))) (.need (decide ((0:Int)≤(l.getD k ⟨0,0⟩).cell))
  (.leaf (.tup (JE k l)) ((QJ5 f k l))))) (.br (decide ((k:Int)=9)) (.br ((l.getD k ⟨0,0⟩).cell == -2) (.need (decide ((0:Int)≤(k:Int))) (.leaf (.tup (JE k l)) ((XT
  f k l)))) (.need (decide ((0:Int)≤(l.getD k ⟨0,0⟩).cell)) (.leaf (.tup (JE k l)) ((QGn f k l))))) (.br (decide ((k:Int)=10)) (.br ((l.getD k ⟨0,0⟩).cell == -2) (.need
  (decide ((0:Int)≤(k:Int))) (.leaf (.tup (JE k l)) ((XT f k l)))) (.need (decide ((0:Int)≤(l.getD k ⟨0,0⟩).cell)) (.leaf (.tup (JE k l)) ((QL6 f k l))))) (.br
  ((l.getD k ⟨0,0⟩).cell == -2) (.need (decide ((0:Int)≤(k:Int))) (.leaf (.tup (JE k l)) ((XT f k l)))) (.need (decide ((0:Int)≤(l.getD k ⟨0,0⟩).cell)) (.leaf (.tup
  (JE k l)) ((QE0 f k l))))))))))))))))))) (.leaf (.tup [.ptr 0 0 0,.ptr 33 0 0,.ptr 208 0 0,.ptr 216 0 0]) ((QMy f))):=by kernel_rfl
noncomputable abbrev XJ(l:List QB):List AV:=
  [.ptr 208 0 0,.ptr 216 0 0,.slz 200 0 l.length cO,vi (l.length:Int),vi (i64.wrap ((k:Int)+1))]
abbrev XU(l:List QB):List Prop:=
  [0=0,0=0,0=0,0=0,l.length=l.length,cO=cO,(l.length:Int)=(l.length:Int),i64.wrap ((k:Int)+1)=(k':Int)]
abbrev Vp:List Prop:=
  [(0:Int)=0,(0:Int)=0,(0:Int)=0,(0:Int)=0,(0:Int)=0,(0:Int)=0,(0:Int)=0,(0:Int)=0]
abbrev XA:List Prop:=
  [(0:Int)=0,(0:Int)=0,(0:Int)=0,(0:Int)=0]
abbrev WB:List Prop:=
  [(0:Int)=0,f 0=f' 0,f 1=f' 1,f 2=f' 2,f 3=f' 3,f 4=f' 4,f 5=f' 5,f 6=f' 6]
abbrev QA9:List Prop:=
  [f 7=f' 7,f 8=f' 8,f 9=f' 9,f 10=f' 10]
theorem Xr(f f':Nat→Int)(k k':Nat):QK 208 (XJ k l) ((XT f k l)) (pmJ l f' k')=(some ([0=0]++(XU k k' l)++Vp++XA++(WB f f')++(QA9 f f')++[f 11=f' 11,i64.wrap
  (↑(BitVec.ofInt 64 (f 12) ||| BitVec.ofInt 64 (i64.wrap ((1:Int)*2^min k 64))).toNat:Int)=f' 12,l.length≤l.length,QD 2 l.length (fun i=>QA.enc (l.getD
  i ⟨0,0⟩)) fun i=>QA.enc (l.getD i ⟨0,0⟩)])):=by kernel_rfl
abbrev jv:List Prop:=
  [f 5=f' 5,f 6=f' 6,f 7=f' 7,f 8=f' 8,f 9=f' 9]
abbrev YD(l:List QB):List Prop:=
  [f 10=f' 10,f 11=f' 11,f 12=f' 12,l.length≤l.length,QD 2 l.length (fun i=>QA.enc (l.getD i ⟨0,0⟩)) fun i=>QA.enc (l.getD i ⟨0,0⟩)]
theorem QPL(f f':Nat→Int)(k k':Nat):QK 208 (XJ k l) ((QMQ f k l)) (pmJ l f' k')=(some ([0=0]++(XU k k' l)++Vp++XA++[(0:Int)=0,i64.wrap (↑(BitVec.ofInt 64 (f 0) ||| BitVec.ofInt
  64 (i64.wrap ((1:Int)*2^min (l.getD k ⟨0,0⟩).cell.toNat 64))).toNat:Int)=f' 0,f 1=f' 1,f 2=f' 2,f 3=f' 3,f 4=f' 4]++(jv f f')++(YD f f' l))):=by kernel_rfl
theorem QNd(f f':Nat→Int)(k k':Nat):QK 208 (XJ k l) ((QLV f k l)) (pmJ l f' k')=(some ([0=0]++(XU k k' l)++Vp++XA++[(0:Int)=0,f 0=f' 0,i64.wrap (↑(BitVec.ofInt 64 (f 1) |||
  BitVec.ofInt 64 (i64.wrap ((1:Int)*2^min (l.getD k ⟨0,0⟩).cell.toNat 64))).toNat:Int)=f' 1,f 2=f' 2,f 3=f' 3,f 4=f' 4]++(jv f f')++(YD f f'
  l))):=by kernel_rfl
theorem QOd(f f':Nat→Int)(k k':Nat):QK 208 (XJ k l) ((QMg f k l)) (pmJ l f' k')=(some ([0=0]++(XU k k' l)++Vp++XA++[(0:Int)=0,f 0=f' 0,f 1=f' 1,i64.wrap (↑(BitVec.ofInt 64
  (f 2) ||| BitVec.ofInt 64 (i64.wrap ((1:Int)*2^min (l.getD k ⟨0,0⟩).cell.toNat 64))).toNat:Int)=f' 2,f 3=f' 3,f 4=f' 4]++(jv f f')++(YD f f' l))):=by kernel_rfl
abbrev HC:List Prop:=
  [(0:Int)=0,f 0=f' 0,f 1=f' 1,f 2=f' 2]
theorem QOU(f f':Nat→Int)(k k':Nat):QK 208 (XJ k l) ((QIl f k l)) (pmJ l f' k')=(some ([0=0]++(XU k k' l)++Vp++XA++(HC f f')++[i64.wrap (↑(BitVec.ofInt 64 (f 3) ||| BitVec.ofInt
  64 (i64.wrap ((1:Int)*2^min (l.getD k ⟨0,0⟩).cell.toNat 64))).toNat:Int)=f' 3,f 4=f' 4]++(jv f f')++(YD f f' l))):=by kernel_rfl
theorem QTn(f f':Nat→Int)(k k':Nat):QK 208 (XJ k l) ((QEt f k l)) (pmJ l f' k')=(some ([0=0]++(XU k k' l)++Vp++XA++(HC f f')++[f 3=f' 3,i64.wrap (↑(BitVec.ofInt 64 (f 4) |||
  BitVec.ofInt 64 (i64.wrap ((1:Int)*2^min (l.getD k ⟨0,0⟩).cell.toNat 64))).toNat:Int)=f' 4]++(jv f f')++(YD f f' l))):=by kernel_rfl
theorem QO2(f f':Nat→Int)(k k':Nat):QK 208 (XJ k l) ((QK3 f k l)) (pmJ l f' k')=(some ([0=0]++(XU k k' l)++Vp++XA++(HC f f')++[f 3=f' 3,f 4=f' 4,i64.wrap (↑(BitVec.ofInt
  64 (f 5) ||| BitVec.ofInt 64 (i64.wrap ((1:Int)*2^min (l.getD k ⟨0,0⟩).cell.toNat 64))).toNat:Int)=f' 5,f 6=f' 6,f 7=f' 7,f 8=f' 8,f 9=f' 9]++(YD
  f f' l))):=by kernel_rfl
theorem QU2(f f':Nat→Int)(k k':Nat):QK 208 (XJ k l) ((QFH f k l)) (pmJ l f' k')=(some ([0=0]++(XU k k' l)++Vp++XA++(HC f f')++[f 3=f' 3,f 4=f' 4,f 5=f' 5,i64.wrap
  (↑(BitVec.ofInt 64 (f 6) ||| BitVec.ofInt 64 (i64.wrap ((1:Int)*2^min (l.getD k ⟨0,0⟩).cell.toNat 64))).toNat:Int)=f' 6,f 7=f' 7,f 8=f' 8,f 9=f' 9] ++
  (YD f f' l))):=by kernel_rfl
theorem QNP(f f':Nat→Int)(k k':Nat):QK 208 (XJ k l) ((QL0 f k l)) (pmJ l f' k')=(some ([0=0]++(XU k k' l)++Vp++XA++(WB f f')++[i64.wrap (↑(BitVec.ofInt 64 (f 7) |||
  BitVec.ofInt 64 (i64.wrap ((1:Int)*2^min (l.getD k ⟨0,0⟩).cell.toNat 64))).toNat:Int)=f' 7,f 8=f' 8,f 9=f' 9]++(YD f f' l))):=by kernel_rfl
theorem QQ6(f f':Nat→Int)(k k':Nat):QK 208 (XJ k l) ((QJ5 f k l)) (pmJ l f' k')=(some ([0=0]++(XU k k' l)++Vp++XA++(WB f f')++[f 7=f' 7,i64.wrap (↑(BitVec.ofInt 64 (f 8) |||
  BitVec.ofInt 64 (i64.wrap ((1:Int)*2^min (l.getD k ⟨0,0⟩).cell.toNat 64))).toNat:Int)=f' 8,f 9=f' 9]++(YD f f' l))):=by kernel_rfl
theorem QTY(f f':Nat→Int)(k k':Nat):QK 208 (XJ k l) ((QGn f k l)) (pmJ l f' k')=(some ([0=0]++(XU k k' l)++Vp++XA++(WB f f')++[f 7=f' 7,f 8=f' 8,i64.wrap (↑(BitVec.ofInt
  64 (f 9) ||| BitVec.ofInt 64 (i64.wrap ((1:Int)*2^min (l.getD k ⟨0,0⟩).cell.toNat 64))).toNat:Int)=f' 9]++(YD f f' l))):=by kernel_rfl
theorem QPf(f f':Nat→Int)(k k':Nat):QK 208 (XJ k l) ((QL6 f k l)) (pmJ l f' k')=(some ([0=0]++(XU k k' l)++Vp++XA++(WB f f')++[f 7=f' 7,f 8=f' 8,f 9=f' 9,i64.wrap
  (QGh f k l)=f' 10,f 11=f' 11,f 12=f' 12,l.length≤l.length,QD 2 l.length (fun i=>QA.enc (l.getD i ⟨0,0⟩)) fun i=>QA.enc (l.getD i ⟨0,0⟩)])):=by kernel_rfl
theorem QQW(f f':Nat→Int)(k k':Nat):QK 208 (XJ k l) ((QE0 f k l)) (pmJ l f' k')=(some ([0=0]++(XU k k' l)++Vp++XA++(WB f f')++(QA9 f f')++[i64.wrap (QJM f k l)=f' 11,f
  12=f' 12,l.length≤l.length,QD 2 l.length (fun i=>QA.enc (l.getD i ⟨0,0⟩)) fun i=>QA.enc (l.getD i ⟨0,0⟩)])):=by kernel_rfl
theorem QSC :QK 208 [.ptr 208 0 0,.ptr 216 0 0] ((QMy f)) (pmE f')=(some ([0=0,0=0,0=0,0=0]++Vp++XA++(WB f f')++(QA9 f f')++[f 11=f' 11,f 12=f' 12])):=by kernel_rfl
def plS(s:QB)(j:Nat):Int:=match s.cell == -2 with
 | true=>(match Nat.beq j 12 with|true=>Hi (f 12) k|false=>f j)
 | false=>(match Nat.beq j k with|true=>Hi (f k) s.cell|false=>f j)
def plL(l:List QB)(f:Nat→Int):Nat→Nat→Int
 | 0=>f
 | k+1=>plS (plL l f k) k (l.getD k ⟨0,0⟩)
set_option maxHeartbeats 1600000 in
theorem QVu(f:Nat→Int)(hl12:l.length≤12)(hc:QAn l):JW (fun k=>pmJ l (plL l f k) k) (fun k=>k≤l.length) (fun k=>l.length-k) (fun _ e J=>e = .exit 0∧J=pmE (plL l f l.length)) 208 QHF [] (mkF Try.prog Q8) (fun _=>hnd (mkF Try.prog Q8) 3) (Qa Try.f51 0):=by
 refine⟨fun k g hk=>KB (QVp l (plL l f k) k g) ?_⟩;have hl:l.length≤1000:=by omega
 refine QI (fun h => ?_) (fun h => ?_)
 ·have h:k<l.length:=by have:=qdt h;omega
  have hw:=JO h hl;have hcc:=hc.s k h;refine QF (by simp;omega) (QF (by simp;omega) (QF (by simp;omega) ?_))
  refine QI (fun q => ?_) (fun q => ?_)
  ·have q:=qdt q;have hk0:k=0:=by omega
   clear hw;subst hk0;have hw:=JO h hl
   refine QI (fun hc => QF (by simp) ?_) (fun hc => QF (decide_eq_true (by have : ¬ (l.getD 0 ⟨0,0⟩).cell = -2 := by simpa using hc
                                                                           omega)) ?_)
   ·refine⟨1,h,by show l.length-1<l.length-0;omega,fun _ _ h=>h,rfl,rfl,_,Xr l (plL l f 0) (plL l f 1) 0 1,?_⟩
    have hs:∀ j,plL l f 1 j=plS (plL l f 0) 0 (l.getD 0 ⟨0,0⟩) j:=fun _=>rfl;generalize plL l f 1=f' at hs ⊢;generalize plL l f 0=f0 at hs ⊢
    repeat' first|with_reducible refine QO ?_ ?_|exact trivial|with_reducible rfl|exact qlr _|exact qRr|exact hw|(rw[hs];unfold plS;first|(rw[hc];done)|(rw[hc];rfl))|refine And.intro ?_ ?_
   ·refine⟨1,h,by show l.length-1<l.length-0;omega,fun _ _ h=>h,rfl,rfl,_,QPL l (plL l f 0) (plL l f 1) 0 1,?_⟩
    have hs:∀ j,plL l f 1 j=plS (plL l f 0) 0 (l.getD 0 ⟨0,0⟩) j:=fun _=>rfl;generalize plL l f 1=f' at hs ⊢;generalize plL l f 0=f0 at hs ⊢
    repeat' first|with_reducible refine QO ?_ ?_|exact trivial|with_reducible rfl|exact qlr _|exact qRr|exact hw|(rw[hs];unfold plS;first|(rw[hc];done)|(rw[hc];rfl))|refine And.intro ?_ ?_
  have q0:¬ (k:Int)=0:=of_decide_eq_false q;clear q;refine QI (fun q => ?_) (fun q => ?_)
  ·have q:=qdt q;have hk1:k=1:=by omega
   clear hw;subst hk1;have hw:=JO h hl
   refine QI (fun hc => QF (by simp) ?_) (fun hc => QF (decide_eq_true (by have : ¬ (l.getD 1 ⟨0,0⟩).cell = -2 := by simpa using hc
                                                                           omega)) ?_)
   ·refine⟨2,h,by show l.length-2<l.length-1;omega,fun _ _ h=>h,rfl,rfl,_,Xr l (plL l f 1) (plL l f 2) 1 2,?_⟩
    have hs:∀ j,plL l f 2 j=plS (plL l f 1) 1 (l.getD 1 ⟨0,0⟩) j:=fun _=>rfl;generalize plL l f 2=f' at hs ⊢;generalize plL l f 1=f0 at hs ⊢
    repeat' first|with_reducible refine QO ?_ ?_|exact trivial|with_reducible rfl|exact qlr _|exact qRr|exact hw|(rw[hs];unfold plS;first|(rw[hc];done)|(rw[hc];rfl))|refine And.intro ?_ ?_
   ·refine⟨2,h,by show l.length-2<l.length-1;omega,fun _ _ h=>h,rfl,rfl,_,QNd l (plL l f 1) (plL l f 2) 1 2,?_⟩
    have hs:∀ j,plL l f 2 j=plS (plL l f 1) 1 (l.getD 1 ⟨0,0⟩) j:=fun _=>rfl;generalize plL l f 2=f' at hs ⊢;generalize plL l f 1=f0 at hs ⊢
    repeat' first|with_reducible refine QO ?_ ?_|exact trivial|with_reducible rfl|exact qlr _|exact qRr|exact hw|(rw[hs];unfold plS;first|(rw[hc];done)|(rw[hc];rfl))|refine And.intro ?_ ?_
  have q1:¬ (k:Int)=1:=of_decide_eq_false q;clear q;refine QI (fun q => ?_) (fun q => ?_)
  ·have q:=qdt q;have hk2:k=2:=by omega
   clear hw;subst hk2;have hw:=JO h hl
   refine QI (fun hc => QF (by simp) ?_) (fun hc => QF (decide_eq_true (by have : ¬ (l.getD 2 ⟨0,0⟩).cell = -2 := by simpa using hc
                                                                           omega)) ?_)
   ·refine⟨3,h,by show l.length-3<l.length-2;omega,fun _ _ h=>h,rfl,rfl,_,Xr l (plL l f 2) (plL l f 3) 2 3,?_⟩
    have hs:∀ j,plL l f 3 j=plS (plL l f 2) 2 (l.getD 2 ⟨0,0⟩) j:=fun _=>rfl;generalize plL l f 3=f' at hs ⊢;generalize plL l f 2=f0 at hs ⊢
    repeat' first|with_reducible refine QO ?_ ?_|exact trivial|with_reducible rfl|exact qlr _|exact qRr|exact hw|(rw[hs];unfold plS;first|(rw[hc];done)|(rw[hc];rfl))|refine And.intro ?_ ?_
   ·refine⟨3,h,by show l.length-3<l.length-2;omega,fun _ _ h=>h,rfl,rfl,_,QOd l (plL l f 2) (plL l f 3) 2 3,?_⟩
    have hs:∀ j,plL l f 3 j=plS (plL l f 2) 2 (l.getD 2 ⟨0,0⟩) j:=fun _=>rfl;generalize plL l f 3=f' at hs ⊢;generalize plL l f 2=f0 at hs ⊢
    repeat' first|with_reducible refine QO ?_ ?_|exact trivial|with_reducible rfl|exact qlr _|exact qRr|exact hw|(rw[hs];unfold plS;first|(rw[hc];done)|(rw[hc];rfl))|refine And.intro ?_ ?_
  have q2:¬ (k:Int)=2:=of_decide_eq_false q;clear q;refine QI (fun q => ?_) (fun q => ?_)
  ·have q:=qdt q;have hk3:k=3:=by omega
   clear hw;subst hk3;have hw:=JO h hl
   refine QI (fun hc => QF (by simp) ?_) (fun hc => QF (decide_eq_true (by have : ¬ (l.getD 3 ⟨0,0⟩).cell = -2 := by simpa using hc
                                                                           omega)) ?_)
   ·refine⟨4,h,by show l.length-4<l.length-3;omega,fun _ _ h=>h,rfl,rfl,_,Xr l (plL l f 3) (plL l f 4) 3 4,?_⟩
    have hs:∀ j,plL l f 4 j=plS (plL l f 3) 3 (l.getD 3 ⟨0,0⟩) j:=fun _=>rfl;generalize plL l f 4=f' at hs ⊢;generalize plL l f 3=f0 at hs ⊢
    repeat' first|with_reducible refine QO ?_ ?_|exact trivial|with_reducible rfl|exact qlr _|exact qRr|exact hw|(rw[hs];unfold plS;first|(rw[hc];done)|(rw[hc];rfl))|refine And.intro ?_ ?_
   ·refine⟨4,h,by show l.length-4<l.length-3;omega,fun _ _ h=>h,rfl,rfl,_,QOU l (plL l f 3) (plL l f 4) 3 4,?_⟩
    have hs:∀ j,plL l f 4 j=plS (plL l f 3) 3 (l.getD 3 ⟨0,0⟩) j:=fun _=>rfl;generalize plL l f 4=f' at hs ⊢;generalize plL l f 3=f0 at hs ⊢
    repeat' first|with_reducible refine QO ?_ ?_|exact trivial|with_reducible rfl|exact qlr _|exact qRr|exact hw|(rw[hs];unfold plS;first|(rw[hc];done)|(rw[hc];rfl))|refine And.intro ?_ ?_
  have q3:¬ (k:Int)=3:=of_decide_eq_false q;clear q;refine QI (fun q => ?_) (fun q => ?_)
  ·have q:=qdt q;have hk4:k=4:=by omega
   clear hw;subst hk4;have hw:=JO h hl
   refine QI (fun hc => QF (by simp) ?_) (fun hc => QF (decide_eq_true (by have : ¬ (l.getD 4 ⟨0,0⟩).cell = -2 := by simpa using hc
                                                                           omega)) ?_)
   ·refine⟨5,h,by show l.length-5<l.length-4;omega,fun _ _ h=>h,rfl,rfl,_,Xr l (plL l f 4) (plL l f 5) 4 5,?_⟩
    have hs:∀ j,plL l f 5 j=plS (plL l f 4) 4 (l.getD 4 ⟨0,0⟩) j:=fun _=>rfl;generalize plL l f 5=f' at hs ⊢;generalize plL l f 4=f0 at hs ⊢
    repeat' first|with_reducible refine QO ?_ ?_|exact trivial|with_reducible rfl|exact qlr _|exact qRr|exact hw|(rw[hs];unfold plS;first|(rw[hc];done)|(rw[hc];rfl))|refine And.intro ?_ ?_
   ·refine⟨5,h,by show l.length-5<l.length-4;omega,fun _ _ h=>h,rfl,rfl,_,QTn l (plL l f 4) (plL l f 5) 4 5,?_⟩
    have hs:∀ j,plL l f 5 j=plS (plL l f 4) 4 (l.getD 4 ⟨0,0⟩) j:=fun _=>rfl;generalize plL l f 5=f' at hs ⊢;generalize plL l f 4=f0 at hs ⊢
    repeat' first|with_reducible refine QO ?_ ?_|exact trivial|with_reducible rfl|exact qlr _|exact qRr|exact hw|(rw[hs];unfold plS;first|(rw[hc];done)|(rw[hc];rfl))|refine And.intro ?_ ?_
  have q4:¬ (k:Int)=4:=of_decide_eq_false q;clear q;refine QI (fun q => ?_) (fun q => ?_)
  ·have q:=qdt q;have hk5:k=5:=by omega
   clear hw;subst hk5;have hw:=JO h hl
   refine QI (fun hc => QF (by simp) ?_) (fun hc => QF (decide_eq_true (by have : ¬ (l.getD 5 ⟨0,0⟩).cell = -2 := by simpa using hc
                                                                           omega)) ?_)
   ·refine⟨6,h,by show l.length-6<l.length-5;omega,fun _ _ h=>h,rfl,rfl,_,Xr l (plL l f 5) (plL l f 6) 5 6,?_⟩
    have hs:∀ j,plL l f 6 j=plS (plL l f 5) 5 (l.getD 5 ⟨0,0⟩) j:=fun _=>rfl;generalize plL l f 6=f' at hs ⊢;generalize plL l f 5=f0 at hs ⊢
    repeat' first|with_reducible refine QO ?_ ?_|exact trivial|with_reducible rfl|exact qlr _|exact qRr|exact hw|(rw[hs];unfold plS;first|(rw[hc];done)|(rw[hc];rfl))|refine And.intro ?_ ?_
   ·refine⟨6,h,by show l.length-6<l.length-5;omega,fun _ _ h=>h,rfl,rfl,_,QO2 l (plL l f 5) (plL l f 6) 5 6,?_⟩
    have hs:∀ j,plL l f 6 j=plS (plL l f 5) 5 (l.getD 5 ⟨0,0⟩) j:=fun _=>rfl;generalize plL l f 6=f' at hs ⊢;generalize plL l f 5=f0 at hs ⊢
    repeat' first|with_reducible refine QO ?_ ?_|exact trivial|with_reducible rfl|exact qlr _|exact qRr|exact hw|(rw[hs];unfold plS;first|(rw[hc];done)|(rw[hc];rfl))|refine And.intro ?_ ?_
  have q5:¬ (k:Int)=5:=of_decide_eq_false q;clear q;refine QI (fun q => ?_) (fun q => ?_)
  ·have q:=qdt q;have hk6:k=6:=by omega
   clear hw;subst hk6;have hw:=JO h hl
   refine QI (fun hc => QF (by simp) ?_) (fun hc => QF (decide_eq_true (by have : ¬ (l.getD 6 ⟨0,0⟩).cell = -2 := by simpa using hc
                                                                           omega)) ?_)
   ·refine⟨7,h,by show l.length-7<l.length-6;omega,fun _ _ h=>h,rfl,rfl,_,Xr l (plL l f 6) (plL l f 7) 6 7,?_⟩
    have hs:∀ j,plL l f 7 j=plS (plL l f 6) 6 (l.getD 6 ⟨0,0⟩) j:=fun _=>rfl;generalize plL l f 7=f' at hs ⊢;generalize plL l f 6=f0 at hs ⊢
    repeat' first|with_reducible refine QO ?_ ?_|exact trivial|with_reducible rfl|exact qlr _|exact qRr|exact hw|(rw[hs];unfold plS;first|(rw[hc];done)|(rw[hc];rfl))|refine And.intro ?_ ?_
   ·refine⟨7,h,by show l.length-7<l.length-6;omega,fun _ _ h=>h,rfl,rfl,_,QU2 l (plL l f 6) (plL l f 7) 6 7,?_⟩
    have hs:∀ j,plL l f 7 j=plS (plL l f 6) 6 (l.getD 6 ⟨0,0⟩) j:=fun _=>rfl;generalize plL l f 7=f' at hs ⊢;generalize plL l f 6=f0 at hs ⊢
    repeat' first|with_reducible refine QO ?_ ?_|exact trivial|with_reducible rfl|exact qlr _|exact qRr|exact hw|(rw[hs];unfold plS;first|(rw[hc];done)|(rw[hc];rfl))|refine And.intro ?_ ?_
  have q6:¬ (k:Int)=6:=of_decide_eq_false q;clear q;refine QI (fun q => ?_) (fun q => ?_)
  ·have q:=qdt q;have hk7:k=7:=by omega
   clear hw;subst hk7;have hw:=JO h hl
   refine QI (fun hc => QF (by simp) ?_) (fun hc => QF (decide_eq_true (by have : ¬ (l.getD 7 ⟨0,0⟩).cell = -2 := by simpa using hc
                                                                           omega)) ?_)
   ·refine⟨8,h,by show l.length-8<l.length-7;omega,fun _ _ h=>h,rfl,rfl,_,Xr l (plL l f 7) (plL l f 8) 7 8,?_⟩
    have hs:∀ j,plL l f 8 j=plS (plL l f 7) 7 (l.getD 7 ⟨0,0⟩) j:=fun _=>rfl;generalize plL l f 8=f' at hs ⊢;generalize plL l f 7=f0 at hs ⊢
    repeat' first|with_reducible refine QO ?_ ?_|exact trivial|with_reducible rfl|exact qlr _|exact qRr|exact hw|(rw[hs];unfold plS;first|(rw[hc];done)|(rw[hc];rfl))|refine And.intro ?_ ?_
   ·refine⟨8,h,by show l.length-8<l.length-7;omega,fun _ _ h=>h,rfl,rfl,_,QNP l (plL l f 7) (plL l f 8) 7 8,?_⟩
    have hs:∀ j,plL l f 8 j=plS (plL l f 7) 7 (l.getD 7 ⟨0,0⟩) j:=fun _=>rfl;generalize plL l f 8=f' at hs ⊢;generalize plL l f 7=f0 at hs ⊢
    repeat' first|with_reducible refine QO ?_ ?_|exact trivial|with_reducible rfl|exact qlr _|exact qRr|exact hw|(rw[hs];unfold plS;first|(rw[hc];done)|(rw[hc];rfl))|refine And.intro ?_ ?_
  have q7:¬ (k:Int)=7:=of_decide_eq_false q;clear q;refine QI (fun q => ?_) (fun q => ?_)
  ·have q:=qdt q;have hk8:k=8:=by omega
   clear hw;subst hk8;have hw:=JO h hl
   refine QI (fun hc => QF (by simp) ?_) (fun hc => QF (decide_eq_true (by have : ¬ (l.getD 8 ⟨0,0⟩).cell = -2 := by simpa using hc
                                                                           omega)) ?_)
   ·refine⟨9,h,by show l.length-9<l.length-8;omega,fun _ _ h=>h,rfl,rfl,_,Xr l (plL l f 8) (plL l f 9) 8 9,?_⟩
    have hs:∀ j,plL l f 9 j=plS (plL l f 8) 8 (l.getD 8 ⟨0,0⟩) j:=fun _=>rfl;generalize plL l f 9=f' at hs ⊢;generalize plL l f 8=f0 at hs ⊢
    repeat' first|with_reducible refine QO ?_ ?_|exact trivial|with_reducible rfl|exact qlr _|exact qRr|exact hw|(rw[hs];unfold plS;first|(rw[hc];done)|(rw[hc];rfl))|refine And.intro ?_ ?_
   ·refine⟨9,h,by show l.length-9<l.length-8;omega,fun _ _ h=>h,rfl,rfl,_,QQ6 l (plL l f 8) (plL l f 9) 8 9,?_⟩
    have hs:∀ j,plL l f 9 j=plS (plL l f 8) 8 (l.getD 8 ⟨0,0⟩) j:=fun _=>rfl;generalize plL l f 9=f' at hs ⊢;generalize plL l f 8=f0 at hs ⊢
    repeat' first|with_reducible refine QO ?_ ?_|exact trivial|with_reducible rfl|exact qlr _|exact qRr|exact hw|(rw[hs];unfold plS;first|(rw[hc];done)|(rw[hc];rfl))|refine And.intro ?_ ?_
  have q8:¬ (k:Int)=8:=of_decide_eq_false q;clear q;refine QI (fun q => ?_) (fun q => ?_)
  ·have q:=qdt q;have hk9:k=9:=by omega
   clear hw;subst hk9;have hw:=JO h hl
   refine QI (fun hc => QF (by simp) ?_) (fun hc => QF (decide_eq_true (by have : ¬ (l.getD 9 ⟨0,0⟩).cell = -2 := by simpa using hc
                                                                           omega)) ?_)
   ·refine⟨10,h,by show l.length-10<l.length-9;omega,fun _ _ h=>h,rfl,rfl,_,Xr l (plL l f 9) (plL l f 10) 9 10,?_⟩
    have hs:∀ j,plL l f 10 j=plS (plL l f 9) 9 (l.getD 9 ⟨0,0⟩) j:=fun _=>rfl;generalize plL l f 10=f' at hs ⊢;generalize plL l f 9=f0 at hs ⊢
    repeat' first|with_reducible refine QO ?_ ?_|exact trivial|with_reducible rfl|exact qlr _|exact qRr|exact hw|(rw[hs];unfold plS;first|(rw[hc];done)|(rw[hc];rfl))|refine And.intro ?_ ?_
   ·refine⟨10,h,by show l.length-10<l.length-9;omega,fun _ _ h=>h,rfl,rfl,_,QTY l (plL l f 9) (plL l f 10) 9 10,?_⟩
    have hs:∀ j,plL l f 10 j=plS (plL l f 9) 9 (l.getD 9 ⟨0,0⟩) j:=fun _=>rfl;generalize plL l f 10=f' at hs ⊢;generalize plL l f 9=f0 at hs ⊢
    repeat' first|with_reducible refine QO ?_ ?_|exact trivial|with_reducible rfl|exact qlr _|exact qRr|exact hw|(rw[hs];unfold plS;first|(rw[hc];done)|(rw[hc];rfl))|refine And.intro ?_ ?_
  have q9:¬ (k:Int)=9:=of_decide_eq_false q;clear q;refine QI (fun q => ?_) (fun q => ?_)
  ·have q:=qdt q;have hk10:k=10:=by omega
   clear hw;subst hk10;have hw:=JO h hl
   refine QI (fun hc => QF (by simp) ?_) (fun hc => QF (decide_eq_true (by have : ¬ (l.getD 10 ⟨0,0⟩).cell = -2 := by simpa using hc
                                                                           omega)) ?_)
   ·refine⟨11,h,by show l.length-11<l.length-10;omega,fun _ _ h=>h,rfl,rfl,_,Xr l (plL l f 10) (plL l f 11) 10 11,?_⟩
    have hs:∀ j,plL l f 11 j=plS (plL l f 10) 10 (l.getD 10 ⟨0,0⟩) j:=fun _=>rfl;generalize plL l f 11=f' at hs ⊢;generalize plL l f 10=f0 at hs ⊢
    repeat' first|with_reducible refine QO ?_ ?_|exact trivial|with_reducible rfl|exact qlr _|exact qRr|exact hw|(rw[hs];unfold plS;first|(rw[hc];done)|(rw[hc];rfl))|refine And.intro ?_ ?_
   ·refine⟨11,h,by show l.length-11<l.length-10;omega,fun _ _ h=>h,rfl,rfl,_,QPf l (plL l f 10) (plL l f 11) 10 11,?_⟩
    have hs:∀ j,plL l f 11 j=plS (plL l f 10) 10 (l.getD 10 ⟨0,0⟩) j:=fun _=>rfl;generalize plL l f 11=f' at hs ⊢;generalize plL l f 10=f0 at hs ⊢
    repeat' first|with_reducible refine QO ?_ ?_|exact trivial|with_reducible rfl|exact qlr _|exact qRr|exact hw|(rw[hs];unfold plS;first|(rw[hc];done)|(rw[hc];rfl))|refine And.intro ?_ ?_
  have q10:¬ (k:Int)=10:=of_decide_eq_false q;clear q;have hk11:k=11:=by omega
  clear hw;subst hk11;have hw:=JO h hl
  refine QI (fun hc => QF (by simp) ?_) (fun hc => QF (decide_eq_true (by have : ¬ (l.getD 11 ⟨0,0⟩).cell = -2 := by simpa using hc
                                                                          omega)) ?_)
  ·refine⟨12,h,by show l.length-12<l.length-11;omega,fun _ _ h=>h,rfl,rfl,_,Xr l (plL l f 11) (plL l f 12) 11 12,?_⟩
   have hs:∀ j,plL l f 12 j=plS (plL l f 11) 11 (l.getD 11 ⟨0,0⟩) j:=fun _=>rfl;generalize plL l f 12=f' at hs ⊢;generalize plL l f 11=f0 at hs ⊢
   repeat' first|with_reducible refine QO ?_ ?_|exact trivial|with_reducible rfl|exact qlr _|exact qRr|exact hw|(rw[hs];unfold plS;first|(rw[hc];done)|(rw[hc];rfl))|refine And.intro ?_ ?_
  ·refine⟨12,h,by show l.length-12<l.length-11;omega,fun _ _ h=>h,rfl,rfl,_,QQW l (plL l f 11) (plL l f 12) 11 12,?_⟩
   have hs:∀ j,plL l f 12 j=plS (plL l f 11) 11 (l.getD 11 ⟨0,0⟩) j:=fun _=>rfl;generalize plL l f 12=f' at hs ⊢;generalize plL l f 11=f0 at hs ⊢
   repeat' first|with_reducible refine QO ?_ ?_|exact trivial|with_reducible rfl|exact qlr _|exact qRr|exact hw|(rw[hs];unfold plS;first|(rw[hc];done)|(rw[hc];rfl))|refine And.intro ?_ ?_
 ·have:k=l.length:=by have:=of_decide_eq_false h;omega
  subst this;refine⟨_,⟨rfl,rfl⟩,rfl,rfl,_,QSC _ _,?_⟩
  repeat' first|with_reducible refine QO ?_ ?_|exact trivial|with_reducible rfl|exact qlr _|exact qRr|refine And.intro ?_ ?_
abbrev pmH(P:Program)(l:List QB)(f f':Nat→Int):Hnd:={ hnd (mkE P Q8) 1 with loop:=fun _=>KF 208 [] (pmJ l f (0:Nat)) [(True,.exit 0,pmE f')] }
theorem QNR(f:Nat→Int)(hl:l.length≤12)(hc:QAn l)(G:Ctx)(hrd:G.rd=none)(hG:G.n=208):KH (mkE Try.prog Q8) G (pmH Try.prog l f (plL l f l.length)) (Qr Try.f51):=by
 refine J6 (body:=Qa Try.f51 0) (QS KR) hrd (by kernel_rfl) ?_
 refine W7 (E:=mkF Try.prog Q8) rfl (J3 (n0:=208) (qb KR) (by omega) (fun s hs=>Q3 (qb KR) 3 G _ hrd) (fun s hs=>(by decide:208≤248)) ?_ (QVu l f hl hc) (s0:=0) (Nat.zero_le _) ?_)
 ·rintro s e J ⟨_,rfl⟩;exact(by decide:208≤248)
 ·rintro e J ⟨rfl,rfl⟩;exact⟨_,List.mem_cons_self,trivial,rfl,rfl⟩
def pmU(f f':Nat→Int):UC:=⟨0,⟨2,[(0,.agg (WY f)),(1,.slz 200 0 l.length (.of 0))],pmB l,208⟩,fun _ => .agg (WY f'),fun _=>[]⟩
theorem QNt(f f':Nat→Int):Vu (mkE Try.prog Q8) (pmH Try.prog l f f') Try.f51 (pmU l f f') = .ask (0=0) (.ask (0=0) (.ask (0=0) (.ask (0=0) (.ask (0=0) (.ask (l.length=l.length) (.ask
  (cO=cO) (.ask ((l.length:Int)=(l.length:Int)) (.ask ((0:Int)=0) (.ask ((0:Int)=0) (.ask ((0:Int)=0) (.ask ((0:Int)=0) (.ask ((0:Int)=0) (.ask
  ((0:Int)=0) (.ask ((0:Int)=0) (.ask ((0:Int)=0) (.ask ((0:Int)=0) (.ask ((0:Int)=0) (.ask ((0:Int)=0) (.ask ((0:Int)=0) (.ask ((0:Int)=0) (.ask ((0 :
  Int)=0) (.ask (f 0=f 0) (.ask (f 1=f 1) (.ask (f 2=f 2) (.ask (f 3=f 3) (.ask (f 4=f 4) (.ask (f 5=f 5) (.ask (f 6=f 6) (.ask (f 7=f 7) (.ask (f 8=f 8) (.ask (f
  9=f 9) (.ask (f 10=f 10) (.ask (f 11=f 11) (.ask (f 12=f 12) (.ask (l.length≤l.length) (.ask (QD 2 l.length (fun i=>QA.enc (l.getD i ⟨0,0⟩)) fun i=>QA.enc
  (l.getD i ⟨0,0⟩)) (.asm (True) (.all (fun(g0:Nat→Value) => .leaf (.agg [vi (f' 0),vi (f' 1),vi (f' 2),vi (f' 3),.int
  false .i64 (f' 4),vi (f' 5),vi (f' 6),vi (f' 7),vi (f' 8),vi (f' 9),vi (f' 10),.int false .i64
  (f' 11),vi (f' 12)]) ([])))))))))))))))))))))))))))))))))))))))):=by kernel_rfl
theorem QSO(f f':Nat→Int):QK 208 [(AV.agg [AV.int false i64 (f' (0:Nat)),AV.int false i64 (f' (1:Nat)),AV.int false i64 (f' (2:Nat)),AV.int false i64 (f' (3:Nat)),AV.int false i64 (f' (4:Nat)),AV.int false i64 (f' (5:Nat)),AV.int false i64 (f' (6:Nat)),AV.int false i64 (f' (7:Nat)),AV.int false i64 (f' (8:Nat)),AV.int false i64 (f' (9:Nat)),AV.int false i64 (f' (10:Nat)),AV.int false i64 (f' (11:Nat)),AV.int false i64 (f' (12:Nat))])] ([]) (JC (pmU l f f'))=(
  some [f' (0:Nat)=f' (0:Nat),f' (1:Nat)=f' (1:Nat),f' (2:Nat)=f' (2:Nat),f' (3:Nat)=f' (3:Nat),f' (4:Nat)=f' (4:Nat),f' (5:Nat)=f' (5:Nat),
  f' (6:Nat)=f' (6:Nat),f' (7:Nat)=f' (7:Nat),f' (8:Nat)=f' (8:Nat),f' (9:Nat)=f' (9:Nat),f' (10:Nat)=f' (10:Nat),f' (11:Nat)=f' (11:Nat),f'
  (12:Nat)=f' (12:Nat)]):=by kernel_rfl
theorem QNO(f:Nat→Int)(hl:l.length≤12)(hc:QAn l):QQ Try.prog 51 (uFC (pmU l f (plL l f l.length))):=by
 refine VX (E:=mkE Try.prog Q8) (QS KR) Try.func51 (by kernel_rfl) (by kernel_rfl) (jo (Nat.zero_le _) rfl rfl fun _=>rfl) (QNR l f hl hc) ⟨?_⟩
 refine KB (QNt l f (plL l f l.length)) ?_
 repeat' first|refine QF rfl ?_|refine Qc (p:=_=_) rfl ?_|refine Qc (p:=_≤_) (qlr _) ?_|refine Qc (p:=QD _ _ _ _) (qRr) ?_
 refine KY fun _=>KX fun g=>⟨rfl,rfl,_,QSO l f _,?_⟩
 repeat' first|with_reducible refine QO ?_ ?_|exact trivial|with_reducible rfl|exact qlr _|exact qRr|refine And.intro ?_ ?_
end Go.Proofs.Ytbpffdkemeoajaa
