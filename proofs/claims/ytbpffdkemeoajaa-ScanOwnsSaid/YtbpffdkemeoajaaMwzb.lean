/- - -/
import Derived.Test.YtbpffdkemeoajaaMwza
open Go.IntKind (i64)
set_option maxRecDepth 100000
namespace Go.Proofs.Ytbpffdkemeoajaa
open Go.SX
variable (f:Nat→Int)(l:List QB)(f':Nat→Int)(k k':Nat)
def qZ:List AV:=[.int false .i64 (f 0),.int false .i64 (f 1),.int false .i64 (f 2),.int false .i64 (f 3),.int false .i64 (f 4),.int false .i64 (f 5),.int false .i64 (f 6),.int false .i64 (f 7),.int false .i64 (f 8),.int false .i64 (f 9),.int false .i64 (f 10),.int false .i64 (f 11),.int false .i64 (f 12)]
def QBL:List AV:=[.int true .i64 0,.int true .i64 0,.int true .i64 0,.int true .i64 0,.int true .i64 0,.int true .i64 0,.int true .i64 0,.int true .i64 0,.int true .i64 0,.int true .i64 0,.int true .i64 0,.int true .i64 0,.int true .i64 0]
def pmB:List (Nat×Blk):=[(200,.frz [.int .i64,.int .i64] l.length fun i=>QA.enc (l.getD i ⟨0,0⟩))]
def pmJ(f:Nat→Int)(k:Nat):JSt:=⟨33,[(2,.ptr 208 0 0),(4,.ptr 216 0 0),(8,.slz 200 0 l.length (.of 0)),(9,.int false .i64 l.length),(10,.int false .i64 k)],[(216,.cells 1 95 QBL),(208,.cells 1 95 (qZ f))]++pmB l,248⟩
def pmE:JSt:=⟨33,[(2,.ptr 208 0 0),(4,.ptr 216 0 0)],[(216,.cells 1 95 QBL),(208,.cells 1 95 (qZ f))],248⟩
def QNG:Ex→List Nat
 | .normal=>[2,4,8,9,10]
 | .exit _=>[2,4]
 | .ret=>[]
noncomputable abbrev JI(l:List QB):List AV:=
  [.nilp,.ptr 33 0 0,.ptr 208 0 0,.ptr 216 0 0,.slz 200 0 l.length cO,vi (l.length:Int),vi (i64.wrap ((k:Int)+1))]
noncomputable abbrev Vx:Nat×Blk:=
  (216,.cells 1 95 [vj 0,vj 0,vj 0,vj 0,vj 0,vj 0,vj 0,vj 0,vj 0,
  .int true .i64 0,vj 0,vj 0,vj 0])
noncomputable abbrev XZ:Nat×Blk:=
  (200,.frz [.int .i64,.int .i64] l.length fun i=>QA.enc (l.getD i ⟨0,0⟩))
noncomputable abbrev XT(l:List QB):List (Nat×Blk):=
  [(208,.cells 1 95 [vi (f 0),vi (f 1),vi (f 2),vi (f 3),vi (f 4),vi (f 5),vi (f 6),
  .int false .i64 (f 7),vi (f 8),vi (f 9),vi (f 10),vi (f 11),vi (i64.wrap (↑(BitVec.ofInt 64 (f 12) |||
  BitVec.ofInt 64 (i64.wrap ((1:Int)*2^min k 64))).toNat:Int))]),Vx,(XZ l)]
noncomputable abbrev QJs(l:List QB):List (Nat×Blk):=
  [(208,.cells 1 95 [vi (i64.wrap (↑(BitVec.ofInt 64 (f 0) ||| BitVec.ofInt 64 (i64.wrap ((1:Int)*2^min (l.getD k ⟨0,0⟩).cell.toNat 64))).toNat :
  Int)),vi (f 1),vi (f 2),vi (f 3),vi (f 4),vi (f 5),vi (f 6),vi (f 7),.int false
  .i64 (f 8),vi (f 9),vi (f 10),vi (f 11),vi (f 12)]),Vx,(XZ l)]
noncomputable abbrev QGz(l:List QB):List (Nat×Blk):=
  [(208,.cells 1 95 [vi (f 0),vi (i64.wrap (↑(BitVec.ofInt 64 (f 1) ||| BitVec.ofInt 64 (i64.wrap ((1:Int)*2^min (l.getD k ⟨0,
  0⟩).cell.toNat 64))).toNat:Int)),vi (f 2),vi (f 3),vi (f 4),vi (f 5),vi (f 6),vi (f 7),.int
  false .i64 (f 8),vi (f 9),vi (f 10),vi (f 11),vi (f 12)]),Vx,(XZ l)]
noncomputable abbrev QNq(l:List QB):List (Nat×Blk):=
  [(208,.cells 1 95 [vi (f 0),vi (f 1),vi (i64.wrap (↑(BitVec.ofInt 64 (f 2) ||| BitVec.ofInt 64 (i64.wrap ((1:Int)*2 ^
  min (l.getD k ⟨0,0⟩).cell.toNat 64))).toNat:Int)),vi (f 3),vi (f 4),vi (f 5),vi (f 6),vi (f 7),.int false
  .i64 (f 8),vi (f 9),vi (f 10),vi (f 11),vi (f 12)]),Vx,(XZ l)]
noncomputable abbrev QG0(l:List QB):List (Nat×Blk):=
  [(208,.cells 1 95 [vi (f 0),vi (f 1),vi (f 2),vi (i64.wrap (↑(BitVec.ofInt 64 (f 3) ||| BitVec.ofInt 64
  (i64.wrap ((1:Int)*2^min (l.getD k ⟨0,0⟩).cell.toNat 64))).toNat:Int)),vi (f 4),vi (f 5),vi (f 6),vi (f 7),
  .int false .i64 (f 8),vi (f 9),vi (f 10),vi (f 11),vi (f 12)]),Vx,(XZ l)]
noncomputable abbrev QMn(l:List QB):List (Nat×Blk):=
  [(208,.cells 1 95 [vi (f 0),vi (f 1),vi (f 2),vi (f 3),vi (i64.wrap (↑(BitVec.ofInt 64 (f 4) |||
  BitVec.ofInt 64 (i64.wrap ((1:Int)*2^min (l.getD k ⟨0,0⟩).cell.toNat 64))).toNat:Int)),vi (f 5),vi (f 6),vi (f 7),.int
  false .i64 (f 8),vi (f 9),vi (f 10),vi (f 11),vi (f 12)]),Vx,(XZ l)]
noncomputable abbrev QIp(l:List QB):List (Nat×Blk):=
  [(208,.cells 1 95 [vi (f 0),vi (f 1),vi (f 2),vi (f 3),vi (f 4),vi (i64.wrap
  (↑(BitVec.ofInt 64 (f 5) ||| BitVec.ofInt 64 (i64.wrap ((1:Int)*2^min (l.getD k ⟨0,0⟩).cell.toNat 64))).toNat:Int)),vi (f 6),vi (f 7),
  .int false .i64 (f 8),vi (f 9),vi (f 10),vi (f 11),vi (f 12)]),Vx,(XZ l)]
noncomputable abbrev QGn(l:List QB):List (Nat×Blk):=
  [(208,.cells 1 95 [vi (f 0),vi (f 1),vi (f 2),vi (f 3),vi (f 4),vi (f 5),.int false .i64
  (i64.wrap (↑(BitVec.ofInt 64 (f 6) ||| BitVec.ofInt 64 (i64.wrap ((1:Int)*2^min (l.getD k ⟨0,0⟩).cell.toNat 64))).toNat:Int)),vi (f 7),.int
  false .i64 (f 8),vi (f 9),vi (f 10),vi (f 11),vi (f 12)]),Vx,(XZ l)]
noncomputable abbrev QIx(l:List QB):List (Nat×Blk):=
  [(208,.cells 1 95 [vi (f 0),vi (f 1),vi (f 2),vi (f 3),vi (f 4),vi (f 5),vi (f 6),
  .int false .i64 (i64.wrap (↑(BitVec.ofInt 64 (f 7) ||| BitVec.ofInt 64 (i64.wrap ((1:Int)*2^min (l.getD k ⟨0,0⟩).cell.toNat 64))).toNat:Int)),.int false
  .i64 (f 8),vi (f 9),vi (f 10),vi (f 11),vi (f 12)]),Vx,(XZ l)]
noncomputable abbrev QLe(l:List QB):List (Nat×Blk):=
  [(208,.cells 1 95 [vi (f 0),vi (f 1),vi (f 2),vi (f 3),vi (f 4),vi (f 5),vi (f 6),
  .int false .i64 (f 7),vi (i64.wrap (↑(BitVec.ofInt 64 (f 8) ||| BitVec.ofInt 64 (i64.wrap ((1:Int)*2^min (l.getD k ⟨0,0⟩).cell.toNat 64))).toNat
  : Int)),vi (f 9),vi (f 10),vi (f 11),vi (f 12)]),Vx,(XZ l)]
noncomputable abbrev QLJ(l:List QB):List (Nat×Blk):=
  [(208,.cells 1 95 [vi (f 0),vi (f 1),vi (f 2),vi (f 3),vi (f 4),vi (f 5),vi (f 6),
  .int false .i64 (f 7),vi (f 8),vi (i64.wrap (↑(BitVec.ofInt 64 (f 9) ||| BitVec.ofInt 64 (i64.wrap ((1:Int)*2^min (l.getD k ⟨0,
  0⟩).cell.toNat 64))).toNat:Int)),vi (f 10),vi (f 11),vi (f 12)]),Vx,(XZ l)]
noncomputable abbrev QNQ(l:List QB):Int:=
  (↑(BitVec.ofInt 64 (f 10) ||| BitVec.ofInt 64 (i64.wrap ((1:Int)*2^min (l.getD k ⟨0,0⟩).cell.toNat 64))).toNat:Int)
noncomputable abbrev QM8(l:List QB):List (Nat×Blk):=
  [(208,.cells 1 95 [vi (f 0),vi (f 1),vi (f 2),vi (f 3),vi (f 4),vi (f 5),vi (f 6),
  .int false .i64 (f 7),vi (f 8),vi (f 9),vi (i64.wrap (QNQ f k l)),vi (f 11),vi (f 12)]),Vx,(XZ
  l)]
noncomputable abbrev QK1(l:List QB):Int:=
  (↑(BitVec.ofInt 64 (f 11) ||| BitVec.ofInt 64 (i64.wrap ((1:Int)*2^min (l.getD k ⟨0,0⟩).cell.toNat 64))).toNat:Int)
noncomputable abbrev QIO(l:List QB):List (Nat×Blk):=
  [(208,.cells 1 95 [vi (f 0),vi (f 1),vi (f 2),vi (f 3),vi (f 4),vi (f 5),vi (f 6),
  .int false .i64 (f 7),vi (f 8),vi (f 9),vi (f 10),vi (i64.wrap (QK1 f k l)),vi (f 12)]),Vx,(XZ
  l)]
noncomputable abbrev QIb:List (Nat×Blk):=
  [(208,.cells 1 95 [vi (f 0),vi (f 1),vi (f 2),vi (f 3),vi (f 4),vi (f 5),vi (f 6),
  .int false .i64 (f 7),vi (f 8),vi (f 9),vi (f 10),vi (f 11),vi (f 12)]),Vx]
theorem QPx(f:Nat→Int)(k:Nat)(g:Nat→Value):exec (mkF Try.prog Qj) (hnd (mkF Try.prog Qj) 3) (QW Try.f51 0) (JSt.inst (pmJ l f k) g) (KF [] QNG) = .br (decide ((k:Int)<(l.length:Int))) (.need (decide
  ((0:Int)≤(k:Int)∧(k:Int)<(l.length:Int))&&decide (l.length≤l.length)) (.need (decide (k<l.length)) (.need (decide ((0:Int)≤(k:Int)∧(k:Int)<12)) (.br
  (decide ((k:Int)=0)) (.br ((l.getD k ⟨0,0⟩).cell == -2) (.need (decide ((0:Int)≤(k:Int))) (.leaf (.tup (JI k l)) ((XT f k l)))) (.need (decide ((0:Int)≤(l.getD k
  ⟨0,0⟩).cell)) (.leaf (.tup (JI k l)) ((QJs f k l))))) (.br (decide ((k:Int)=1)) (.br ((l.getD k ⟨0,0⟩).cell == -2) (.need (decide ((0:Int)≤(k:Int))) (.leaf (.tup
  (JI k l)) ((XT f k l)))) (.need (decide ((0:Int)≤(l.getD k ⟨0,0⟩).cell)) (.leaf (.tup (JI k l)) ((QGz f k l))))) (.br (decide ((k:Int)=2)) (.br ((l.getD k ⟨0,
  0⟩).cell == -2) (.need (decide ((0:Int)≤(k:Int))) (.leaf (.tup (JI k l)) ((XT f k l)))) (.need (decide ((0:Int)≤(l.getD k ⟨0,0⟩).cell)) (.leaf (.tup (JI k l))
  ((QNq f k l))))) (.br (decide ((k:Int)=3)) (.br ((l.getD k ⟨0,0⟩).cell == -2) (.need (decide ((0:Int)≤(k:Int))) (.leaf (.tup (JI k l)) ((XT f k l)))) (.need (decide
  ((0:Int)≤(l.getD k ⟨0,0⟩).cell)) (.leaf (.tup (JI k l)) ((QG0 f k l))))) (.br (decide ((k:Int)=4)) (.br ((l.getD k ⟨0,0⟩).cell == -2) (.need (decide ((0:Int)≤(k :
  Int))) (.leaf (.tup (JI k l)) ((XT f k l)))) (.need (decide ((0:Int)≤(l.getD k ⟨0,0⟩).cell)) (.leaf (.tup (JI k l)) ((QMn f k l))))) (.br (decide ((k:Int)=5)) (.br
  ((l.getD k ⟨0,0⟩).cell == -2) (.need (decide ((0:Int)≤(k:Int))) (.leaf (.tup (JI k l)) ((XT f k l)))) (.need (decide ((0:Int)≤(l.getD k ⟨0,0⟩).cell)) (.leaf (.tup
  (JI k l)) ((QIp f k l))))) (.br (decide ((k:Int)=6)) (.br ((l.getD k ⟨0,0⟩).cell == -2) (.need (decide ((0:Int)≤(k:Int))) (.leaf (.tup (JI k l)) ((XT f k l))))
  (.need (decide ((0:Int)≤(l.getD k ⟨0,0⟩).cell)) (.leaf (.tup (JI k l)) ((QGn f k l))))) (.br (decide ((k:Int)=7)) (.br ((l.getD k ⟨0,0⟩).cell == -2) (.need (decide ((0
  : Int)≤(k:Int))) (.leaf (.tup (JI k l)) ((XT f k l)))) (.need (decide ((0:Int)≤(l.getD k ⟨0,0⟩).cell)) (.leaf (.tup (JI k l)) ((QIx f k l))))) (.br (decide ((k :
  Int)=8)) (.br ((l.getD k ⟨0,0⟩).cell == -2) (.need (decide ((0:Int)≤(k:Int))) (.leaf (.tup (JI k l)) ((XT f k l)))) (.need (decide ((0:Int)≤(l.getD k ⟨0,0⟩).cell))
  (.leaf (.tup (JI k l)) ((QLe f k l))))) (.br (decide ((k:Int)=9)) (.br ((l.getD k ⟨0,0⟩).cell == -2) (.need (decide ((0:Int)≤(k:Int))) (.leaf (.tup (JI k l)) ((XT
  f k l)))) (.need (decide ((0:Int)≤(l.getD k ⟨0,0⟩).cell)) (.leaf (.tup (JI k l)) ((QLJ f k l))))) (.br (decide ((k:Int)=10)) (.br ((l.getD k ⟨0,0⟩).cell == -2) (.need
  (decide ((0:Int)≤(k:Int))) (.leaf (.tup (JI k l)) ((XT f k l)))) (.need (decide ((0:Int)≤(l.getD k ⟨0,0⟩).cell)) (.leaf (.tup (JI k l)) ((QM8 f k l))))) (.br
  ((l.getD k ⟨0,0⟩).cell == -2) (.need (decide ((0:Int)≤(k:Int))) (.leaf (.tup (JI k l)) ((XT f k l)))) (.need (decide ((0:Int)≤(l.getD k ⟨0,0⟩).cell)) (.leaf (.tup
  (JI k l)) ((QIO f k l))))))))))))))))))) (.leaf (.tup [.ptr 0 0 0,.ptr 33 0 0,.ptr 208 0 0,.ptr 216 0 0]) ((QIb f))):=by kernel_rfl
noncomputable abbrev XI(l:List QB):List AV:=
  [.ptr 208 0 0,.ptr 216 0 0,.slz 200 0 l.length cO,vi (l.length:Int),vi (i64.wrap ((k:Int)+1))]
abbrev XO(l:List QB):List Prop:=
  [0=0,0=0,0=0,0=0,l.length=l.length,cO=cO,(l.length:Int)=(l.length:Int),i64.wrap ((k:Int)+1)=(k':Int)]
abbrev Vt:List Prop:=
  [(0:Int)=0,(0:Int)=0,(0:Int)=0,(0:Int)=0,(0:Int)=0,(0:Int)=0,(0:Int)=0,(0:Int)=0]
abbrev XB:List Prop:=
  [(0:Int)=0,(0:Int)=0,(0:Int)=0,(0:Int)=0]
abbrev qd:List Prop:=
  [(0:Int)=0,f 0=f' 0,f 1=f' 1,f 2=f' 2,f 3=f' 3,f 4=f' 4,f 5=f' 5,f 6=f' 6]
abbrev QDs:List Prop:=
  [f 7=f' 7,f 8=f' 8,f 9=f' 9,f 10=f' 10]
theorem Xl(f f':Nat→Int)(k k':Nat):QL 208 (XI k l) ((XT f k l)) (pmJ l f' k')=(some ([0=0]++(XO k k' l)++Vt++XB++(qd f f')++(QDs f f')++[f 11=f' 11,i64.wrap
  (↑(BitVec.ofInt 64 (f 12) ||| BitVec.ofInt 64 (i64.wrap ((1:Int)*2^min k 64))).toNat:Int)=f' 12,l.length≤l.length,QC 2 l.length (fun i=>QA.enc (l.getD
  i ⟨0,0⟩)) fun i=>QA.enc (l.getD i ⟨0,0⟩)])):=by kernel_rfl
abbrev vy:List Prop:=
  [f 5=f' 5,f 6=f' 6,f 7=f' 7,f 8=f' 8,f 9=f' 9]
abbrev Y4(l:List QB):List Prop:=
  [f 10=f' 10,f 11=f' 11,f 12=f' 12,l.length≤l.length,QC 2 l.length (fun i=>QA.enc (l.getD i ⟨0,0⟩)) fun i=>QA.enc (l.getD i ⟨0,0⟩)]
theorem QYh(f f':Nat→Int)(k k':Nat):QL 208 (XI k l) ((QJs f k l)) (pmJ l f' k')=(some ([0=0]++(XO k k' l)++Vt++XB++[(0:Int)=0,i64.wrap (↑(BitVec.ofInt 64 (f 0) ||| BitVec.ofInt
  64 (i64.wrap ((1:Int)*2^min (l.getD k ⟨0,0⟩).cell.toNat 64))).toNat:Int)=f' 0,f 1=f' 1,f 2=f' 2,f 3=f' 3,f 4=f' 4]++(vy f f')++(Y4 f f' l))):=by kernel_rfl
theorem QTI(f f':Nat→Int)(k k':Nat):QL 208 (XI k l) ((QGz f k l)) (pmJ l f' k')=(some ([0=0]++(XO k k' l)++Vt++XB++[(0:Int)=0,f 0=f' 0,i64.wrap (↑(BitVec.ofInt 64 (f 1) |||
  BitVec.ofInt 64 (i64.wrap ((1:Int)*2^min (l.getD k ⟨0,0⟩).cell.toNat 64))).toNat:Int)=f' 1,f 2=f' 2,f 3=f' 3,f 4=f' 4]++(vy f f')++(Y4 f f'
  l))):=by kernel_rfl
theorem QPI(f f':Nat→Int)(k k':Nat):QL 208 (XI k l) ((QNq f k l)) (pmJ l f' k')=(some ([0=0]++(XO k k' l)++Vt++XB++[(0:Int)=0,f 0=f' 0,f 1=f' 1,i64.wrap (↑(BitVec.ofInt 64
  (f 2) ||| BitVec.ofInt 64 (i64.wrap ((1:Int)*2^min (l.getD k ⟨0,0⟩).cell.toNat 64))).toNat:Int)=f' 2,f 3=f' 3,f 4=f' 4]++(vy f f')++(Y4 f f' l))):=by kernel_rfl
abbrev QBk:List Prop:=
  [(0:Int)=0,f 0=f' 0,f 1=f' 1,f 2=f' 2]
theorem QWZ(f f':Nat→Int)(k k':Nat):QL 208 (XI k l) ((QG0 f k l)) (pmJ l f' k')=(some ([0=0]++(XO k k' l)++Vt++XB++(QBk f f')++[i64.wrap (↑(BitVec.ofInt 64 (f 3) ||| BitVec.ofInt
  64 (i64.wrap ((1:Int)*2^min (l.getD k ⟨0,0⟩).cell.toNat 64))).toNat:Int)=f' 3,f 4=f' 4]++(vy f f')++(Y4 f f' l))):=by kernel_rfl
theorem QRq(f f':Nat→Int)(k k':Nat):QL 208 (XI k l) ((QMn f k l)) (pmJ l f' k')=(some ([0=0]++(XO k k' l)++Vt++XB++(QBk f f')++[f 3=f' 3,i64.wrap (↑(BitVec.ofInt 64 (f 4) |||
  BitVec.ofInt 64 (i64.wrap ((1:Int)*2^min (l.getD k ⟨0,0⟩).cell.toNat 64))).toNat:Int)=f' 4]++(vy f f')++(Y4 f f' l))):=by kernel_rfl
theorem QO1(f f':Nat→Int)(k k':Nat):QL 208 (XI k l) ((QIp f k l)) (pmJ l f' k')=(some ([0=0]++(XO k k' l)++Vt++XB++(QBk f f')++[f 3=f' 3,f 4=f' 4,i64.wrap (↑(BitVec.ofInt
  64 (f 5) ||| BitVec.ofInt 64 (i64.wrap ((1:Int)*2^min (l.getD k ⟨0,0⟩).cell.toNat 64))).toNat:Int)=f' 5,f 6=f' 6,f 7=f' 7,f 8=f' 8,f 9=f' 9]++(Y4
  f f' l))):=by kernel_rfl
theorem QWx(f f':Nat→Int)(k k':Nat):QL 208 (XI k l) ((QGn f k l)) (pmJ l f' k')=(some ([0=0]++(XO k k' l)++Vt++XB++(QBk f f')++[f 3=f' 3,f 4=f' 4,f 5=f' 5,i64.wrap
  (↑(BitVec.ofInt 64 (f 6) ||| BitVec.ofInt 64 (i64.wrap ((1:Int)*2^min (l.getD k ⟨0,0⟩).cell.toNat 64))).toNat:Int)=f' 6,f 7=f' 7,f 8=f' 8,f 9=f' 9] ++
  (Y4 f f' l))):=by kernel_rfl
theorem QSQ(f f':Nat→Int)(k k':Nat):QL 208 (XI k l) ((QIx f k l)) (pmJ l f' k')=(some ([0=0]++(XO k k' l)++Vt++XB++(qd f f')++[i64.wrap (↑(BitVec.ofInt 64 (f 7) |||
  BitVec.ofInt 64 (i64.wrap ((1:Int)*2^min (l.getD k ⟨0,0⟩).cell.toNat 64))).toNat:Int)=f' 7,f 8=f' 8,f 9=f' 9]++(Y4 f f' l))):=by kernel_rfl
theorem QTF(f f':Nat→Int)(k k':Nat):QL 208 (XI k l) ((QLe f k l)) (pmJ l f' k')=(some ([0=0]++(XO k k' l)++Vt++XB++(qd f f')++[f 7=f' 7,i64.wrap (↑(BitVec.ofInt 64 (f 8) |||
  BitVec.ofInt 64 (i64.wrap ((1:Int)*2^min (l.getD k ⟨0,0⟩).cell.toNat 64))).toNat:Int)=f' 8,f 9=f' 9]++(Y4 f f' l))):=by kernel_rfl
theorem QUs(f f':Nat→Int)(k k':Nat):QL 208 (XI k l) ((QLJ f k l)) (pmJ l f' k')=(some ([0=0]++(XO k k' l)++Vt++XB++(qd f f')++[f 7=f' 7,f 8=f' 8,i64.wrap (↑(BitVec.ofInt
  64 (f 9) ||| BitVec.ofInt 64 (i64.wrap ((1:Int)*2^min (l.getD k ⟨0,0⟩).cell.toNat 64))).toNat:Int)=f' 9]++(Y4 f f' l))):=by kernel_rfl
theorem QT1(f f':Nat→Int)(k k':Nat):QL 208 (XI k l) ((QM8 f k l)) (pmJ l f' k')=(some ([0=0]++(XO k k' l)++Vt++XB++(qd f f')++[f 7=f' 7,f 8=f' 8,f 9=f' 9,i64.wrap
  (QNQ f k l)=f' 10,f 11=f' 11,f 12=f' 12,l.length≤l.length,QC 2 l.length (fun i=>QA.enc (l.getD i ⟨0,0⟩)) fun i=>QA.enc (l.getD i ⟨0,0⟩)])):=by kernel_rfl
theorem QR9(f f':Nat→Int)(k k':Nat):QL 208 (XI k l) ((QIO f k l)) (pmJ l f' k')=(some ([0=0]++(XO k k' l)++Vt++XB++(qd f f')++(QDs f f')++[i64.wrap (QK1 f k l)=f' 11,f
  12=f' 12,l.length≤l.length,QC 2 l.length (fun i=>QA.enc (l.getD i ⟨0,0⟩)) fun i=>QA.enc (l.getD i ⟨0,0⟩)])):=by kernel_rfl
theorem QYF :QL 208 [.ptr 208 0 0,.ptr 216 0 0] ((QIb f)) (pmE f')=(some ([0=0,0=0,0=0,0=0]++Vt++XB++(qd f f')++(QDs f f')++[f 11=f' 11,f 12=f' 12])):=by kernel_rfl
def plS(s:QB)(j:Nat):Int:=match s.cell == -2 with
 | true=>(match Nat.beq j 12 with|true=>VW (f 12) k|false=>f j)
 | false=>(match Nat.beq j k with|true=>VW (f k) s.cell|false=>f j)
def plL(l:List QB)(f:Nat→Int):Nat→Nat→Int
 | 0=>f
 | k+1=>plS (plL l f k) k (l.getD k ⟨0,0⟩)
set_option maxHeartbeats 1600000 in
theorem QO8(f:Nat→Int)(hl12:l.length≤12)(hc:W4 l):K0 (fun k=>pmJ l (plL l f k) k) (fun k=>k≤l.length) (fun k=>l.length-k) (fun _ e J=>e = .exit 0∧J=pmE (plL l f l.length)) 208 QNG [] (mkF Try.prog Qj) (fun _=>hnd (mkF Try.prog Qj) 3) (QW Try.f51 0):=by
 refine⟨fun k g hk=>Qt (QPx l (plL l f k) k g) ?_⟩;have hl:l.length≤1000:=by omega
 refine QI (fun h => ?_) (fun h => ?_)
 ·have h:k<l.length:=by have:=qdt h;omega
  have hw:=Kj h hl;have hcc:=hc.s k h;refine QF (by simp;omega) (QF (by simp;omega) (QF (by simp;omega) ?_))
  refine QI (fun q => ?_) (fun q => ?_)
  ·have q:=qdt q;have hk0:k=0:=by omega
   clear hw;subst hk0;have hw:=Kj h hl
   refine QI (fun hc => QF (by simp) ?_) (fun hc => QF (decide_eq_true (by have : ¬ (l.getD 0 ⟨0,0⟩).cell = -2 := by simpa using hc
                                                                           omega)) ?_)
   ·refine⟨1,h,by show l.length-1<l.length-0;omega,fun _ _ h=>h,rfl,rfl,_,Xl l (plL l f 0) (plL l f 1) 0 1,?_⟩
    have hs:∀ j,plL l f 1 j=plS (plL l f 0) 0 (l.getD 0 ⟨0,0⟩) j:=fun _=>rfl;generalize plL l f 1=f' at hs ⊢;generalize plL l f 0=f0 at hs ⊢
    repeat' first|with_reducible refine QN ?_ ?_|exact trivial|with_reducible rfl|exact qlr _|exact qRr|exact hw|(rw[hs];unfold plS;first|(rw[hc];done)|(rw[hc];rfl))|refine And.intro ?_ ?_
   ·refine⟨1,h,by show l.length-1<l.length-0;omega,fun _ _ h=>h,rfl,rfl,_,QYh l (plL l f 0) (plL l f 1) 0 1,?_⟩
    have hs:∀ j,plL l f 1 j=plS (plL l f 0) 0 (l.getD 0 ⟨0,0⟩) j:=fun _=>rfl;generalize plL l f 1=f' at hs ⊢;generalize plL l f 0=f0 at hs ⊢
    repeat' first|with_reducible refine QN ?_ ?_|exact trivial|with_reducible rfl|exact qlr _|exact qRr|exact hw|(rw[hs];unfold plS;first|(rw[hc];done)|(rw[hc];rfl))|refine And.intro ?_ ?_
  have q0:¬ (k:Int)=0:=of_decide_eq_false q;clear q;refine QI (fun q => ?_) (fun q => ?_)
  ·have q:=qdt q;have hk1:k=1:=by omega
   clear hw;subst hk1;have hw:=Kj h hl
   refine QI (fun hc => QF (by simp) ?_) (fun hc => QF (decide_eq_true (by have : ¬ (l.getD 1 ⟨0,0⟩).cell = -2 := by simpa using hc
                                                                           omega)) ?_)
   ·refine⟨2,h,by show l.length-2<l.length-1;omega,fun _ _ h=>h,rfl,rfl,_,Xl l (plL l f 1) (plL l f 2) 1 2,?_⟩
    have hs:∀ j,plL l f 2 j=plS (plL l f 1) 1 (l.getD 1 ⟨0,0⟩) j:=fun _=>rfl;generalize plL l f 2=f' at hs ⊢;generalize plL l f 1=f0 at hs ⊢
    repeat' first|with_reducible refine QN ?_ ?_|exact trivial|with_reducible rfl|exact qlr _|exact qRr|exact hw|(rw[hs];unfold plS;first|(rw[hc];done)|(rw[hc];rfl))|refine And.intro ?_ ?_
   ·refine⟨2,h,by show l.length-2<l.length-1;omega,fun _ _ h=>h,rfl,rfl,_,QTI l (plL l f 1) (plL l f 2) 1 2,?_⟩
    have hs:∀ j,plL l f 2 j=plS (plL l f 1) 1 (l.getD 1 ⟨0,0⟩) j:=fun _=>rfl;generalize plL l f 2=f' at hs ⊢;generalize plL l f 1=f0 at hs ⊢
    repeat' first|with_reducible refine QN ?_ ?_|exact trivial|with_reducible rfl|exact qlr _|exact qRr|exact hw|(rw[hs];unfold plS;first|(rw[hc];done)|(rw[hc];rfl))|refine And.intro ?_ ?_
  have q1:¬ (k:Int)=1:=of_decide_eq_false q;clear q;refine QI (fun q => ?_) (fun q => ?_)
  ·have q:=qdt q;have hk2:k=2:=by omega
   clear hw;subst hk2;have hw:=Kj h hl
   refine QI (fun hc => QF (by simp) ?_) (fun hc => QF (decide_eq_true (by have : ¬ (l.getD 2 ⟨0,0⟩).cell = -2 := by simpa using hc
                                                                           omega)) ?_)
   ·refine⟨3,h,by show l.length-3<l.length-2;omega,fun _ _ h=>h,rfl,rfl,_,Xl l (plL l f 2) (plL l f 3) 2 3,?_⟩
    have hs:∀ j,plL l f 3 j=plS (plL l f 2) 2 (l.getD 2 ⟨0,0⟩) j:=fun _=>rfl;generalize plL l f 3=f' at hs ⊢;generalize plL l f 2=f0 at hs ⊢
    repeat' first|with_reducible refine QN ?_ ?_|exact trivial|with_reducible rfl|exact qlr _|exact qRr|exact hw|(rw[hs];unfold plS;first|(rw[hc];done)|(rw[hc];rfl))|refine And.intro ?_ ?_
   ·refine⟨3,h,by show l.length-3<l.length-2;omega,fun _ _ h=>h,rfl,rfl,_,QPI l (plL l f 2) (plL l f 3) 2 3,?_⟩
    have hs:∀ j,plL l f 3 j=plS (plL l f 2) 2 (l.getD 2 ⟨0,0⟩) j:=fun _=>rfl;generalize plL l f 3=f' at hs ⊢;generalize plL l f 2=f0 at hs ⊢
    repeat' first|with_reducible refine QN ?_ ?_|exact trivial|with_reducible rfl|exact qlr _|exact qRr|exact hw|(rw[hs];unfold plS;first|(rw[hc];done)|(rw[hc];rfl))|refine And.intro ?_ ?_
  have q2:¬ (k:Int)=2:=of_decide_eq_false q;clear q;refine QI (fun q => ?_) (fun q => ?_)
  ·have q:=qdt q;have hk3:k=3:=by omega
   clear hw;subst hk3;have hw:=Kj h hl
   refine QI (fun hc => QF (by simp) ?_) (fun hc => QF (decide_eq_true (by have : ¬ (l.getD 3 ⟨0,0⟩).cell = -2 := by simpa using hc
                                                                           omega)) ?_)
   ·refine⟨4,h,by show l.length-4<l.length-3;omega,fun _ _ h=>h,rfl,rfl,_,Xl l (plL l f 3) (plL l f 4) 3 4,?_⟩
    have hs:∀ j,plL l f 4 j=plS (plL l f 3) 3 (l.getD 3 ⟨0,0⟩) j:=fun _=>rfl;generalize plL l f 4=f' at hs ⊢;generalize plL l f 3=f0 at hs ⊢
    repeat' first|with_reducible refine QN ?_ ?_|exact trivial|with_reducible rfl|exact qlr _|exact qRr|exact hw|(rw[hs];unfold plS;first|(rw[hc];done)|(rw[hc];rfl))|refine And.intro ?_ ?_
   ·refine⟨4,h,by show l.length-4<l.length-3;omega,fun _ _ h=>h,rfl,rfl,_,QWZ l (plL l f 3) (plL l f 4) 3 4,?_⟩
    have hs:∀ j,plL l f 4 j=plS (plL l f 3) 3 (l.getD 3 ⟨0,0⟩) j:=fun _=>rfl;generalize plL l f 4=f' at hs ⊢;generalize plL l f 3=f0 at hs ⊢
    repeat' first|with_reducible refine QN ?_ ?_|exact trivial|with_reducible rfl|exact qlr _|exact qRr|exact hw|(rw[hs];unfold plS;first|(rw[hc];done)|(rw[hc];rfl))|refine And.intro ?_ ?_
  have q3:¬ (k:Int)=3:=of_decide_eq_false q;clear q;refine QI (fun q => ?_) (fun q => ?_)
  ·have q:=qdt q;have hk4:k=4:=by omega
   clear hw;subst hk4;have hw:=Kj h hl
   refine QI (fun hc => QF (by simp) ?_) (fun hc => QF (decide_eq_true (by have : ¬ (l.getD 4 ⟨0,0⟩).cell = -2 := by simpa using hc
                                                                           omega)) ?_)
   ·refine⟨5,h,by show l.length-5<l.length-4;omega,fun _ _ h=>h,rfl,rfl,_,Xl l (plL l f 4) (plL l f 5) 4 5,?_⟩
    have hs:∀ j,plL l f 5 j=plS (plL l f 4) 4 (l.getD 4 ⟨0,0⟩) j:=fun _=>rfl;generalize plL l f 5=f' at hs ⊢;generalize plL l f 4=f0 at hs ⊢
    repeat' first|with_reducible refine QN ?_ ?_|exact trivial|with_reducible rfl|exact qlr _|exact qRr|exact hw|(rw[hs];unfold plS;first|(rw[hc];done)|(rw[hc];rfl))|refine And.intro ?_ ?_
   ·refine⟨5,h,by show l.length-5<l.length-4;omega,fun _ _ h=>h,rfl,rfl,_,QRq l (plL l f 4) (plL l f 5) 4 5,?_⟩
    have hs:∀ j,plL l f 5 j=plS (plL l f 4) 4 (l.getD 4 ⟨0,0⟩) j:=fun _=>rfl;generalize plL l f 5=f' at hs ⊢;generalize plL l f 4=f0 at hs ⊢
    repeat' first|with_reducible refine QN ?_ ?_|exact trivial|with_reducible rfl|exact qlr _|exact qRr|exact hw|(rw[hs];unfold plS;first|(rw[hc];done)|(rw[hc];rfl))|refine And.intro ?_ ?_
  have q4:¬ (k:Int)=4:=of_decide_eq_false q;clear q;refine QI (fun q => ?_) (fun q => ?_)
  ·have q:=qdt q;have hk5:k=5:=by omega
   clear hw;subst hk5;have hw:=Kj h hl
   refine QI (fun hc => QF (by simp) ?_) (fun hc => QF (decide_eq_true (by have : ¬ (l.getD 5 ⟨0,0⟩).cell = -2 := by simpa using hc
                                                                           omega)) ?_)
   ·refine⟨6,h,by show l.length-6<l.length-5;omega,fun _ _ h=>h,rfl,rfl,_,Xl l (plL l f 5) (plL l f 6) 5 6,?_⟩
    have hs:∀ j,plL l f 6 j=plS (plL l f 5) 5 (l.getD 5 ⟨0,0⟩) j:=fun _=>rfl;generalize plL l f 6=f' at hs ⊢;generalize plL l f 5=f0 at hs ⊢
    repeat' first|with_reducible refine QN ?_ ?_|exact trivial|with_reducible rfl|exact qlr _|exact qRr|exact hw|(rw[hs];unfold plS;first|(rw[hc];done)|(rw[hc];rfl))|refine And.intro ?_ ?_
   ·refine⟨6,h,by show l.length-6<l.length-5;omega,fun _ _ h=>h,rfl,rfl,_,QO1 l (plL l f 5) (plL l f 6) 5 6,?_⟩
    have hs:∀ j,plL l f 6 j=plS (plL l f 5) 5 (l.getD 5 ⟨0,0⟩) j:=fun _=>rfl;generalize plL l f 6=f' at hs ⊢;generalize plL l f 5=f0 at hs ⊢
    repeat' first|with_reducible refine QN ?_ ?_|exact trivial|with_reducible rfl|exact qlr _|exact qRr|exact hw|(rw[hs];unfold plS;first|(rw[hc];done)|(rw[hc];rfl))|refine And.intro ?_ ?_
  have q5:¬ (k:Int)=5:=of_decide_eq_false q;clear q;refine QI (fun q => ?_) (fun q => ?_)
  ·have q:=qdt q;have hk6:k=6:=by omega
   clear hw;subst hk6;have hw:=Kj h hl
   refine QI (fun hc => QF (by simp) ?_) (fun hc => QF (decide_eq_true (by have : ¬ (l.getD 6 ⟨0,0⟩).cell = -2 := by simpa using hc
                                                                           omega)) ?_)
   ·refine⟨7,h,by show l.length-7<l.length-6;omega,fun _ _ h=>h,rfl,rfl,_,Xl l (plL l f 6) (plL l f 7) 6 7,?_⟩
    have hs:∀ j,plL l f 7 j=plS (plL l f 6) 6 (l.getD 6 ⟨0,0⟩) j:=fun _=>rfl;generalize plL l f 7=f' at hs ⊢;generalize plL l f 6=f0 at hs ⊢
    repeat' first|with_reducible refine QN ?_ ?_|exact trivial|with_reducible rfl|exact qlr _|exact qRr|exact hw|(rw[hs];unfold plS;first|(rw[hc];done)|(rw[hc];rfl))|refine And.intro ?_ ?_
   ·refine⟨7,h,by show l.length-7<l.length-6;omega,fun _ _ h=>h,rfl,rfl,_,QWx l (plL l f 6) (plL l f 7) 6 7,?_⟩
    have hs:∀ j,plL l f 7 j=plS (plL l f 6) 6 (l.getD 6 ⟨0,0⟩) j:=fun _=>rfl;generalize plL l f 7=f' at hs ⊢;generalize plL l f 6=f0 at hs ⊢
    repeat' first|with_reducible refine QN ?_ ?_|exact trivial|with_reducible rfl|exact qlr _|exact qRr|exact hw|(rw[hs];unfold plS;first|(rw[hc];done)|(rw[hc];rfl))|refine And.intro ?_ ?_
  have q6:¬ (k:Int)=6:=of_decide_eq_false q;clear q;refine QI (fun q => ?_) (fun q => ?_)
  ·have q:=qdt q;have hk7:k=7:=by omega
   clear hw;subst hk7;have hw:=Kj h hl
   refine QI (fun hc => QF (by simp) ?_) (fun hc => QF (decide_eq_true (by have : ¬ (l.getD 7 ⟨0,0⟩).cell = -2 := by simpa using hc
                                                                           omega)) ?_)
   ·refine⟨8,h,by show l.length-8<l.length-7;omega,fun _ _ h=>h,rfl,rfl,_,Xl l (plL l f 7) (plL l f 8) 7 8,?_⟩
    have hs:∀ j,plL l f 8 j=plS (plL l f 7) 7 (l.getD 7 ⟨0,0⟩) j:=fun _=>rfl;generalize plL l f 8=f' at hs ⊢;generalize plL l f 7=f0 at hs ⊢
    repeat' first|with_reducible refine QN ?_ ?_|exact trivial|with_reducible rfl|exact qlr _|exact qRr|exact hw|(rw[hs];unfold plS;first|(rw[hc];done)|(rw[hc];rfl))|refine And.intro ?_ ?_
   ·refine⟨8,h,by show l.length-8<l.length-7;omega,fun _ _ h=>h,rfl,rfl,_,QSQ l (plL l f 7) (plL l f 8) 7 8,?_⟩
    have hs:∀ j,plL l f 8 j=plS (plL l f 7) 7 (l.getD 7 ⟨0,0⟩) j:=fun _=>rfl;generalize plL l f 8=f' at hs ⊢;generalize plL l f 7=f0 at hs ⊢
    repeat' first|with_reducible refine QN ?_ ?_|exact trivial|with_reducible rfl|exact qlr _|exact qRr|exact hw|(rw[hs];unfold plS;first|(rw[hc];done)|(rw[hc];rfl))|refine And.intro ?_ ?_
  have q7:¬ (k:Int)=7:=of_decide_eq_false q;clear q;refine QI (fun q => ?_) (fun q => ?_)
  ·have q:=qdt q;have hk8:k=8:=by omega
   clear hw;subst hk8;have hw:=Kj h hl
   refine QI (fun hc => QF (by simp) ?_) (fun hc => QF (decide_eq_true (by have : ¬ (l.getD 8 ⟨0,0⟩).cell = -2 := by simpa using hc
                                                                           omega)) ?_)
   ·refine⟨9,h,by show l.length-9<l.length-8;omega,fun _ _ h=>h,rfl,rfl,_,Xl l (plL l f 8) (plL l f 9) 8 9,?_⟩
    have hs:∀ j,plL l f 9 j=plS (plL l f 8) 8 (l.getD 8 ⟨0,0⟩) j:=fun _=>rfl;generalize plL l f 9=f' at hs ⊢;generalize plL l f 8=f0 at hs ⊢
    repeat' first|with_reducible refine QN ?_ ?_|exact trivial|with_reducible rfl|exact qlr _|exact qRr|exact hw|(rw[hs];unfold plS;first|(rw[hc];done)|(rw[hc];rfl))|refine And.intro ?_ ?_
   ·refine⟨9,h,by show l.length-9<l.length-8;omega,fun _ _ h=>h,rfl,rfl,_,QTF l (plL l f 8) (plL l f 9) 8 9,?_⟩
    have hs:∀ j,plL l f 9 j=plS (plL l f 8) 8 (l.getD 8 ⟨0,0⟩) j:=fun _=>rfl;generalize plL l f 9=f' at hs ⊢;generalize plL l f 8=f0 at hs ⊢
    repeat' first|with_reducible refine QN ?_ ?_|exact trivial|with_reducible rfl|exact qlr _|exact qRr|exact hw|(rw[hs];unfold plS;first|(rw[hc];done)|(rw[hc];rfl))|refine And.intro ?_ ?_
  have q8:¬ (k:Int)=8:=of_decide_eq_false q;clear q;refine QI (fun q => ?_) (fun q => ?_)
  ·have q:=qdt q;have hk9:k=9:=by omega
   clear hw;subst hk9;have hw:=Kj h hl
   refine QI (fun hc => QF (by simp) ?_) (fun hc => QF (decide_eq_true (by have : ¬ (l.getD 9 ⟨0,0⟩).cell = -2 := by simpa using hc
                                                                           omega)) ?_)
   ·refine⟨10,h,by show l.length-10<l.length-9;omega,fun _ _ h=>h,rfl,rfl,_,Xl l (plL l f 9) (plL l f 10) 9 10,?_⟩
    have hs:∀ j,plL l f 10 j=plS (plL l f 9) 9 (l.getD 9 ⟨0,0⟩) j:=fun _=>rfl;generalize plL l f 10=f' at hs ⊢;generalize plL l f 9=f0 at hs ⊢
    repeat' first|with_reducible refine QN ?_ ?_|exact trivial|with_reducible rfl|exact qlr _|exact qRr|exact hw|(rw[hs];unfold plS;first|(rw[hc];done)|(rw[hc];rfl))|refine And.intro ?_ ?_
   ·refine⟨10,h,by show l.length-10<l.length-9;omega,fun _ _ h=>h,rfl,rfl,_,QUs l (plL l f 9) (plL l f 10) 9 10,?_⟩
    have hs:∀ j,plL l f 10 j=plS (plL l f 9) 9 (l.getD 9 ⟨0,0⟩) j:=fun _=>rfl;generalize plL l f 10=f' at hs ⊢;generalize plL l f 9=f0 at hs ⊢
    repeat' first|with_reducible refine QN ?_ ?_|exact trivial|with_reducible rfl|exact qlr _|exact qRr|exact hw|(rw[hs];unfold plS;first|(rw[hc];done)|(rw[hc];rfl))|refine And.intro ?_ ?_
  have q9:¬ (k:Int)=9:=of_decide_eq_false q;clear q;refine QI (fun q => ?_) (fun q => ?_)
  ·have q:=qdt q;have hk10:k=10:=by omega
   clear hw;subst hk10;have hw:=Kj h hl
   refine QI (fun hc => QF (by simp) ?_) (fun hc => QF (decide_eq_true (by have : ¬ (l.getD 10 ⟨0,0⟩).cell = -2 := by simpa using hc
                                                                           omega)) ?_)
   ·refine⟨11,h,by show l.length-11<l.length-10;omega,fun _ _ h=>h,rfl,rfl,_,Xl l (plL l f 10) (plL l f 11) 10 11,?_⟩
    have hs:∀ j,plL l f 11 j=plS (plL l f 10) 10 (l.getD 10 ⟨0,0⟩) j:=fun _=>rfl;generalize plL l f 11=f' at hs ⊢;generalize plL l f 10=f0 at hs ⊢
    repeat' first|with_reducible refine QN ?_ ?_|exact trivial|with_reducible rfl|exact qlr _|exact qRr|exact hw|(rw[hs];unfold plS;first|(rw[hc];done)|(rw[hc];rfl))|refine And.intro ?_ ?_
   ·refine⟨11,h,by show l.length-11<l.length-10;omega,fun _ _ h=>h,rfl,rfl,_,QT1 l (plL l f 10) (plL l f 11) 10 11,?_⟩
    have hs:∀ j,plL l f 11 j=plS (plL l f 10) 10 (l.getD 10 ⟨0,0⟩) j:=fun _=>rfl;generalize plL l f 11=f' at hs ⊢;generalize plL l f 10=f0 at hs ⊢
    repeat' first|with_reducible refine QN ?_ ?_|exact trivial|with_reducible rfl|exact qlr _|exact qRr|exact hw|(rw[hs];unfold plS;first|(rw[hc];done)|(rw[hc];rfl))|refine And.intro ?_ ?_
  have q10:¬ (k:Int)=10:=of_decide_eq_false q;clear q;have hk11:k=11:=by omega
  clear hw;subst hk11;have hw:=Kj h hl
  refine QI (fun hc => QF (by simp) ?_) (fun hc => QF (decide_eq_true (by have : ¬ (l.getD 11 ⟨0,0⟩).cell = -2 := by simpa using hc
                                                                          omega)) ?_)
  ·refine⟨12,h,by show l.length-12<l.length-11;omega,fun _ _ h=>h,rfl,rfl,_,Xl l (plL l f 11) (plL l f 12) 11 12,?_⟩
   have hs:∀ j,plL l f 12 j=plS (plL l f 11) 11 (l.getD 11 ⟨0,0⟩) j:=fun _=>rfl;generalize plL l f 12=f' at hs ⊢;generalize plL l f 11=f0 at hs ⊢
   repeat' first|with_reducible refine QN ?_ ?_|exact trivial|with_reducible rfl|exact qlr _|exact qRr|exact hw|(rw[hs];unfold plS;first|(rw[hc];done)|(rw[hc];rfl))|refine And.intro ?_ ?_
  ·refine⟨12,h,by show l.length-12<l.length-11;omega,fun _ _ h=>h,rfl,rfl,_,QR9 l (plL l f 11) (plL l f 12) 11 12,?_⟩
   have hs:∀ j,plL l f 12 j=plS (plL l f 11) 11 (l.getD 11 ⟨0,0⟩) j:=fun _=>rfl;generalize plL l f 12=f' at hs ⊢;generalize plL l f 11=f0 at hs ⊢
   repeat' first|with_reducible refine QN ?_ ?_|exact trivial|with_reducible rfl|exact qlr _|exact qRr|exact hw|(rw[hs];unfold plS;first|(rw[hc];done)|(rw[hc];rfl))|refine And.intro ?_ ?_
 ·have:k=l.length:=by have:=of_decide_eq_false h;omega
  subst this;refine⟨_,⟨rfl,rfl⟩,rfl,rfl,_,QYF _ _,?_⟩
  repeat' first|with_reducible refine QN ?_ ?_|exact trivial|with_reducible rfl|exact qlr _|exact qRr|refine And.intro ?_ ?_
abbrev pmH(P:Program)(l:List QB)(f f':Nat→Int):Hnd:={ hnd (mkE P Qj) 1 with loop:=fun _=>Q7 208 [] (pmJ l f (0:Nat)) [(True,.exit 0,pmE f')] }
theorem QUT(f:Nat→Int)(hl:l.length≤12)(hc:W4 l)(G:Ctx)(hrd:G.rd=none)(hG:G.n=208):Q1 (mkE Try.prog Qj) G (pmH Try.prog l f (plL l f l.length)) (Qo Try.f51):=by
 refine JF (body:=QW Try.f51 0) (QP Qv) hrd (by kernel_rfl) ?_
 refine X0 (E:=mkF Try.prog Qj) rfl (JG (n0:=208) (jM Qv) (by omega) (fun s hs=>Qq (jM Qv) 3 G _ hrd) (fun s hs=>(by decide:208≤248)) ?_ (QO8 l f hl hc) (s0:=0) (Nat.zero_le _) ?_)
 ·rintro s e J ⟨_,rfl⟩;exact(by decide:208≤248)
 ·rintro e J ⟨rfl,rfl⟩;exact⟨_,List.mem_cons_self,trivial,rfl,rfl⟩
def pmU(f f':Nat→Int):UC:=⟨0,⟨2,[(0,.agg (qZ f)),(1,.slz 200 0 l.length (.of 0))],pmB l,208⟩,fun _ => .agg (qZ f'),fun _=>[]⟩
theorem QSJ(f f':Nat→Int):Jy (mkE Try.prog Qj) (pmH Try.prog l f f') Try.f51 (pmU l f f') = .ask (0=0) (.ask (0=0) (.ask (0=0) (.ask (0=0) (.ask (0=0) (.ask (l.length=l.length) (.ask
  (cO=cO) (.ask ((l.length:Int)=(l.length:Int)) (.ask ((0:Int)=0) (.ask ((0:Int)=0) (.ask ((0:Int)=0) (.ask ((0:Int)=0) (.ask ((0:Int)=0) (.ask
  ((0:Int)=0) (.ask ((0:Int)=0) (.ask ((0:Int)=0) (.ask ((0:Int)=0) (.ask ((0:Int)=0) (.ask ((0:Int)=0) (.ask ((0:Int)=0) (.ask ((0:Int)=0) (.ask ((0 :
  Int)=0) (.ask (f 0=f 0) (.ask (f 1=f 1) (.ask (f 2=f 2) (.ask (f 3=f 3) (.ask (f 4=f 4) (.ask (f 5=f 5) (.ask (f 6=f 6) (.ask (f 7=f 7) (.ask (f 8=f 8) (.ask (f
  9=f 9) (.ask (f 10=f 10) (.ask (f 11=f 11) (.ask (f 12=f 12) (.ask (l.length≤l.length) (.ask (QC 2 l.length (fun i=>QA.enc (l.getD i ⟨0,0⟩)) fun i=>QA.enc
  (l.getD i ⟨0,0⟩)) (.asm (True) (.all (fun(g0:Nat→Value) => .leaf (.agg [vi (f' 0),vi (f' 1),vi (f' 2),vi (f' 3),.int
  false .i64 (f' 4),vi (f' 5),vi (f' 6),vi (f' 7),vi (f' 8),vi (f' 9),vi (f' 10),.int false .i64
  (f' 11),vi (f' 12)]) ([])))))))))))))))))))))))))))))))))))))))):=by kernel_rfl
theorem QQY(f f':Nat→Int):QL 208 [(AV.agg [AV.int false i64 (f' (0:Nat)),AV.int false i64 (f' (1:Nat)),AV.int false i64 (f' (2:Nat)),AV.int false i64 (f' (3:Nat)),AV.int false i64 (f' (4:Nat)),AV.int false i64 (f' (5:Nat)),AV.int false i64 (f' (6:Nat)),AV.int false i64 (f' (7:Nat)),AV.int false i64 (f' (8:Nat)),AV.int false i64 (f' (9:Nat)),AV.int false i64 (f' (10:Nat)),AV.int false i64 (f' (11:Nat)),AV.int false i64 (f' (12:Nat))])] ([]) (Kd (pmU l f f'))=(
  some [f' (0:Nat)=f' (0:Nat),f' (1:Nat)=f' (1:Nat),f' (2:Nat)=f' (2:Nat),f' (3:Nat)=f' (3:Nat),f' (4:Nat)=f' (4:Nat),f' (5:Nat)=f' (5:Nat),
  f' (6:Nat)=f' (6:Nat),f' (7:Nat)=f' (7:Nat),f' (8:Nat)=f' (8:Nat),f' (9:Nat)=f' (9:Nat),f' (10:Nat)=f' (10:Nat),f' (11:Nat)=f' (11:Nat),f'
  (12:Nat)=f' (12:Nat)]):=by kernel_rfl
theorem QRQ(f:Nat→Int)(hl:l.length≤12)(hc:W4 l):QO Try.prog 51 (uFC (pmU l f (plL l f l.length))):=by
 refine JW (E:=mkE Try.prog Qj) (QP Qv) Try.func51 (by kernel_rfl) (by kernel_rfl) (z9 (Nat.zero_le _) rfl rfl fun _=>rfl) (QUT l f hl hc) ⟨?_⟩
 refine Qt (QSJ l f (plL l f l.length)) ?_
 repeat' first|refine QF rfl ?_|refine QR (p:=_=_) rfl ?_|refine QR (p:=_≤_) (qlr _) ?_|refine QR (p:=QC _ _ _ _) (qRr) ?_
 refine KA fun _=>Q6 fun g=>⟨rfl,rfl,_,QQY l f _,?_⟩
 repeat' first|with_reducible refine QN ?_ ?_|exact trivial|with_reducible rfl|exact qlr _|exact qRr|refine And.intro ?_ ?_
end Go.Proofs.Ytbpffdkemeoajaa
