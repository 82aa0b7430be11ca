/- - -/
import Derived.Test.YtbpffdkemeoajaaGreatMpza
open Go.Proofs.Tryz
open Go.IntKind (i64)
set_option maxRecDepth 100000
namespace Go.Proofs.YtbpffdkemeoajaaGreat
open Go.SX
variable (f:Nat->Int)(C:List (List QB))(f':Nat->Int)(ac:Code)(l:List QB)(body:Code)(cs:List QB)(k k':Nat)(x:QD)(has has':Int->Bool)
def jm:List AV:=[.int false .i64 (f 0),.int false .i64 (f 1),.int false .i64 (f 2),.int false .i64 (f 3),.int false .i64 (f 4),.int false .i64 (f 5),.int false .i64 (f 6),.int false .i64 (f 7),.int false .i64 (f 8),.int false .i64 (f 9),.int false .i64 (f 10),.int false .i64 (f 11),.int false .i64 (f 12)]
def QCN:List AV:=[.int true .i64 0,.int true .i64 0,.int true .i64 0,.int true .i64 0,.int true .i64 0,.int true .i64 0,.int true .i64 0,.int true .i64 0,.int true .i64 0,.int true .i64 0,.int true .i64 0,.int true .i64 0,.int true .i64 0]
def pmB:List (Nat×Blk):=[(200,.frz kB l.length λi=>QA.enc (l.getD i ⟨0,0⟩))]
def pmJ(f:Nat->Int)(k:Nat):JSt:=⟨33,[(2,.ptr 208 0 0),(4,.ptr 216 0 0),(8,.slz 200 0 l.length (.of 0)),(9,.int false .i64 l.length),(10,.int false .i64 k)],[(216,.cells 1 94 QCN),(208,.cells 1 94 (jm f))]++pmB l,248⟩
def pmE:JSt:=⟨33,[(2,.ptr 208 0 0),(4,.ptr 216 0 0)],[(216,.cells 1 94 QCN),(208,.cells 1 94 (jm f))],248⟩
def QJm:Ex->List Nat
 | .normal=>[2,4,8,9,10]
 | .exit _=>[2,4]
 | .ret=>[]
noncomputable abbrev Jl(l:List QB):List AV:=
  [.nilp,.ptr 33 0 0,.ptr 208 0 0,.ptr 216 0 0,.slz 200 0 l.length cO,vi (l.length:Int),vi (i64.wrap ((k:Int)+1))]
noncomputable abbrev Xk:Nat×Blk:=
  (216,.cells 1 94 [vj 0,vj 0,vj 0,vj 0,vj 0,vj 0,vj 0,vj 0,vj 0,
  vj 0,vj 0,vj 0,vj 0])
noncomputable abbrev YP:Nat×Blk:=
  (200,.frz kB l.length λi=>QA.enc (l.getD i ⟨0,0⟩))
noncomputable abbrev X9(l:List QB):List (Nat×Blk):=
  [(208,.cells 1 94 [vi (f 0),vi (f 1),vi (f 2),vi (f 3),vi (f 4),vi (f 5),vi (f 6),
  vi (f 7),vi (f 8),vi (f 9),vi (f 10),vi (f 11),vi (i64.wrap (↑(BitVec.ofInt 64 (f 12) |||
  BitVec.ofInt 64 (i64.wrap ((1:Int)*2^min k 64))).toNat:Int))]),Xk,(YP l)]
noncomputable abbrev QJw(l:List QB):List (Nat×Blk):=
  [(208,.cells 1 94 [vi (i64.wrap (↑(BitVec.ofInt 64 (f 0) ||| BitVec.ofInt 64 (i64.wrap ((1:Int)*2^min (l.getD k ⟨0,0⟩).cell.toNat 64))).toNat :
  Int)),vi (f 1),vi (f 2),vi (f 3),vi (f 4),vi (f 5),vi (f 6),vi (f 7),.int false
  .i64 (f 8),vi (f 9),vi (f 10),vi (f 11),vi (f 12)]),Xk,(YP l)]
noncomputable abbrev QJr(l:List QB):List (Nat×Blk):=
  [(208,.cells 1 94 [vi (f 0),vi (i64.wrap (↑(BitVec.ofInt 64 (f 1) ||| BitVec.ofInt 64 (i64.wrap ((1:Int)*2^min (l.getD k ⟨0,
  0⟩).cell.toNat 64))).toNat:Int)),vi (f 2),vi (f 3),vi (f 4),vi (f 5),vi (f 6),vi (f 7),.int
  false .i64 (f 8),vi (f 9),vi (f 10),vi (f 11),vi (f 12)]),Xk,(YP l)]
noncomputable abbrev QLv(l:List QB):List (Nat×Blk):=
  [(208,.cells 1 94 [vi (f 0),vi (f 1),vi (i64.wrap (↑(BitVec.ofInt 64 (f 2) ||| BitVec.ofInt 64 (i64.wrap ((1:Int)*2 ^
  min (l.getD k ⟨0,0⟩).cell.toNat 64))).toNat:Int)),vi (f 3),vi (f 4),vi (f 5),vi (f 6),vi (f 7),.int false
  .i64 (f 8),vi (f 9),vi (f 10),vi (f 11),vi (f 12)]),Xk,(YP l)]
noncomputable abbrev QRp(l:List QB):List (Nat×Blk):=
  [(208,.cells 1 94 [vi (f 0),vi (f 1),vi (f 2),vi (i64.wrap (↑(BitVec.ofInt 64 (f 3) ||| BitVec.ofInt 64
  (i64.wrap ((1:Int)*2^min (l.getD k ⟨0,0⟩).cell.toNat 64))).toNat:Int)),vi (f 4),vi (f 5),vi (f 6),vi (f 7),
  vi (f 8),vi (f 9),vi (f 10),vi (f 11),vi (f 12)]),Xk,(YP l)]
noncomputable abbrev QKI(l:List QB):List (Nat×Blk):=
  [(208,.cells 1 94 [vi (f 0),vi (f 1),vi (f 2),vi (f 3),vi (i64.wrap (↑(BitVec.ofInt 64 (f 4) |||
  BitVec.ofInt 64 (i64.wrap ((1:Int)*2^min (l.getD k ⟨0,0⟩).cell.toNat 64))).toNat:Int)),vi (f 5),vi (f 6),vi (f 7),.int
  false .i64 (f 8),vi (f 9),vi (f 10),vi (f 11),vi (f 12)]),Xk,(YP l)]
noncomputable abbrev QOW(l:List QB):List (Nat×Blk):=
  [(208,.cells 1 94 [vi (f 0),vi (f 1),vi (f 2),vi (f 3),vi (f 4),vi (i64.wrap
  (↑(BitVec.ofInt 64 (f 5) ||| BitVec.ofInt 64 (i64.wrap ((1:Int)*2^min (l.getD k ⟨0,0⟩).cell.toNat 64))).toNat:Int)),vi (f 6),vi (f 7),
  vi (f 8),vi (f 9),vi (f 10),vi (f 11),vi (f 12)]),Xk,(YP l)]
noncomputable abbrev QMz(l:List QB):List (Nat×Blk):=
  [(208,.cells 1 94 [vi (f 0),vi (f 1),vi (f 2),vi (f 3),vi (f 4),vi (f 5),.int false .i64
  (i64.wrap (↑(BitVec.ofInt 64 (f 6) ||| BitVec.ofInt 64 (i64.wrap ((1:Int)*2^min (l.getD k ⟨0,0⟩).cell.toNat 64))).toNat:Int)),vi (f 7),.int
  false .i64 (f 8),vi (f 9),vi (f 10),vi (f 11),vi (f 12)]),Xk,(YP l)]
noncomputable abbrev QQ0(l:List QB):List (Nat×Blk):=
  [(208,.cells 1 94 [vi (f 0),vi (f 1),vi (f 2),vi (f 3),vi (f 4),vi (f 5),vi (f 6),
  vi (i64.wrap (↑(BitVec.ofInt 64 (f 7) ||| BitVec.ofInt 64 (i64.wrap ((1:Int)*2^min (l.getD k ⟨0,0⟩).cell.toNat 64))).toNat:Int)),.int false
  .i64 (f 8),vi (f 9),vi (f 10),vi (f 11),vi (f 12)]),Xk,(YP l)]
noncomputable abbrev QRy(l:List QB):List (Nat×Blk):=
  [(208,.cells 1 94 [vi (f 0),vi (f 1),vi (f 2),vi (f 3),vi (f 4),vi (f 5),vi (f 6),
  vi (f 7),vi (i64.wrap (↑(BitVec.ofInt 64 (f 8) ||| BitVec.ofInt 64 (i64.wrap ((1:Int)*2^min (l.getD k ⟨0,0⟩).cell.toNat 64))).toNat
  : Int)),vi (f 9),vi (f 10),vi (f 11),vi (f 12)]),Xk,(YP l)]
noncomputable abbrev QSW(l:List QB):List (Nat×Blk):=
  [(208,.cells 1 94 [vi (f 0),vi (f 1),vi (f 2),vi (f 3),vi (f 4),vi (f 5),vi (f 6),
  vi (f 7),vi (f 8),vi (i64.wrap (↑(BitVec.ofInt 64 (f 9) ||| BitVec.ofInt 64 (i64.wrap ((1:Int)*2^min (l.getD k ⟨0,
  0⟩).cell.toNat 64))).toNat:Int)),vi (f 10),vi (f 11),vi (f 12)]),Xk,(YP l)]
noncomputable abbrev QKr(l:List QB):Int:=
  (↑(BitVec.ofInt 64 (f 10) ||| BitVec.ofInt 64 (i64.wrap ((1:Int)*2^min (l.getD k ⟨0,0⟩).cell.toNat 64))).toNat:Int)
noncomputable abbrev QMy(l:List QB):List (Nat×Blk):=
  [(208,.cells 1 94 [vi (f 0),vi (f 1),vi (f 2),vi (f 3),vi (f 4),vi (f 5),vi (f 6),
  vi (f 7),vi (f 8),vi (f 9),vi (i64.wrap (QKr f k l)),vi (f 11),vi (f 12)]),Xk,(YP
  l)]
noncomputable abbrev QMX(l:List QB):Int:=
  (↑(BitVec.ofInt 64 (f 11) ||| BitVec.ofInt 64 (i64.wrap ((1:Int)*2^min (l.getD k ⟨0,0⟩).cell.toNat 64))).toNat:Int)
noncomputable abbrev QJc(l:List QB):List (Nat×Blk):=
  [(208,.cells 1 94 [vi (f 0),vi (f 1),vi (f 2),vi (f 3),vi (f 4),vi (f 5),vi (f 6),
  vi (f 7),vi (f 8),vi (f 9),vi (f 10),vi (i64.wrap (QMX f k l)),vi (f 12)]),Xk,(YP
  l)]
noncomputable abbrev QN5:List (Nat×Blk):=
  [(208,.cells 1 94 [vi (f 0),vi (f 1),vi (f 2),vi (f 3),vi (f 4),vi (f 5),vi (f 6),
  vi (f 7),vi (f 8),vi (f 9),vi (f 10),vi (f 11),vi (f 12)]),Xk]
theorem QeT(f:Nat->Int)(k:Nat)(g:Nat->Value):exec (mkF prog Qu) (hnd (mkF prog Qu) 3) (QT f37 0) (JSt.inst (pmJ l f k) g) (KG [] QJm) = .br (decide ((k:Int)<(l.length:Int))) (.need (decide ((0:Int)<=(k:Int)/\(k:Int)<(l.length:Int))&&decide (l.length<=l.length)) (.need (decide (k<l.length)) (.need (decide ((0:Int)<=(k:Int)/\(k:Int)<12)) (.br (decide ((k:Int)=0)) (.br ((l.getD k ⟨0,0⟩).cell == -2) (.need (decide ((0:Int)<=(k:Int))) (.leaf (.tup (Jl k l)) ((X9 f k l)))) (.need (decide ((0:Int)<=(l.getD k ⟨0,0⟩).cell)) (.leaf (.tup (Jl k l)) ((QJw f k l))))) (.br (decide ((k:Int)=1)) (.br ((l.getD k ⟨0,0⟩).cell == -2) (.need (decide ((0:Int)<=(k:Int))) (.leaf (.tup (Jl k l)) ((X9 f k l)))) (.need (decide ((0:Int)<=(l.getD k ⟨0,0⟩).cell)) (.leaf (.tup (Jl k l)) ((QJr f k l))))) (.br (decide ((k:Int)=2)) (.br ((l.getD k ⟨0, 0⟩).cell == -2) (.need (decide ((0:Int)<=(k:Int))) (.leaf (.tup (Jl k l)) ((X9 f k l)))) (.need (decide ((0:Int)<=(l.getD k ⟨0,0⟩).cell)) (.leaf (.tup (Jl k l)) ((QLv f k l))))) (.br (decide ((k:Int)=3)) (.br ((l.getD k ⟨0,0⟩).cell == -2) (.need (decide ((0:Int)<=(k:Int))) (.leaf (.tup (Jl k l)) ((X9 f k l)))) (.need (decide ((0:Int)<=(l.getD k ⟨0,0⟩).cell)) (.leaf (.tup (Jl k l)) ((QRp f k l))))) (.br (decide ((k:Int)=4)) (.br ((l.getD k ⟨0,0⟩).cell == -2) (.need (decide ((0:Int)<=(k:Int))) (.leaf (.tup (Jl k l)) ((X9 f k l)))) (.need (decide ((0:Int)<=(l.getD k ⟨0,0⟩).cell)) (.leaf (.tup (Jl k l)) ((QKI f k l))))) (.br (decide ((k:Int)=5)) (.br ((l.getD k ⟨0,0⟩).cell == -2) (.need (decide ((0:Int)<=(k:Int))) (.leaf (.tup (Jl k l)) ((X9 f k l)))) (.need (decide ((0:Int)<=(l.getD k ⟨0,0⟩).cell)) (.leaf (.tup (Jl k l)) ((QOW f k l))))) (.br (decide ((k:Int)=6)) (.br ((l.getD k ⟨0,0⟩).cell == -2) (.need (decide ((0:Int)<=(k:Int))) (.leaf (.tup (Jl k l)) ((X9 f k l)))) (.need (decide ((0:Int)<=(l.getD k ⟨0,0⟩).cell)) (.leaf (.tup (Jl k l)) ((QMz f k l))))) (.br (decide ((k:Int)=7)) (.br ((l.getD k ⟨0,0⟩).cell == -2) (.need (decide ((0:Int)<=(k:Int))) (.leaf (.tup (Jl k l)) ((X9 f k l)))) (.need (decide ((0:Int)<=(l.getD k ⟨0,0⟩).cell)) (.leaf (.tup (Jl k l)) ((QQ0 f k l))))) (.br (decide ((k:Int)=8)) (.br ((l.getD k ⟨0,0⟩).cell == -2) (.need (decide ((0:Int)<=(k:Int))) (.leaf (.tup (Jl k l)) ((X9 f k l)))) (.need (decide ((0:Int)<=(l.getD k ⟨0,0⟩).cell)) (.leaf (.tup (Jl k l)) ((QRy f k l))))) (.br (decide ((k:Int)=9)) (.br ((l.getD k ⟨0,0⟩).cell == -2) (.need (decide ((0:Int)<=(k:Int))) (.leaf (.tup (Jl k l)) ((X9 f k l)))) (.need (decide ((0:Int)<=(l.getD k ⟨0,0⟩).cell)) (.leaf (.tup (Jl k l)) ((QSW f k l))))) (.br (decide ((k:Int)=10)) (.br ((l.getD k ⟨0,0⟩).cell == -2) (.need (decide ((0:Int)<=(k:Int))) (.leaf (.tup (Jl k l)) ((X9 f k l)))) (.need (decide ((0:Int)<=(l.getD k ⟨0,0⟩).cell)) (.leaf (.tup (Jl k l)) ((QMy f k l))))) (.br ((l.getD k ⟨0,0⟩).cell == -2) (.need (decide ((0:Int)<=(k:Int))) (.leaf (.tup (Jl k l)) ((X9 f k l)))) (.need (decide ((0:Int)<=(l.getD k ⟨0,0⟩).cell)) (.leaf (.tup (Jl k l)) ((QJc f k l))))))))))))))))))) (.leaf (.tup [.ptr 0 0 0,.ptr 33 0 0,.ptr 208 0 0,.ptr 216 0 0]) ((QN5 f))):=by kernel_rfl
noncomputable abbrev YM(l:List QB):List AV:=
  [.ptr 208 0 0,.ptr 216 0 0,.slz 200 0 l.length cO,vi (l.length:Int),vi (i64.wrap ((k:Int)+1))]
abbrev YO(l:List QB):List Prop:=
  [0=0,0=0,0=0,0=0,l.length=l.length,cO=cO,(l.length:Int)=(l.length:Int),i64.wrap ((k:Int)+1)=(k':Int)]
abbrev Xs:List Prop:=
  [(0:Int)=0,(0:Int)=0,(0:Int)=0,(0:Int)=0,(0:Int)=0,(0:Int)=0,(0:Int)=0,(0:Int)=0]
abbrev Xj:List Prop:=
  [(0:Int)=0,(0:Int)=0,(0:Int)=0,(0:Int)=0]
abbrev vT:List Prop:=
  [(0:Int)=0,f 0=f' 0,f 1=f' 1,f 2=f' 2,f 3=f' 3,f 4=f' 4,f 5=f' 5,f 6=f' 6]
abbrev QIb:List Prop:=
  [f 7=f' 7,f 8=f' 8,f 9=f' 9,f 10=f' 10]
theorem Yb(f f':Nat->Int)(k k':Nat):QI 208 (YM k l) ((X9 f k l)) (pmJ l f' k')=(some ([0=0]++(YO k k' l)++Xs++Xj++(vT f f')++(QIb f f')++[f 11=f' 11,i64.wrap (↑(BitVec.ofInt 64 (f 12) ||| BitVec.ofInt 64 (i64.wrap ((1:Int)*2^min k 64))).toNat:Int)=f' 12,l.length<=l.length,QC 2 l.length (λi=>QA.enc (l.getD i ⟨0,0⟩)) λi=>QA.enc (l.getD i ⟨0,0⟩)])):=by kernel_rfl
abbrev QAB:List Prop:=
  [f 5=f' 5,f 6=f' 6,f 7=f' 7,f 8=f' 8,f 9=f' 9]
abbrev WA:List Prop:=
  [f 10=f' 10,f 11=f' 11,f 12=f' 12,l.length<=l.length,QC 2 l.length (λi=>QA.enc (l.getD i ⟨0,0⟩)) λi=>QA.enc (l.getD i ⟨0,0⟩)]
theorem QWW(f f':Nat->Int)(k k':Nat):QI 208 (YM k l) ((QJw f k l)) (pmJ l f' k')=(some ([0=0]++(YO k k' l)++Xs++Xj++[(0:Int)=0,i64.wrap (↑(BitVec.ofInt 64 (f 0) ||| BitVec.ofInt 64 (i64.wrap ((1:Int)*2^min (l.getD k ⟨0,0⟩).cell.toNat 64))).toNat:Int)=f' 0,f 1=f' 1,f 2=f' 2,f 3=f' 3,f 4=f' 4]++(QAB f f')++(WA f f' l))):=by kernel_rfl
theorem Qb1(f f':Nat->Int)(k k':Nat):QI 208 (YM k l) ((QJr f k l)) (pmJ l f' k')=(some ([0=0]++(YO k k' l)++Xs++Xj++[(0:Int)=0,f 0=f' 0,i64.wrap (↑(BitVec.ofInt 64 (f 1) ||| BitVec.ofInt 64 (i64.wrap ((1:Int)*2^min (l.getD k ⟨0,0⟩).cell.toNat 64))).toNat:Int)=f' 1,f 2=f' 2,f 3=f' 3,f 4=f' 4]++(QAB f f')++(WA f f' l))):=by kernel_rfl
theorem QVF(f f':Nat->Int)(k k':Nat):QI 208 (YM k l) ((QLv f k l)) (pmJ l f' k')=(some ([0=0]++(YO k k' l)++Xs++Xj++[(0:Int)=0,f 0=f' 0,f 1=f' 1,i64.wrap (↑(BitVec.ofInt 64 (f 2) ||| BitVec.ofInt 64 (i64.wrap ((1:Int)*2^min (l.getD k ⟨0,0⟩).cell.toNat 64))).toNat:Int)=f' 2,f 3=f' 3,f 4=f' 4]++(QAB f f')++(WA f f' l))):=by kernel_rfl
abbrev QEO:List Prop:=
  [(0:Int)=0,f 0=f' 0,f 1=f' 1,f 2=f' 2]
theorem QTT(f f':Nat->Int)(k k':Nat):QI 208 (YM k l) ((QRp f k l)) (pmJ l f' k')=(some ([0=0]++(YO k k' l)++Xs++Xj++(QEO f f')++[i64.wrap (↑(BitVec.ofInt 64 (f 3) ||| BitVec.ofInt 64 (i64.wrap ((1:Int)*2^min (l.getD k ⟨0,0⟩).cell.toNat 64))).toNat:Int)=f' 3,f 4=f' 4]++(QAB f f')++(WA f f' l))):=by kernel_rfl
theorem QdK(f f':Nat->Int)(k k':Nat):QI 208 (YM k l) ((QKI f k l)) (pmJ l f' k')=(some ([0=0]++(YO k k' l)++Xs++Xj++(QEO f f')++[f 3=f' 3,i64.wrap (↑(BitVec.ofInt 64 (f 4) ||| BitVec.ofInt 64 (i64.wrap ((1:Int)*2^min (l.getD k ⟨0,0⟩).cell.toNat 64))).toNat:Int)=f' 4]++(QAB f f')++(WA f f' l))):=by kernel_rfl
theorem Qeg(f f':Nat->Int)(k k':Nat):QI 208 (YM k l) ((QOW f k l)) (pmJ l f' k')=(some ([0=0]++(YO k k' l)++Xs++Xj++(QEO f f')++[f 3=f' 3,f 4=f' 4,i64.wrap (↑(BitVec.ofInt 64 (f 5) ||| BitVec.ofInt 64 (i64.wrap ((1:Int)*2^min (l.getD k ⟨0,0⟩).cell.toNat 64))).toNat:Int)=f' 5,f 6=f' 6,f 7=f' 7,f 8=f' 8,f 9=f' 9]++(WA f f' l))):=by kernel_rfl
theorem QWZ(f f':Nat->Int)(k k':Nat):QI 208 (YM k l) ((QMz f k l)) (pmJ l f' k')=(some ([0=0]++(YO k k' l)++Xs++Xj++(QEO f f')++[f 3=f' 3,f 4=f' 4,f 5=f' 5,i64.wrap (↑(BitVec.ofInt 64 (f 6) ||| BitVec.ofInt 64 (i64.wrap ((1:Int)*2^min (l.getD k ⟨0,0⟩).cell.toNat 64))).toNat:Int)=f' 6,f 7=f' 7,f 8=f' 8,f 9=f' 9] ++ (WA f f' l))):=by kernel_rfl
theorem QWK(f f':Nat->Int)(k k':Nat):QI 208 (YM k l) ((QQ0 f k l)) (pmJ l f' k')=(some ([0=0]++(YO k k' l)++Xs++Xj++(vT f f')++[i64.wrap (↑(BitVec.ofInt 64 (f 7) ||| BitVec.ofInt 64 (i64.wrap ((1:Int)*2^min (l.getD k ⟨0,0⟩).cell.toNat 64))).toNat:Int)=f' 7,f 8=f' 8,f 9=f' 9]++(WA f f' l))):=by kernel_rfl
theorem QbT(f f':Nat->Int)(k k':Nat):QI 208 (YM k l) ((QRy f k l)) (pmJ l f' k')=(some ([0=0]++(YO k k' l)++Xs++Xj++(vT f f')++[f 7=f' 7,i64.wrap (↑(BitVec.ofInt 64 (f 8) ||| BitVec.ofInt 64 (i64.wrap ((1:Int)*2^min (l.getD k ⟨0,0⟩).cell.toNat 64))).toNat:Int)=f' 8,f 9=f' 9]++(WA f f' l))):=by kernel_rfl
theorem QXu(f f':Nat->Int)(k k':Nat):QI 208 (YM k l) ((QSW f k l)) (pmJ l f' k')=(some ([0=0]++(YO k k' l)++Xs++Xj++(vT f f')++[f 7=f' 7,f 8=f' 8,i64.wrap (↑(BitVec.ofInt 64 (f 9) ||| BitVec.ofInt 64 (i64.wrap ((1:Int)*2^min (l.getD k ⟨0,0⟩).cell.toNat 64))).toNat:Int)=f' 9]++(WA f f' l))):=by kernel_rfl
theorem QUg(f f':Nat->Int)(k k':Nat):QI 208 (YM k l) ((QMy f k l)) (pmJ l f' k')=(some ([0=0]++(YO k k' l)++Xs++Xj++(vT f f')++[f 7=f' 7,f 8=f' 8,f 9=f' 9,i64.wrap (QKr f k l)=f' 10,f 11=f' 11,f 12=f' 12,l.length<=l.length,QC 2 l.length (λi=>QA.enc (l.getD i ⟨0,0⟩)) λi=>QA.enc (l.getD i ⟨0,0⟩)])):=by kernel_rfl
theorem QVg(f f':Nat->Int)(k k':Nat):QI 208 (YM k l) ((QJc f k l)) (pmJ l f' k')=(some ([0=0]++(YO k k' l)++Xs++Xj++(vT f f')++(QIb f f')++[i64.wrap (QMX f k l)=f' 11,f 12=f' 12,l.length<=l.length,QC 2 l.length (λi=>QA.enc (l.getD i ⟨0,0⟩)) λi=>QA.enc (l.getD i ⟨0,0⟩)])):=by kernel_rfl
theorem Qdd :QI 208 [.ptr 208 0 0,.ptr 216 0 0] ((QN5 f)) (pmE f')=(some ([0=0,0=0,0=0,0=0]++Xs++Xj++(vT f f')++(QIb f f')++[f 11=f' 11,f 12=f' 12])):=by kernel_rfl
def plS(s:QB)(j:Nat):Int:=match s.cell == -2 with
 | true=>(match Nat.beq j 12 with|true=>Vl (f 12) k|false=>f j)
 | false=>(match Nat.beq j k with|true=>Vl (f k) s.cell|false=>f j)
def plL(l:List QB)(f:Nat->Int):Nat->Nat->Int
 | 0=>f
 | k+1=>plS (plL l f k) k (l.getD k ⟨0,0⟩)
theorem ZR{n:Int}(h:(n == -2)=false)(h2:n = -2∨0<=n):decide (0<=n)=true:=qde (h2.resolve_left (by simpa using h))
set_option maxHeartbeats 1600000 in
theorem Qaw(f:Nat->Int)(hl12:l.length<=12)(hc:jd l):Kk (λk=>pmJ l (plL l f k) k) (λk=>k<=l.length) (λk=>l.length-k) (λ_ e J=>e = .exit 0/\J=pmE (plL l f l.length)) 208 QJm [] (mkF prog Qu) (λ_=>hnd (mkF prog Qu) 3) (QT f37 0):=by
 refine⟨λk g hk=>Qp (QeT l (plL l f k) k g) ?_⟩;have hl:l.length<=1000:=by omega
 refine QH ?_ ?_<;>intro h
 .have h:k<l.length:=by have:=qdt h;omega
  have hw:=KW h hl;have hcc:=hc.s k h;refine QF (by simp;omega) (QF (by simp;omega) (QF (by simp;omega) ?_))
  refine QH ?_ ?_<;>intro q
  .have q:=qdt q;have hk0:k=0:=by omega
   clear hw;subst hk0;have hw:=KW h hl;have hd:l.length-1<l.length-0:=by omega
   refine QH (λhc=>QF (by simp) ⟨1,h,hd,λ_ _ h=>h,rfl,rfl,_,Yb l (plL l f 0) (plL l f 1) 0 1,?_⟩) (λhc=>QF (ZR hc hcc) ⟨1,h,hd,λ_ _ h=>h,rfl,rfl,_,QWW l (plL l f 0) (plL l f 1) 0 1,?_⟩)
   all_goals
    have hs:∀ j,plL l f 1 j=plS (plL l f 0) 0 (l.getD 0 ⟨0,0⟩) j:=λ_=>rfl;generalize plL l f 1=f' at hs ⊢;generalize plL l f 0=f0 at hs ⊢
    repeat' first|with_reducible refine QK ?_ ?_|exact tv|exact hw|(rw[hs];unfold plS;first|(rw[hc];done)|(rw[hc];rfl))|refine aI ?_ ?_
  have q0:¬ (k:Int)=0:=qdf q;clear q;refine QH ?_ ?_<;>intro q
  .have q:=qdt q;have hk1:k=1:=by omega
   clear hw;subst hk1;have hw:=KW h hl;have hd:l.length-2<l.length-1:=by omega
   refine QH (λhc=>QF (by simp) ⟨2,h,hd,λ_ _ h=>h,rfl,rfl,_,Yb l (plL l f 1) (plL l f 2) 1 2,?_⟩) (λhc=>QF (ZR hc hcc) ⟨2,h,hd,λ_ _ h=>h,rfl,rfl,_,Qb1 l (plL l f 1) (plL l f 2) 1 2,?_⟩)
   all_goals
    have hs:∀ j,plL l f 2 j=plS (plL l f 1) 1 (l.getD 1 ⟨0,0⟩) j:=λ_=>rfl;generalize plL l f 2=f' at hs ⊢;generalize plL l f 1=f0 at hs ⊢
    repeat' first|with_reducible refine QK ?_ ?_|exact tv|exact hw|(rw[hs];unfold plS;first|(rw[hc];done)|(rw[hc];rfl))|refine aI ?_ ?_
  have q1:¬ (k:Int)=1:=qdf q;clear q;refine QH ?_ ?_<;>intro q
  .have q:=qdt q;have hk2:k=2:=by omega
   clear hw;subst hk2;have hw:=KW h hl;have hd:l.length-3<l.length-2:=by omega
   refine QH (λhc=>QF (by simp) ⟨3,h,hd,λ_ _ h=>h,rfl,rfl,_,Yb l (plL l f 2) (plL l f 3) 2 3,?_⟩) (λhc=>QF (ZR hc hcc) ⟨3,h,hd,λ_ _ h=>h,rfl,rfl,_,QVF l (plL l f 2) (plL l f 3) 2 3,?_⟩)
   all_goals
    have hs:∀ j,plL l f 3 j=plS (plL l f 2) 2 (l.getD 2 ⟨0,0⟩) j:=λ_=>rfl;generalize plL l f 3=f' at hs ⊢;generalize plL l f 2=f0 at hs ⊢
    repeat' first|with_reducible refine QK ?_ ?_|exact tv|exact hw|(rw[hs];unfold plS;first|(rw[hc];done)|(rw[hc];rfl))|refine aI ?_ ?_
  have q2:¬ (k:Int)=2:=qdf q;clear q;refine QH ?_ ?_<;>intro q
  .have q:=qdt q;have hk3:k=3:=by omega
   clear hw;subst hk3;have hw:=KW h hl;have hd:l.length-4<l.length-3:=by omega
   refine QH (λhc=>QF (by simp) ⟨4,h,hd,λ_ _ h=>h,rfl,rfl,_,Yb l (plL l f 3) (plL l f 4) 3 4,?_⟩) (λhc=>QF (ZR hc hcc) ⟨4,h,hd,λ_ _ h=>h,rfl,rfl,_,QTT l (plL l f 3) (plL l f 4) 3 4,?_⟩)
   all_goals
    have hs:∀ j,plL l f 4 j=plS (plL l f 3) 3 (l.getD 3 ⟨0,0⟩) j:=λ_=>rfl;generalize plL l f 4=f' at hs ⊢;generalize plL l f 3=f0 at hs ⊢
    repeat' first|with_reducible refine QK ?_ ?_|exact tv|exact hw|(rw[hs];unfold plS;first|(rw[hc];done)|(rw[hc];rfl))|refine aI ?_ ?_
  have q3:¬ (k:Int)=3:=qdf q;clear q;refine QH ?_ ?_<;>intro q
  .have q:=qdt q;have hk4:k=4:=by omega
   clear hw;subst hk4;have hw:=KW h hl;have hd:l.length-5<l.length-4:=by omega
   refine QH (λhc=>QF (by simp) ⟨5,h,hd,λ_ _ h=>h,rfl,rfl,_,Yb l (plL l f 4) (plL l f 5) 4 5,?_⟩) (λhc=>QF (ZR hc hcc) ⟨5,h,hd,λ_ _ h=>h,rfl,rfl,_,QdK l (plL l f 4) (plL l f 5) 4 5,?_⟩)
   all_goals
    have hs:∀ j,plL l f 5 j=plS (plL l f 4) 4 (l.getD 4 ⟨0,0⟩) j:=λ_=>rfl;generalize plL l f 5=f' at hs ⊢;generalize plL l f 4=f0 at hs ⊢
    repeat' first|with_reducible refine QK ?_ ?_|exact tv|exact hw|(rw[hs];unfold plS;first|(rw[hc];done)|(rw[hc];rfl))|refine aI ?_ ?_
  have q4:¬ (k:Int)=4:=qdf q;clear q;refine QH ?_ ?_<;>intro q
  .have q:=qdt q;have hk5:k=5:=by omega
   clear hw;subst hk5;have hw:=KW h hl;have hd:l.length-6<l.length-5:=by omega
   refine QH (λhc=>QF (by simp) ⟨6,h,hd,λ_ _ h=>h,rfl,rfl,_,Yb l (plL l f 5) (plL l f 6) 5 6,?_⟩) (λhc=>QF (ZR hc hcc) ⟨6,h,hd,λ_ _ h=>h,rfl,rfl,_,Qeg l (plL l f 5) (plL l f 6) 5 6,?_⟩)
   all_goals
    have hs:∀ j,plL l f 6 j=plS (plL l f 5) 5 (l.getD 5 ⟨0,0⟩) j:=λ_=>rfl;generalize plL l f 6=f' at hs ⊢;generalize plL l f 5=f0 at hs ⊢
    repeat' first|with_reducible refine QK ?_ ?_|exact tv|exact hw|(rw[hs];unfold plS;first|(rw[hc];done)|(rw[hc];rfl))|refine aI ?_ ?_
  have q5:¬ (k:Int)=5:=qdf q;clear q;refine QH ?_ ?_<;>intro q
  .have q:=qdt q;have hk6:k=6:=by omega
   clear hw;subst hk6;have hw:=KW h hl;have hd:l.length-7<l.length-6:=by omega
   refine QH (λhc=>QF (by simp) ⟨7,h,hd,λ_ _ h=>h,rfl,rfl,_,Yb l (plL l f 6) (plL l f 7) 6 7,?_⟩) (λhc=>QF (ZR hc hcc) ⟨7,h,hd,λ_ _ h=>h,rfl,rfl,_,QWZ l (plL l f 6) (plL l f 7) 6 7,?_⟩)
   all_goals
    have hs:∀ j,plL l f 7 j=plS (plL l f 6) 6 (l.getD 6 ⟨0,0⟩) j:=λ_=>rfl;generalize plL l f 7=f' at hs ⊢;generalize plL l f 6=f0 at hs ⊢
    repeat' first|with_reducible refine QK ?_ ?_|exact tv|exact hw|(rw[hs];unfold plS;first|(rw[hc];done)|(rw[hc];rfl))|refine aI ?_ ?_
  have q6:¬ (k:Int)=6:=qdf q;clear q;refine QH ?_ ?_<;>intro q
  .have q:=qdt q;have hk7:k=7:=by omega
   clear hw;subst hk7;have hw:=KW h hl;have hd:l.length-8<l.length-7:=by omega
   refine QH (λhc=>QF (by simp) ⟨8,h,hd,λ_ _ h=>h,rfl,rfl,_,Yb l (plL l f 7) (plL l f 8) 7 8,?_⟩) (λhc=>QF (ZR hc hcc) ⟨8,h,hd,λ_ _ h=>h,rfl,rfl,_,QWK l (plL l f 7) (plL l f 8) 7 8,?_⟩)
   all_goals
    have hs:∀ j,plL l f 8 j=plS (plL l f 7) 7 (l.getD 7 ⟨0,0⟩) j:=λ_=>rfl;generalize plL l f 8=f' at hs ⊢;generalize plL l f 7=f0 at hs ⊢
    repeat' first|with_reducible refine QK ?_ ?_|exact tv|exact hw|(rw[hs];unfold plS;first|(rw[hc];done)|(rw[hc];rfl))|refine aI ?_ ?_
  have q7:¬ (k:Int)=7:=qdf q;clear q;refine QH ?_ ?_<;>intro q
  .have q:=qdt q;have hk8:k=8:=by omega
   clear hw;subst hk8;have hw:=KW h hl;have hd:l.length-9<l.length-8:=by omega
   refine QH (λhc=>QF (by simp) ⟨9,h,hd,λ_ _ h=>h,rfl,rfl,_,Yb l (plL l f 8) (plL l f 9) 8 9,?_⟩) (λhc=>QF (ZR hc hcc) ⟨9,h,hd,λ_ _ h=>h,rfl,rfl,_,QbT l (plL l f 8) (plL l f 9) 8 9,?_⟩)
   all_goals
    have hs:∀ j,plL l f 9 j=plS (plL l f 8) 8 (l.getD 8 ⟨0,0⟩) j:=λ_=>rfl;generalize plL l f 9=f' at hs ⊢;generalize plL l f 8=f0 at hs ⊢
    repeat' first|with_reducible refine QK ?_ ?_|exact tv|exact hw|(rw[hs];unfold plS;first|(rw[hc];done)|(rw[hc];rfl))|refine aI ?_ ?_
  have q8:¬ (k:Int)=8:=qdf q;clear q;refine QH ?_ ?_<;>intro q
  .have q:=qdt q;have hk9:k=9:=by omega
   clear hw;subst hk9;have hw:=KW h hl;have hd:l.length-10<l.length-9:=by omega
   refine QH (λhc=>QF (by simp) ⟨10,h,hd,λ_ _ h=>h,rfl,rfl,_,Yb l (plL l f 9) (plL l f 10) 9 10,?_⟩) (λhc=>QF (ZR hc hcc) ⟨10,h,hd,λ_ _ h=>h,rfl,rfl,_,QXu l (plL l f 9) (plL l f 10) 9 10,?_⟩)
   all_goals
    have hs:∀ j,plL l f 10 j=plS (plL l f 9) 9 (l.getD 9 ⟨0,0⟩) j:=λ_=>rfl;generalize plL l f 10=f' at hs ⊢;generalize plL l f 9=f0 at hs ⊢
    repeat' first|with_reducible refine QK ?_ ?_|exact tv|exact hw|(rw[hs];unfold plS;first|(rw[hc];done)|(rw[hc];rfl))|refine aI ?_ ?_
  have q9:¬ (k:Int)=9:=qdf q;clear q;refine QH ?_ ?_<;>intro q
  .have q:=qdt q;have hk10:k=10:=by omega
   clear hw;subst hk10;have hw:=KW h hl;have hd:l.length-11<l.length-10:=by omega
   refine QH (λhc=>QF (by simp) ⟨11,h,hd,λ_ _ h=>h,rfl,rfl,_,Yb l (plL l f 10) (plL l f 11) 10 11,?_⟩) (λhc=>QF (ZR hc hcc) ⟨11,h,hd,λ_ _ h=>h,rfl,rfl,_,QUg l (plL l f 10) (plL l f 11) 10 11,?_⟩)
   all_goals
    have hs:∀ j,plL l f 11 j=plS (plL l f 10) 10 (l.getD 10 ⟨0,0⟩) j:=λ_=>rfl;generalize plL l f 11=f' at hs ⊢;generalize plL l f 10=f0 at hs ⊢
    repeat' first|with_reducible refine QK ?_ ?_|exact tv|exact hw|(rw[hs];unfold plS;first|(rw[hc];done)|(rw[hc];rfl))|refine aI ?_ ?_
  have q10:¬ (k:Int)=10:=qdf q;clear q;have hk11:k=11:=by omega
  clear hw;subst hk11;have hw:=KW h hl
  refine QH (λhc=>QF (by simp) ?_) (λhc=>QF (qde (by have : ¬ (l.getD 11 ⟨0, 0⟩).cell = -2 := (by simpa using hc); omega)) ?_)
  .refine⟨12,h,by show l.length-12<l.length-11;omega,λ_ _ h=>h,rfl,rfl,_,Yb l (plL l f 11) (plL l f 12) 11 12,?_⟩
   have hs:∀ j,plL l f 12 j=plS (plL l f 11) 11 (l.getD 11 ⟨0,0⟩) j:=λ_=>rfl;generalize plL l f 12=f' at hs ⊢;generalize plL l f 11=f0 at hs ⊢
   repeat' first|with_reducible refine QK ?_ ?_|exact tv|exact hw|(rw[hs];unfold plS;first|(rw[hc];done)|(rw[hc];rfl))|refine aI ?_ ?_
  .refine⟨12,h,by show l.length-12<l.length-11;omega,λ_ _ h=>h,rfl,rfl,_,QVg l (plL l f 11) (plL l f 12) 11 12,?_⟩
   have hs:∀ j,plL l f 12 j=plS (plL l f 11) 11 (l.getD 11 ⟨0,0⟩) j:=λ_=>rfl;generalize plL l f 12=f' at hs ⊢;generalize plL l f 11=f0 at hs ⊢
   repeat' first|with_reducible refine QK ?_ ?_|exact tv|exact hw|(rw[hs];unfold plS;first|(rw[hc];done)|(rw[hc];rfl))|refine aI ?_ ?_
 .have:k=l.length:=by have:=qdf h;omega
  subst this;refine⟨_,⟨rfl,rfl⟩,rfl,rfl,_,Qdd _ _,?_⟩
  repeat' first|with_reducible refine QK ?_ ?_|exact tv|refine aI ?_ ?_
abbrev pmH(P:Program)(l:List QB)(f f':Nat->Int):Hnd:={ hnd (mkE P Qu) 1 with loop:=λ_=>Q4 208 [] (pmJ l f (0:Nat)) [(True,.exit 0,pmE f')] }
theorem Qed(f:Nat->Int)(hl:l.length<=12)(hc:jd l)(G:Ctx)(hrd:G.rd=none)(hG:G.n=208):Q8 (mkE prog Qu) G (pmH prog l f (plL l f l.length)) (Qi f37):=by
 refine Kg (body:=QT f37 0) (QL KC) hrd (by kernel_rfl) ?_
 refine YG (E:=mkF prog Qu) rfl (Kr (n0:=208) (Wk KC) (by omega) (λs hs=>Qw (Wk KC) 3 G _ hrd) (λs hs=>(by decide:208<=248)) ?_ (Qaw l f hl hc) (s0:=0) (Nat.zero_le _) ?_)
 .rintro s e J ⟨_,rfl⟩;exact(by decide:208<=248)
 .rintro e J ⟨rfl,rfl⟩;exact⟨_,qmc,trivial,rfl,rfl⟩
def pmU(f f':Nat->Int):UC:=⟨0,⟨2,[(0,.agg (jm f)),(1,.slz 200 0 l.length (.of 0))],pmB l,208⟩,λ_=>.agg (jm f'),λ_=>[]⟩
theorem Qfd(f f':Nat->Int):Js (mkE prog Qu) (pmH prog l f f') f37 (pmU l f f') = .ak [0=0,0=0,0=0,0=0,0=0,l.length=l.length,cO=cO,(l.length:Int)=(l.length:Int),(0:Int)=0,(0:Int)=0,(0:Int)=0,(0:Int)=0,(0:Int)=0,(0:Int)=0,(0:Int)=0,(0:Int)=0,(0:Int)=0,(0:Int)=0,(0:Int)=0,(0:Int)=0,(0:Int)=0,(0:Int)=0,f 0=f 0,f 1=f 1,f 2=f 2,f 3=f 3,f 4=f 4,f 5=f 5,f 6=f 6,f 7=f 7,f 8=f 8,f 9=f 9,f 10=f 10,f 11=f 11,f 12=f 12,l.length<=l.length,QC 2 l.length (λi=>QA.enc (l.getD i ⟨0,0⟩)) λi=>QA.enc (l.getD i ⟨0,0⟩)] (.asm (True) (.all (λ(g0:Nat->Value)=>.leaf (.agg [vi (f' 0),vi (f' 1),vi (f' 2),vi (f' 3),vi (f' 4),vi (f' 5),vi (f' 6),vi (f' 7),vi (f' 8),vi (f' 9),vi (f' 10),vi (f' 11),vi (f' 12)]) ([])))):=by kernel_rfl
theorem QV8(f f':Nat->Int):QI 208 [(AV.agg [vi (f' (0:Nat)),vi (f' (1:Nat)),vi (f' (2:Nat)),vi (f' (3:Nat)),vi (f' (4:Nat)),vi (f' (5:Nat)),vi (f' (6:Nat)),vi (f' (7:Nat)),vi (f' (8:Nat)),vi (f' (9:Nat)),vi (f' (10:Nat)),vi (f' (11:Nat)),vi (f' (12:Nat))])] ([]) (Kb (pmU l f f'))=( some [f' (0:Nat)=f' (0:Nat),f' (1:Nat)=f' (1:Nat),f' (2:Nat)=f' (2:Nat),f' (3:Nat)=f' (3:Nat),f' (4:Nat)=f' (4:Nat),f' (5:Nat)=f' (5:Nat), f' (6:Nat)=f' (6:Nat),f' (7:Nat)=f' (7:Nat),f' (8:Nat)=f' (8:Nat),f' (9:Nat)=f' (9:Nat),f' (10:Nat)=f' (10:Nat),f' (11:Nat)=f' (11:Nat),f' (12:Nat)=f' (12:Nat)]):=by kernel_rfl
theorem QZe(f:Nat->Int)(hl:l.length<=12)(hc:jd l):QO prog 37 (uFC (pmU l f (plL l f l.length))):=by
 refine JT (E:=mkE prog Qu) (QL KC) func37 (by kernel_rfl) (by kernel_rfl) (Gl (Nat.zero_le _) rfl rfl λ_=>rfl) (Qed l f hl hc) ⟨?_⟩
 refine Qp (Qfd l f (plL l f l.length)) ?_
 repeat' first|refine QF rfl ?_|refine QX (p:=_=_) rfl ?_|refine QX (p:=_<=_) (qlr _) ?_|refine QX (p:=QC _ _ _ _) (qRr) ?_
 refine KB λ_=>Q7 λg=>⟨rfl,rfl,_,QV8 l f _,?_⟩
 repeat' first|with_reducible refine QK ?_ ?_|exact tv|refine aI ?_ ?_
def tdT:List AV:=[.ptr 40 0 0,.int true .i64 0,.fn (.func 42) [.ptr 120 0 0,.ptr 112 0 0,.ptr 104 0 0],.tup [],.ptr 168 0 0,.ptr 176 0 0,.int true .i64 0,.bool true false,.ptr 200 0 0,.tup [],.ptr 40 0 0,.fn (.func 79) [.ptr 224 0 0],.tup [],.tup [],.tup [],.tup [],.tup [],.tup [],.tup [],.tup [],.tup [],.tup []]
def QIm:List AV:=[.ptr 296 0 0,.ptr 224 0 0,.ptr 280 0 0,.ptr 264 0 0,.ptr 304 0 0]
def tdR(C:List (List QB)):List (Nat×Blk):=
 [(304,.cellsR 0 33 [.fn (.func 80) QIm]),(280,.cellsR 0 147 [.map 272]),(264,.cellsR 0 146 [.yld 257]),(224,.cellsR 0 88 [.ptr 40 0 0]),(176,.cellsR 0 105 [.fn (.func 42) [.ptr 120 0 0,.ptr 112 0 0,.ptr 104 0 0]]),(40,.cellsR 0 149 (srK 41 x C)),Jm false 41 C]++JC 0 x
def tdW(l:List QB)(a:Nat)(b:Nat)(has:Int->Bool)(many n:Int)(f:List QB)(moved turned:Int):List (Nat×Blk):=
 [(296,.cells 0 38 [.slz a 0 l.length (.of 0)]),rwL a l,(272,.mpf .i64 (vj 0) has λi=>vi (QJ l i)),(257,.lp .ready none tdT #[12] ac body),(200,.cells 0 3 [vi many]),(168,.cells 0 3 [vi n]),(120,.cells 0 38 [.slz b 0 f.length (.of 0)]),rwL b f,(112,.cells 0 91 [vi moved]),(104,.cells 0 91 [vi turned])]
def QCw(C:List (List QB))(ac body:Code)(l:List QB)(has:Int->Bool)(many n:Int)(f:List QB)(moved turned:Int):JSt:=
 ⟨5,[(0,.ptr 296 0 0),(1,.ptr 224 0 0),(2,.ptr 280 0 0),(3,.ptr 264 0 0),(4,.ptr 304 0 0)],tdW ac body l 344 352 has many n f moved turned++tdR x C,360⟩
def tdU(C:List (List QB))(ac body:Code)(l:List QB)(has:Int->Bool)(many n:Int)(f:List QB)(moved turned:Int)(has':Int->Bool)(many' n':Int)(f':List QB)(moved' turned':Int):UC:=
 ⟨336,QCw x C ac body l has many n f moved turned,λ_=>.bool false true,λm=>tdW ac body l m (m+1) has' many' n' f' moved' turned'⟩
def tdJ(C:List (List QB))(ac body:Code)(cs l:List QB)(has:Int->Bool)(many n:Int)(f:List QB)(moved turned:Int)(k:Nat):JSt:=
 ⟨98,[(0,.ptr 296 0 0),(1,.ptr 224 0 0),(2,.ptr 280 0 0),(3,.ptr 264 0 0),(4,.ptr 304 0 0),(48,.slz 384 0 cs.length (.of 0)),(49,.int false .i64 cs.length),(50,.int false .i64 k)],
  (384,.frz kB cs.length λi=>QA.enc (cs.getD i ⟨0,0⟩))::tdW ac body l 368 376 has many n f moved turned++tdR x C,400⟩
def tdE(l:List QB)(has:Int->Bool)(many n:Int)(f:List QB)(moved turned:Int):JSt:=⟨98,[],tdW ac body l 368 376 has many n f moved turned,400⟩
def QAL:List Nat:=[296,272,257,200,168,120,112,104]
noncomputable abbrev QFj:List AV:=
  [.nilp,.ptr 98 0 0,.ptr 296 0 0,.ptr 224 0 0,.ptr 280 0 0,.ptr 264 0 0,.ptr 304 0 0,.slz 384 0 cs.length cO,vi (cs.length:Int),.int false .i64
  (i64.wrap ((k:Int)+1))]
noncomputable abbrev Hj:Nat×Blk:=
  (257,.lp LoopState.ready none tdT (Array.mk [12]) ac body)
noncomputable abbrev QHZ(f:List QB):Nat×Blk:=
  (120,.cells 0 38 [.slz 376 0 f.length cO])
noncomputable abbrev G7:Nat×Blk:=
  (224,.cellsR 0 88 [.ptr 40 0 0])
noncomputable abbrev QIS:Nat×Blk:=
  (304,.cellsR 0 33 [.fn (Fn.func 80) [.ptr 296 0 0,.ptr 224 0 0,.ptr 280 0 0,.ptr 264 0 0,.ptr 304 0 0]])
noncomputable abbrev QH2:Nat×Blk:=
  (384,.frz kB cs.length λi=>QA.enc (cs.getD i ⟨0,0⟩))
noncomputable abbrev Hc:Nat×Blk:=
  (40,.cellsR 0 149 [vi x.d.pK.length,vi x.d.pK.aK,vi x.d.pK.oK,vi x.d.pK.dK.lo,.int false .i64
  x.d.pK.dK.hi,vi x.d.wide,vi x.d.high,.bool false x.d.turn,.slz 0 0 x.d.ps.n cO,.slz 1 0 x.sK.n cO,.slz 2 0 x.hang.n (Cap.of
  0),vi x.lost,vi x.fK,.slz 41 0 C.length cO])
noncomputable abbrev QA8:Nat×Blk:=
  (176,.cellsR 0 105 [.fn (Fn.func 42) [.ptr 120 0 0,.ptr 112 0 0,.ptr 104 0 0]])
noncomputable abbrev QII(f:List QB):Nat×Blk:=
  (376,.rowz true 80 kB f.length λi=>QA.enc (f.getD i ⟨0,0⟩))
abbrev Z6:List CK:=
  [.int .i64,.int .i64,.int .i64,.int .i64,.int .i64,.int .i64,.int .i64,.int .i64,.int .i64,.int .i64,.int .i64,.int .i64,.int .i64,.int .i64,.int .i64,.int .i64,.int
  .i64,.int .i64,.int .i64,.int .i64,.int .i64,.int .i64,.int .i64,.int .i64,.int .i64,.int .i64,.int .i64,.int .i64]
noncomputable abbrev Hl:Nat×Blk:=
  (2,.frz [.int .i64,.int .i64,.int .i64,.int .i64] x.hang.n λi=>QA.enc (x.hang.get i))
noncomputable abbrev G3:Nat×Blk:=
  (41,.frz2 false 38 kB C.length (λi=>(QG C i).length) λi j=>QA.enc ((QG C i).getD j ⟨0,0⟩))
noncomputable abbrev QNg(f:List QB)(has:Int->Bool)(l:List QB)(many:Int)(moved:Int)(n:Int)(turned:Int)(x:QD):List (Nat×Blk):=
  [(296,.cells 0 38 [.slz 368 0 l.length cO]),(272,.mpf i64 (vj 0) has λi=>vi (QJ l i)),(Hj ac body),(200,.cells 0 3 [.int
  false .i64 many]),(168,.cells 0 3 [vi n]),(QHZ f),(112,.cells 0 91 [vi moved]),(104,.cells 0 91 [vi turned]),G7,(280,.cellsR 0
  147 [.map 272]),(264,.cellsR 0 146 [.yld 257]),QIS,(QH2 cs),(368,.rowz true 80 kB l.length λi=>QA.enc (l.getD i ⟨0,0⟩)),(Hc C x),QA8,
  (QII f),(0,.frz Z6 x.d.ps.n λi=>QA.enc (x.d.ps.get i)),(1,.frz Z6 x.sK.n λi=>QA.enc (x.sK.get i)),(Hl x),(G3 C)]
noncomputable abbrev QEc:List AV:=
  [vi (cs.getD k ⟨0,0⟩).cell,vi (cs.getD k ⟨0,0⟩).turn]
noncomputable abbrev QNM(f:List QB)(has:Int->Bool)(k:Nat)(l:List QB)(many:Int)(moved:Int)(n:Int)(turned:Int)(x:QD):List (Nat×Blk):=
  [(296,.cells 0 38 [.slz 1064 0 (i64.wrap ((↑(l.length+1):Int)-1)).toNat cO]),(272,.mpf i64 (vj 0) (Qc (cs.getD k ⟨0,0⟩).cell true
  (Qc (cs.getD k ⟨0,0⟩).cell true has)) (KO (cs.getD k ⟨0,0⟩).cell (vi (i64.wrap (toI (Bool.rec ((λ_=>(λi=>vi (QJ l i)) ((λi=>
  QA.enc (cs.getD i ⟨0,0⟩)) ((k:Int).toNat+0) 0)) ()) ((λ_=>vi (i64.wrap (toI ((λi=>vi (QJ l i)) ((λi=>QA.enc (cs.getD i
  ⟨0,0⟩)) ((k:Int).toNat+0) 0))+1))) ()) (decide ((λi=>QA.enc (cs.getD i ⟨0,0⟩)) ((k:Int).toNat+0) 0=(λi=>QA.enc (cs.getD i ⟨0,0⟩)) ((k:Int).toNat+0)
  0)))-1))) (KO (cs.getD k ⟨0,0⟩).cell (vi (i64.wrap (toI (vi (QJ l (cs.getD k ⟨0,0⟩).cell))+1))) λi=>vi (QJ l i)))),
  (Hj ac body),(200,.cells 0 3 [vi many]),(168,.cells 0 3 [vi n]),(QHZ f),(112,.cells 0 91 [vi moved]),(104,.cells 0 91 [.int
  false .i64 turned]),G7,(280,.cellsR 0 147 [.map 272]),(264,.cellsR 0 146 [.yld 257]),QIS,(QH2 cs),(1064,.rowz true 80 kB (l.length+1) (Qa
  l.length (λi=>QA.enc (l.getD i ⟨0,0⟩)) (QU [(QEc cs k)] 0))),(Hc C x),QA8,(QII f),(0,.frz Z6 x.d.ps.n λi=>QA.enc (x.d.ps.get i)),(1,.frz Z6
  x.sK.n λi=>QA.enc (x.sK.get i)),(Hl x),(G3 C)]
noncomputable abbrev QLi(k:Nat)(l2:List QB):Nat×Blk:=
  (272,.mpf i64 (vj 0) (Qc (cs.getD k ⟨0,0⟩).cell true has') (KO (cs.getD k ⟨0,0⟩).cell (vi (i64.wrap (toI (vi (QJ l2
  (cs.getD k ⟨0,0⟩).cell))-1))) λi=>vi (QJ l2 i)))
noncomputable abbrev QMw(f':List QB)(has':Int->Bool)(k:Nat)(l2:List QB)(many':Int)(moved':Int)(n':Int)(turned':Int)(x:QD):List (Nat×Blk):=
  [(296,.cells 0 38 [.slz 1176 0 (i64.wrap ((l2.length:Int)-1)).toNat cO]),(QLi cs has' k l2),(Hj ac body),(200,.cells 0 3 [vi many']),
  (168,.cells 0 3 [vi n']),(120,.cells 0 38 [.slz 1177 0 f'.length cO]),(112,.cells 0 91 [vi moved']),(104,.cells 0 91 [.int false .i64
  turned']),G7,(280,.cellsR 0 147 [.map 272]),(264,.cellsR 0 146 [.yld 257]),QIS,(QH2 cs),(1176,.rowz true 80 kB l2.length λi=>QA.enc
  (l2.getD i ⟨0,0⟩)),(Hc C x),QA8,(1177,.rowz true 80 kB f'.length λi=>QA.enc (f'.getD i ⟨0,0⟩)),(0,.frz Z6 x.d.ps.n λi=>QA.enc
  (x.d.ps.get i)),(1,.frz Z6 x.sK.n λi=>QA.enc (x.sK.get i)),(Hl x),(G3 C)]
noncomputable abbrev QKo(f:List QB)(has:Int->Bool)(l:List QB)(many:Int)(moved:Int)(n:Int)(turned:Int)(x:QD):List (Nat×Blk):=
  [(296,.cells 0 38 [.slz 368 0 l.length cO]),(272,.mpf i64 (vj 0) has λi=>vi (QJ l i)),(Hj ac body),(200,.cells 0 3 [.int
  false .i64 many]),(168,.cells 0 3 [vi n]),(QHZ f),(112,.cells 0 91 [vi moved]),(104,.cells 0 91 [vi turned]),(368,.rowz true 80 kB l.length λi=>QA.enc (l.getD i ⟨0,0⟩)),(Hc C x),QA8,G7,(QII f),(0,.frz Z6 x.d.ps.n λi=>QA.enc (x.d.ps.get i)),(1,.frz Z6
  x.sK.n λi=>QA.enc (x.sK.get i)),(Hl x),(G3 C)]
theorem QcB(pb1 pb2:List Prop->Bool)(x:QD)(C:List (List QB))(ac body:Code)(cs l l2:List QB)(has has2:Int->Bool)(many n:Int)(f:List QB)(moved turned:Int)(k:Nat)(has':Int->Bool)(many' n':Int)(f':List QB)(moved' turned':Int)(g:Nat->Value):exec (mkC prog (X7 pb1 pb2 x C l2 (tdU x C ac body l2 has2 many n f moved turned has' many' n' f' moved' turned'))) (hnd (mkC prog (X7 pb1 pb2 x C l2 (tdU x C ac body l2 has2 many n f moved turned has' many' n' f' moved' turned'))) 0) (QT f80 0) (JSt.inst (tdJ x C ac body cs l has many n f moved turned k) g) (KG QAL WQ) = .br (decide ((k:Int)<(cs.length:Int))) (.need (decide ((0:Int)<=(k:Int)/\(k:Int)<(cs.length:Int))&&decide (cs.length<=cs.length)) (.need (decide (k<cs.length)) (.all (λ(g0:Nat->Value)=>.need (isI i64 (vi (QJ l (cs.getD k ⟨0,0⟩).cell))) (.br (decide (toI (vi (QJ l (cs.getD k ⟨0,0⟩).cell)) ≥ bif (cs.getD k ⟨0,0⟩).cell == -2 then x.fK else (1:Int))) (.leaf (.tup (QFj cs k)) ((QNg C ac body cs f has l many moved n turned x))) (.need (decide (l.length<=l.length)&&(true&&decide ((l.length+1+(l.length+1) / 4+192)*16<=281474976710656/\l.length+1<=9223372036854775807))) (.need (isI i64 (vi (QJ l (cs.getD k ⟨0,0⟩).cell))) (.need (pb1 ([0=0,0=0,0=0,l.length+1=l2.length,cO=cO,l2.length<=l.length+1,QC 2 l2.length (Qa l.length (λi=>QA.enc (l.getD i ⟨0,0⟩)) (QU [(QEc cs k)] 0)) λi=>QA.enc (l2.getD i ⟨0,0⟩),x.d.pK.length=x.d.pK.length,x.d.pK.aK=x.d.pK.aK,x.d.pK.oK=x.d.pK.oK,x.d.pK.dK.lo=x.d.pK.dK.lo,x.d.pK.dK.hi=x.d.pK.dK.hi,x.d.wide=x.d.wide,x.d.high=x.d.high,x.d.turn=x.d.turn,0=0,x.d.ps.n=x.d.ps.n, cO=cO,0=0,x.sK.n=x.sK.n,cO=cO,0=0,x.hang.n=x.hang.n,cO=cO,x.lost=x.lost,x.fK=x.fK,0=0,C.length=C.length,cO=cO,C.length=C.length,Q1 2 C.length (λi=>(QG C i).length) (λi=>(QG C i).length) (λi j=>QA.enc ((QG C i).getD j ⟨0,0⟩)) λi j=>QA.enc ((QG C i).getD j ⟨0,0⟩),x.d.ps.n<=x.d.ps.n,QC 28 x.d.ps.n (λi=>QA.enc (x.d.ps.get i)) λi=>QA.enc (x.d.ps.get i),x.sK.n<=x.sK.n, QC 28 x.sK.n (λi=>QA.enc (x.sK.get i)) λi=>QA.enc (x.sK.get i),x.hang.n<=x.hang.n,QC 4 x.hang.n (λi=>QA.enc (x.hang.get i)) λi=>QA.enc (x.hang.get i)])) (.br (!Kn x l2) (.need (isI i64 (Bool.rec ((λ_=>(λi=>vi (QJ l i)) ((λi=>QA.enc (cs.getD i ⟨0,0⟩)) ((k:Int).toNat+0) 0)) ()) ((λ_=>vi (i64.wrap (toI ((λi=>vi (QJ l i)) ((λi=>QA.enc (cs.getD i ⟨0,0⟩)) ((k:Int).toNat+0) 0))+1))) ()) (decide ((λi=>QA.enc (cs.getD i ⟨0,0⟩)) ((k:Int).toNat+0) 0=(λi=>QA.enc (cs.getD i ⟨0,0⟩)) ((k:Int).toNat+0) 0)))) (.need (decide ((0:Int)<=i64.wrap ((↑(l.length+1):Int)-1)/\(i64.wrap ((↑(l.length+1):Int)-1)).toNat<=l.length+1-0)) (.leaf (.tup (QFj cs k)) ((QNM C ac body cs f has k l many moved n turned x))))) (.need (pb2 ([0=0,0=0,0=0,0=0,0=0,0=0,0=0,0=0,0=0,0=0,0=0,l.length+1=l2.length,cO=cO,l2.length<=l.length+1,QC 2 l2.length (Qa l.length (λi=>QA.enc (l.getD i ⟨0,0⟩)) (QU [(QEc cs k)] 0)) λi=>QA.enc (l2.getD i ⟨0,0⟩),Ka (vj 0) (vj 0) (Qc (cs.getD k ⟨0,0⟩).cell true has) has2 (KO (cs.getD k ⟨0,0⟩).cell (vi (i64.wrap (toI (vi (QJ l (cs.getD k ⟨0,0⟩).cell))+1))) λi=>vi (QJ l i)) λi=>vi (QJ l2 i),LoopState.ready=LoopState.ready,(none:Option Code)=none,Array.mk [12]=Array.mk [12],ac=ac,body=body,0=0,0=0,(0:Int)=0,Fn.func 42=Fn.func 42,0=0,0=0,0=0,0=0,0=0,0=0,0=0,0=0,0=0,0=0,(0:Int)=0,false=false,0=0,0=0,0=0,0=0,Fn.func 79=Fn.func 79,0=0,0=0,many=many,n=n,0=0,f.length=f.length,cO=cO,f.length<=f.length,QC 2 f.length (λi=>QA.enc (f.getD i ⟨0,0⟩)) λi=>QA.enc (f.getD i ⟨0,0⟩),moved=moved,turned=turned,Fn.func 80=Fn.func 80,0=0,0=0,0=0,0=0,0=0,0=0,0=0,0=0,0=0,0=0,0=0,0=0,Fn.func 42=Fn.func 42,0=0,0=0,0=0,0=0,0=0,0=0,x.d.pK.length=x.d.pK.length,x.d.pK.aK=x.d.pK.aK,x.d.pK.oK=x.d.pK.oK,x.d.pK.dK.lo=x.d.pK.dK.lo,x.d.pK.dK.hi=x.d.pK.dK.hi,x.d.wide=x.d.wide,x.d.high=x.d.high,x.d.turn=x.d.turn,0=0,x.d.ps.n=x.d.ps.n, cO=cO,0=0,x.sK.n=x.sK.n,cO=cO,0=0,x.hang.n=x.hang.n,cO=cO,x.lost=x.lost,x.fK=x.fK,0=0,C.length=C.length,cO=cO,C.length=C.length,Q1 2 C.length (λi=>(QG C i).length) (λi=>(QG C i).length) (λi j=>QA.enc ((QG C i).getD j ⟨0,0⟩)) λi j=>QA.enc ((QG C i).getD j ⟨0,0⟩),x.d.ps.n<=x.d.ps.n,QC 28 x.d.ps.n (λi=>QA.enc (x.d.ps.get i)) λi=>QA.enc (x.d.ps.get i),x.sK.n<=x.sK.n, QC 28 x.sK.n (λi=>QA.enc (x.sK.get i)) λi=>QA.enc (x.sK.get i),x.hang.n<=x.hang.n,QC 4 x.hang.n (λi=>QA.enc (x.hang.get i)) λi=>QA.enc (x.hang.get i)])) (.need (isI i64 (vi (QJ l2 (cs.getD k ⟨0,0⟩).cell))) (.need (decide ((0:Int)<=i64.wrap ((l2.length:Int)-1)/\(i64.wrap ((l2.length:Int)-1)).toNat<=l2.length-0)) (.br (false) (.leaf (.tup [.nili,.ptr 98 0 0,.bool true false]) ([(296,.cells 0 38 [.slz 1176 0 (i64.wrap ((l2.length:Int)-1)).toNat cO]),(QLi cs has' k l2),(Hj ac body),(200,.cells 0 3 [vi many']),(168,.cells 0 3 [vi n']),(120,.cells 0 38 [.slz 1177 0 f'.length cO]),(112,.cells 0 91 [vi moved']),(104,.cells 0 91 [vi turned']),(1176,.rowz true 80 kB l2.length λi=>QA.enc (l2.getD i ⟨0,0⟩)),(Hc C x),QA8,G7,(1177,.rowz true 80 kB f'.length λi=>QA.enc (f'.getD i ⟨0, 0⟩)),(0,.frz Z6 x.d.ps.n λi=>QA.enc (x.d.ps.get i)),(1,.frz Z6 x.sK.n λi=>QA.enc (x.sK.get i)),(Hl x),(G3 C)])) (.leaf (.tup (QFj cs k)) ((QMw C ac body cs f' has' k l2 many' moved' n' turned' x)))))))))))))))) (.leaf (.tup [.ptr 0 0 0,.ptr 98 0 0]) ((QKo C ac body f has l many moved n turned x))):=by kernel_rfl
noncomputable abbrev QFb:List AV:=
  [.ptr 296 0 0,.ptr 224 0 0,.ptr 280 0 0,.ptr 264 0 0,.ptr 304 0 0,.slz 384 0 cs.length cO,vi (cs.length:Int),vi (i64.wrap ((k :
  Int)+1))]
abbrev XF:List Prop:=
  [0=0,0=0,0=0,0=0,0=0,0=0]
abbrev QG9:List Prop:=
  [0=0,0=0,0=0,0=0,0=0,cs.length=cs.length,cO=cO,(cs.length:Int)=(cs.length:Int),i64.wrap ((k:Int)+1)=(k':Int),cs.length <=
  cs.length,QC 2 cs.length (λi=>QA.enc (cs.getD i ⟨0,0⟩)) λi=>QA.enc (cs.getD i ⟨0,0⟩),0=0]
abbrev QPr(l:List QB):List Prop:=
  [cO=cO,l.length<=l.length,QC 2 l.length (λi=>QA.enc (l.getD i ⟨0,0⟩)) λi=>QA.enc (l.getD i ⟨0,0⟩),Ka (.int true .i64 0) (.int true .i64 0)
  has has (λi=>.int false .i64 (QJ l i)) λi=>.int false .i64 (QJ l i),LoopState.ready=LoopState.ready,(none:Option Code)=none,Array.mk [12]=Array.mk [(12 :
  Tmp)],ac=ac,body=body,0=0,0=0,(0:Int)=0,Fn.func (42:FuncId)=Fn.func (42:FuncId)]
abbrev QHD(f:List QB)(many:Int)(n:Int):List Prop:=
  [0=0,0=0,0=0,0=0,(0:Int)=0,false=false,0=0,0=0,0=0,0=0,Fn.func (79:FuncId)=Fn.func (79:FuncId),0=0,0=0,many=many,n=n,0=0,
  f.length=f.length,cO=cO,f.length<=f.length,QC 2 f.length (λi=>QA.enc (f.getD i ⟨0,0⟩)) λi=>QA.enc (f.getD i ⟨0,0⟩)]
abbrev QHg:List Prop:=
  [x.d.pK.length=x.d.pK.length,x.d.pK.aK=x.d.pK.aK,x.d.pK.oK=x.d.pK.oK,x.d.pK.dK.lo=x.d.pK.dK.lo,x.d.pK.dK.hi=x.d.pK.dK.hi,
  x.d.wide=x.d.wide,x.d.high=x.d.high,x.d.turn=x.d.turn,0=0,x.d.ps.n=x.d.ps.n,cO=cO,0=0,x.sK.n=x.sK.n,cO=cO,0=0,x.hang.n =
  x.hang.n,cO=cO,x.lost=x.lost,x.fK=x.fK,0=0,C.length=C.length,cO=cO,C.length=C.length,Q1 2 C.length (λi=>(QG C
  i).length) (λi=>(QG C i).length) (λi j=>QA.enc ((QG C i).getD j ⟨0,0⟩)) λi j=>QA.enc ((QG C i).getD j ⟨0,0⟩),x.d.ps.n<=x.d.ps.n,QC 28 x.d.ps.n (fun
  i=>QA.enc (x.d.ps.get i)) λi=>QA.enc (x.d.ps.get i),x.sK.n<=x.sK.n,QC 28 x.sK.n (λi=>QA.enc (x.sK.get i)) λi=>QA.enc (x.sK.get i),
  x.hang.n<=x.hang.n,QC 4 x.hang.n (λi=>QA.enc (x.hang.get i)) λi=>QA.enc (x.hang.get i)]
theorem Qc2(C:List (List QB))(ac body:Code)(cs l:List QB)(has:Int->Bool)(many n:Int)(f:List QB)(moved turned:Int)(k k':Nat):QI 360 (QFb cs k) ((QNg C ac body cs f has l many moved n turned x)) (tdJ x C ac body cs l has many n f moved turned k')=(some (XF++(QG9 cs k k')++[l.length=l.length]++(QPr ac body has l)++XF++(QHD f many n)++[moved=moved,turned=turned,Fn.func 80=Fn.func (80:FuncId)]++XF++XF++[Fn.func 42=Fn.func (42:FuncId)]++XF++(QHg C x))):=by kernel_rfl
abbrev QRY:List Prop:=
  [(none:Option Code)=none,Array.mk [12]=Array.mk [(12:Tmp)],ac=ac,body=body,0=0,0=0,(0:Int)=0,Fn.func (42:FuncId)=Fn.func (42:FuncId)]
theorem Qds(x:QD)(C:List (List QB))(ac body:Code)(cs l:List QB)(has h':Int->Bool)(many n:Int)(f:List QB)(moved turned:Int)(k k':Nat):QI 360 (QFb cs k) ((QNM C ac body cs f has k l many moved n turned x)) (tdJ x C ac body cs l h' many n f moved turned k')=(some (XF++(QG9 cs k k') ++ [(i64.wrap ((↑(l.length+1):Int)-1)).toNat=l.length,cO=cO,l.length<=l.length+1,QC 2 l.length (Qa l.length (λi=>QA.enc (l.getD i ⟨0, 0⟩)) (QU [(QEc cs k)] 0)) λi=>QA.enc (l.getD i ⟨0,0⟩),Ka (vj 0) (vj 0) (Qc (cs.getD k ⟨0,0⟩).cell true (Qc (cs.getD k ⟨0,0⟩).cell true has)) h' (KO (cs.getD k ⟨0,0⟩).cell (vi (i64.wrap (toI (Bool.rec ((λx=>(λi=>vi (QJ l i)) ((λi=>QA.enc (cs.getD i ⟨0,0⟩)) ((k:Int).toNat+0) 0)) ()) ((λx=>vi (i64.wrap (toI ((λi=>vi (QJ l i)) ((λi=>QA.enc (cs.getD i ⟨0,0⟩)) ((k:Int).toNat+0) 0))+1))) ()) (decide ((λi=>QA.enc (cs.getD i ⟨0,0⟩)) ((k:Int).toNat+0) 0=(λi=>QA.enc (cs.getD i ⟨0,0⟩)) ((k:Int).toNat+0) 0)))-1))) (KO (cs.getD k ⟨0, 0⟩).cell (vi (i64.wrap (toI (vi (QJ l (cs.getD k ⟨0,0⟩).cell))+1))) λi=>vi (QJ l i))) λi=>vi (QJ l i), LoopState.ready=LoopState.ready]++(QRY ac body)++XF++(QHD f many n)++[moved=moved,turned=turned,Fn.func 80=Fn.func (80:FuncId)]++XF++XF ++ [Fn.func 42=Fn.func (42:FuncId)]++XF++(QHg C x))):=by kernel_rfl
theorem Qao(C:List (List QB))(ac body:Code)(cs l l2:List QB)(k:Nat)(has' h':Int->Bool)(many' n':Int)(f':List QB)(moved' turned':Int)(k':Nat):QI 360 (QFb cs k) ((QMw C ac body cs f' has' k l2 many' moved' n' turned' x)) (tdJ x C ac body cs l h' many' n' f' moved' turned' k')=(some (XF++(QG9 cs k k') ++ [(i64.wrap ((l2.length:Int)-1)).toNat=l.length,cO=cO,l.length<=l2.length,QC 2 l.length (λi=>QA.enc (l2.getD i ⟨0,0⟩)) λi=>QA.enc (l.getD i ⟨0,0⟩),Ka (vj 0) (vj 0) (Qc (cs.getD k ⟨0,0⟩).cell true has') h' (KO (cs.getD k ⟨0,0⟩).cell (vi (i64.wrap (toI (vi (QJ l2 (cs.getD k ⟨0,0⟩).cell))-1))) λi=>vi (QJ l2 i)) λi=>vi (QJ l i),LoopState.ready=LoopState.ready]++(QRY ac body)++XF++[0=0,0=0,0=0,0=0,(0:Int)=0,false=false,0=0,0=0,0=0,0=0,Fn.func (79:FuncId)=Fn.func (79:FuncId),0=0,0=0,many'=many', n'=n',0=0,f'.length=f'.length,cO=cO,f'.length<=f'.length,QC 2 f'.length (λi=>QA.enc (f'.getD i ⟨0,0⟩)) λi=>QA.enc (f'.getD i ⟨0,0⟩), moved'=moved',turned'=turned',Fn.func 80=Fn.func (80:FuncId)]++XF++XF++[Fn.func 42=Fn.func (42:FuncId)]++XF++(QHg C x))):=by kernel_rfl
theorem QVW(C:List (List QB))(ac body:Code)(l:List QB)(has:Int->Bool)(many n:Int)(f:List QB)(moved turned:Int):QI 360 [] ((QKo C ac body f has l many moved n turned x)) (tdE ac body l has many n f moved turned)=(some ([0=0,l.length=l.length]++(QPr ac body has l)++XF ++ (QHD f many n)++[moved=moved,turned=turned])):=by kernel_rfl
