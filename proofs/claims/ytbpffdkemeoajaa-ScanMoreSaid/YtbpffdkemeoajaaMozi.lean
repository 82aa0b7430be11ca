/- - -/
import Derived.Test.YtbpffdkemeoajaaMozh
open Go.IntKind (i64)
set_option maxRecDepth 100000
namespace Go.Proofs.Ytbpffdkemeoajaa
open Go Go.SX
structure Mor where
 cells:List Int
 al:Int
 e:Int
 told:List QC
def rwI(id:Nat)(l:List Int):Nat×Blk:=(id,.rowz true 3 [.int .i64] l.length fun i=>QA.enc (l.getD i (0:Int)))
variable (b:U8n)(x:QB)(fo lo:Int)(k j:Nat)(t:Nat→Nat→Int)
def piR(id:Nat)(lo fo:Int):List AV:=[.int false .i64 x.d.play.length,.int false .i64 x.d.play.slack,.int false .i64 x.d.play.loose,.int false .i64 x.d.play.damp.lo,.int false .i64 x.d.play.damp.hi,.int false .i64 x.d.wide,.int false .i64 x.d.high,.bool false x.d.turn,.slz 0 0 x.d.ps.n (.of 0),.slz id 0 x.scans.n (.of 0),.slz 2 0 x.hang.n (.of 0),.int false .i64 lo,.int false .i64 fo]
def leB(id:Nat)(lo fo:Int):Nat×Blk:=(232,.rowl 50 13 [piR x 1 lo x.foreign,piR x 1 x.lost fo,piR x id x.lost x.foreign])
def ksP:List CK:=QA.ks (α:=QK)
def Yc(o:Mor)(lo fo:Int)(b:U8n)(k:Nat)(t:Nat→Nat→Int)(s:Nat):JSt:=⟨276,[(2,Enc.enc b),(3,.ptr 8 0 0),(7,.slz 88 0 o.cells.length (.of 0)),(8,.int false .i64 o.al),(9,.int false .i64 o.e),(10,.slz 160 0 o.told.length (.of 0)),(12,.slice true 232 0 3 (.lit 3)),(13,.int false .i64 k),(83,.int false .i64 s)],(496,.rowz true 33 ksP x.scans.n t)::leB x 496 lo fo::rwL 160 o.told::rwI 88 o.cells::laB x,536⟩
def zp(o:Mor)(lo fo:Int)(sc:Nat→QK):JSt:=⟨276,[(3,.ptr 8 0 0),(7,.slz 88 0 o.cells.length (.of 0)),(8,.int false .i64 o.al),(9,.int false .i64 o.e),(10,.slz 160 0 o.told.length (.of 0)),(12,.slice true 232 0 3 (.lit 3))],(496,.rowz true 33 ksP x.scans.n fun i=>QA.enc (sc i))::leB x 496 lo fo::rwL 160 o.told::rwI 88 o.cells::laB x,536⟩
def QGT:Ex→List Nat
 | .normal=>[2,3,7,8,9,10,12,13,83]
 | .exit _=>[3,7,8,9,10,12]
 | .ret=>[]
def QBy(two:Bool)(x:QB)(o:Mor)(lo fo:Int)(sc:Nat→QK):List (Nat×Blk):=match two with
 | true=>(496,.rowz true 33 ksP x.scans.n fun i=>QA.enc (sc i))::leB x 496 lo fo::rwL 160 o.told::rwI 88 o.cells::laB x
 | false=>leB x 1 lo fo::rwL 160 o.told::rwI 88 o.cells::laB x
def QAZ(o:Mor):List (Nat×AV):=[(3,.ptr 8 0 0),(7,.slz 88 0 o.cells.length (.of 0)),(8,.int false .i64 o.al),(9,.int false .i64 o.e)]
def QBx(o:Mor)(j:Nat):List (Nat×AV):=[(10,.slz 160 0 o.told.length (.of 0)),(138,.slice true 232 0 3 (.lit 3)),(139,.int true .i64 3),(140,.int true .i64 j)]
def JJ(two:Bool)(x:QB)(o:Mor)(lo fo:Int)(sc:Nat→QK)(j:Nat):JSt:=⟨276,QAZ o++QBx o j,QBy two x o lo fo sc,536⟩
def ZL(o:Mor):JSt:=⟨276,QAZ o,rwI 88 o.cells::laB x,536⟩
def YH:Ex→List Nat
 | .normal=>[3,7,8,9,10,138,139,140]
 | .exit _=>[3,7,8,9]
 | .ret=>[6]
def qU(two:Bool)(x:QB)(o:Mor)(lo fo:Int)(sc:Nat→QK)(j:Nat)(p:List Int)(q:List QC)(k:Nat):JSt:=⟨276,QAZ o++QBx o j++[(18,.slz 640 0 p.length (.of 0)),(21,.slz 720 0 q.length (.of 0)),(187,.int false .i64 p.length),(188,.int false .i64 k)],rwI 640 p::rwL 720 q::QBy two x o lo fo sc,800⟩
def HY(two:Bool)(x:QB)(o:Mor)(lo fo:Int)(sc:Nat→QK)(j:Nat):JSt:=⟨276,QAZ o++QBx o j,QBy two x o lo fo sc,800⟩
def QDO:Ex→List Nat
 | .normal=>[3,7,8,9,10,138,139,140,18,21,187,188]
 | .exit _=>[3,7,8,9,10,138,139,140]
 | .ret=>[6]
def jl(o:Mor)(p:List Int)(k:Nat):JSt:=⟨276,[(7,.slz 88 0 o.cells.length (.of 0)),(25,.slz 640 0 p.length (.of 0)),(260,.int false .i64 p.length),(261,.int false .i64 k)],[rwI 640 p,rwI 88 o.cells],800⟩
def QAu:JSt:=⟨276,[],[],800⟩
def QM4:Ex→List Nat
 | .normal=>[7,25,260,261]
 | .exit _=>[]
 | .ret=>[6]
abbrev Xj(P:Program)(two:Bool)(x:QB)(o:Mor)(lo fo:Int)(sc:Nat→QK)(j:Nat)(y:QB):Hnd:={ hnd (mkS P KT) 3 with loop:=fun _=>Xo (KM y=0) (KD 8 [] (qU two x o lo fo sc j (QF y).1 (QL y).1 0) [(True,.exit 4,HY two x o lo fo sc j)]) }
noncomputable abbrev Y2(o:Mor)(s:Nat):List AV:=
  [.nilp,.ptr 276 0 0,.int false .u8 b.n,.ptr 8 0 0,.slz 88 0 o.cells.length cO,vi o.al,vi o.e,.slz 160 0 o.told.length cO,.slice
  true 232 0 3 (Cap.lit 3),vi (k:Int),vi (i64.wrap ((s:Int)+1))]
noncomputable abbrev Xw:List AV:=
  [vi x.d.play.length,vi x.d.play.slack,vi x.d.play.loose,vi x.d.play.damp.lo,vi x.d.play.damp.hi,.int false .i64
  x.d.wide,vi x.d.high,.bool false x.d.turn,.slz 0 0 x.d.ps.n cO,.slz 1 0 x.scans.n cO,.slz 2 0 x.hang.n cO,vi x.lost,.int
  false .i64 x.foreign]
noncomputable abbrev YC(o:Mor):Nat×Blk:=
  (88,.rowz true 3 [.int .i64] o.cells.length fun i=>QA.enc (o.cells.getD i 0))
noncomputable abbrev Ye(o:Mor):Nat×Blk:=
  (160,.rowz true 56 [.int .i64,.int .i64] o.told.length fun i=>QA.enc (o.told.getD i ⟨0,0⟩))
noncomputable abbrev QIV(x:QB):List AV:=
  [vi x.d.play.length,vi x.d.play.slack,vi x.d.play.loose,vi x.d.play.damp.lo,vi x.d.play.damp.hi,.int false .i64
  x.d.wide,vi x.d.high,.bool false x.d.turn,.slz 0 0 x.d.ps.n cO,.slz 1 0 x.scans.n cO,.slz 2 0 x.hang.n cO,vi lo,.int false
  .i64 x.foreign]
noncomputable abbrev QHv(x:QB):List AV:=
  [vi x.d.play.length,vi x.d.play.slack,vi x.d.play.loose,vi x.d.play.damp.lo,vi x.d.play.damp.hi,.int false .i64
  x.d.wide,vi x.d.high,.bool false x.d.turn,.slz 0 0 x.d.ps.n cO,.slz 1 0 x.scans.n cO,.slz 2 0 x.hang.n cO,vi x.lost,.int
  false .i64 fo]
noncomputable abbrev Zq(x:QB):Nat×Blk:=
  (232,.rowl 50 13 [(QIV lo x),(QHv fo x),[vi x.d.play.length,vi x.d.play.slack,vi x.d.play.loose,vi x.d.play.damp.lo,
  .int false .i64 x.d.play.damp.hi,vi x.d.wide,vi x.d.high,.bool false x.d.turn,.slz 0 0 x.d.ps.n cO,.slz 496 0 x.scans.n cO,.slz 2 0
  x.hang.n cO,vi x.lost,vi x.foreign]])
abbrev Kk:List CK:=
  [.int .i64,.int .i64,.int .i64,.int .i64,.int .i64,.int .i64,.int .i64,.int .i64,.int .i64,.int .i64,.int .i64,.int .i64,.int .i64,.int .i64,.int .i64,.int .i64,.int
  .i64,.int .i64,.int .i64,.int .i64,.int .i64,.int .i64,.int .i64,.int .i64,.int .i64,.int .i64,.int .i64,.int .i64]
noncomputable abbrev YE:Nat×Blk:=
  (2,.frz [.int .i64,.int .i64,.int .i64,.int .i64] x.hang.n fun i=>QA.enc (x.hang.get i))
noncomputable abbrev Wu:List AV:=
  [vi (min (t ((k:Int).toNat+0) (0+1+1+1+1)) (i64.wrap (t ((k:Int).toNat+0) (0+1+1+1)+i64.wrap b.n)))]
noncomputable abbrev QII:List AV:=
  [vi (max ((bif decide (k=k)then Qy (Wu b k t) 3 (t ((k:Int).toNat+0))else t ((k:Int).toNat+0)) 1) (i64.wrap ((bif decide (k=k)then Qy
  (Wu b k t) 3 (t ((k:Int).toNat+0))else t ((k:Int).toNat+0)) 2-i64.wrap ((i64.wrap b.n).tdiv (8:Int)))))]
noncomputable abbrev QMc(lo:Int)(o:Mor)(t:Nat→Nat→Int)(x:QB):List (Nat×Blk):=
  [(8,.cells 0 50 (Xw x)),(YC o),(Ye o),(Zq fo lo x),(0,.frz Kk x.d.ps.n fun i=>QA.enc (x.d.ps.get i)),(1,.frz Kk x.scans.n fun i=>QA.enc (x.scans.get
  i)),(YE x),(496,.rowz true 33 Kk x.scans.n fun i=>bif decide (i=k)then Qy (QII b k t) 2 (bif decide (k=k)then Qy (Wu b k t) 3 (t ((k:Int).toNat+0))else
  t ((k:Int).toNat+0))else bif decide (i=k)then Qy (Wu b k t) 3 (t ((k:Int).toNat+0))else t i)]
noncomputable abbrev WR(o:Mor)(t:Nat→Nat→Int)(x:QB):List (Nat×Blk):=
  [(8,.cells 0 50 (Xw x)),(YC o),(Ye o),(Zq fo lo x),(0,.frz Kk x.d.ps.n fun i=>QA.enc (x.d.ps.get i)),(1,.frz Kk x.scans.n fun i=>QA.enc (x.scans.get
  i)),(YE x),(496,.rowz true 33 Kk x.scans.n t)]
noncomputable abbrev jA:List AV:=
  [vi (min (t ((k:Int).toNat+0) (0+1+1+1+1+1+1+1+1+1+1+1)) (i64.wrap (t ((k:Int).toNat+0) (0+1+1+1+1+1+1+1+1+1 +
  1)+i64.wrap b.n)))]
noncomputable abbrev QKc:List AV:=
  [vi (max ((bif decide (k=k)then Qy (jA b k t) 10 (t ((k:Int).toNat+0))else t ((k:Int).toNat+0)) 8) (i64.wrap ((bif decide (k=k)then Qy
  (jA b k t) 10 (t ((k:Int).toNat+0))else t ((k:Int).toNat+0)) 9-i64.wrap ((i64.wrap b.n).tdiv (8:Int)))))]
noncomputable abbrev QGZ(lo:Int)(o:Mor)(t:Nat→Nat→Int)(x:QB):List (Nat×Blk):=
  [(8,.cells 0 50 (Xw x)),(YC o),(Ye o),(Zq fo lo x),(0,.frz Kk x.d.ps.n fun i=>QA.enc (x.d.ps.get i)),(1,.frz Kk x.scans.n fun i=>QA.enc (x.scans.get
  i)),(YE x),(496,.rowz true 33 Kk x.scans.n fun i=>bif decide (i=k)then Qy (QKc b k t) 9 (bif decide (k=k)then Qy (jA b k t) 10 (t ((k:Int).toNat+0))else
  t ((k:Int).toNat+0))else bif decide (i=k)then Qy (jA b k t) 10 (t ((k:Int).toNat+0))else t i)]
noncomputable abbrev qv:List AV:=
  [vi (min (t ((k:Int).toNat+0) (0+1+1+1+1+1+1+1+1+1+1+1+1+1+1+1+1+1+1)) (i64.wrap (t ((k:Int).toNat+0) (0+1+1+1
  + 1+1+1+1+1+1+1+1+1+1+1+1+1+1)+i64.wrap b.n)))]
noncomputable abbrev QKT:List AV:=
  [vi (max ((bif decide (k=k)then Qy (qv b k t) 17 (t ((k:Int).toNat+0))else t ((k:Int).toNat+0)) 15) (i64.wrap ((bif decide (k=k)then Qy
  (qv b k t) 17 (t ((k:Int).toNat+0))else t ((k:Int).toNat+0)) 16-i64.wrap ((i64.wrap b.n).tdiv (8:Int)))))]
noncomputable abbrev QGn(lo:Int)(o:Mor)(t:Nat→Nat→Int)(x:QB):List (Nat×Blk):=
  [(8,.cells 0 50 (Xw x)),(YC o),(Ye o),(Zq fo lo x),(0,.frz Kk x.d.ps.n fun i=>QA.enc (x.d.ps.get i)),(1,.frz Kk x.scans.n fun i=>QA.enc (x.scans.get
  i)),(YE x),(496,.rowz true 33 Kk x.scans.n fun i=>bif decide (i=k)then Qy (QKT b k t) 16 (bif decide (k=k)then Qy (qv b k t) 17 (t ((k:Int).toNat+0))
  else t ((k:Int).toNat+0))else bif decide (i=k)then Qy (qv b k t) 17 (t ((k:Int).toNat+0))else t i)]
noncomputable abbrev jP:List AV:=
  [vi (min (t ((k:Int).toNat+0) (0+1+1+1+1+1+1+1+1+1+1+1+1+1+1+1+1+1+1+1+1+1+1+1+1+1)) (i64.wrap (t ((k :
  Int).toNat+0) (0+1+1+1+1+1+1+1+1+1+1+1+1+1+1+1+1+1+1+1+1+1+1+1+1)+i64.wrap b.n)))]
noncomputable abbrev QHG:List AV:=
  [vi (max ((bif decide (k=k)then Qy (jP b k t) 24 (t ((k:Int).toNat+0))else t ((k:Int).toNat+0)) 22) (i64.wrap ((bif decide (k=k)then Qy
  (jP b k t) 24 (t ((k:Int).toNat+0))else t ((k:Int).toNat+0)) 23-i64.wrap ((i64.wrap b.n).tdiv (8:Int)))))]
noncomputable abbrev QLl(lo:Int)(o:Mor)(t:Nat→Nat→Int)(x:QB):List (Nat×Blk):=
  [(8,.cells 0 50 (Xw x)),(YC o),(Ye o),(Zq fo lo x),(0,.frz Kk x.d.ps.n fun i=>QA.enc (x.d.ps.get i)),(1,.frz Kk x.scans.n fun i=>QA.enc (x.scans.get
  i)),(YE x),(496,.rowz true 33 Kk x.scans.n fun i=>bif decide (i=k)then Qy (QHG b k t) 23 (bif decide (k=k)then Qy (jP b k t) 24 (t ((k:Int).toNat+0))
  else t ((k:Int).toNat+0))else bif decide (i=k)then Qy (jP b k t) 24 (t ((k:Int).toNat+0))else t i)]
theorem QT8(o:Mor)(lo fo:Int)(b:U8n)(k:Nat)(t:Nat→Nat→Int)(s:Nat)(g:Nat→Value):exec (mkF Try.prog KT) (hnd (mkF Try.prog KT) 3) (QV Try.f9 0) (JSt.inst (Yc x o lo fo b k t s) g) (KH [] QGT) = .br (decide ((s:Int)<4)) (.need (decide ((0 :
  Int)≤(k:Int)∧(k:Int)<(x.scans.n:Int))&&decide (x.scans.n≤x.scans.n)) (.need (decide ((0:Int)≤(s:Int)∧(s:Int)<4)) (.br (decide ((s:Int)=0)) (.need
  (decide (k<x.scans.n)) (.br (t ((k:Int).toNat+0) 0 != 0) (.need (decide (k<x.scans.n)) (.need (decide (k<x.scans.n)) (.need (decide (k<x.scans.n)) (.need (decide (k <
  x.scans.n)) (.need (decide (k<x.scans.n)) (.need (decide (k<x.scans.n)) (.leaf (.tup (Y2 b k o s)) ((QMc b fo k lo o t x))))))))) (.leaf (.tup (Y2 b k o s)) ((WR fo lo
  o t x))))) (.br (decide ((s:Int)=1)) (.need (decide (k<x.scans.n)) (.br (t ((k:Int).toNat+0) (0+1+1+1+1+1+1+1) != 0) (.need (decide (k<x.scans.n)) (.need
  (decide (k<x.scans.n)) (.need (decide (k<x.scans.n)) (.need (decide (k<x.scans.n)) (.need (decide (k<x.scans.n)) (.need (decide (k<x.scans.n)) (.leaf (.tup (Y2 b k o
  s)) ((QGZ b fo k lo o t x))))))))) (.leaf (.tup (Y2 b k o s)) ((WR fo lo o t x))))) (.br (decide ((s:Int)=2)) (.need (decide (k<x.scans.n)) (.br (t ((k:Int).toNat +
  0) (0+1+1+1+1+1+1+1+1+1+1+1+1+1+1) != 0) (.need (decide (k<x.scans.n)) (.need (decide (k<x.scans.n)) (.need (decide (k<x.scans.n)) (.need (decide
  (k<x.scans.n)) (.need (decide (k<x.scans.n)) (.need (decide (k<x.scans.n)) (.leaf (.tup (Y2 b k o s)) ((QGn b fo k lo o t x))))))))) (.leaf (.tup (Y2 b k o s)) ((WR
  fo lo o t x))))) (.need (decide (k<x.scans.n)) (.br (t ((k:Int).toNat+0) (0+1+1+1+1+1+1+1+1+1+1+1+1+1+1+1+1+1+1+1+1+1) != 0) (.need
  (decide (k<x.scans.n)) (.need (decide (k<x.scans.n)) (.need (decide (k<x.scans.n)) (.need (decide (k<x.scans.n)) (.need (decide (k<x.scans.n)) (.need (decide (k <
  x.scans.n)) (.leaf (.tup (Y2 b k o s)) ((QLl b fo k lo o t x))))))))) (.leaf (.tup (Y2 b k o s)) ((WR fo lo o t x)))))))))) (.leaf (.tup [.ptr 0 0 0,.ptr 276 0 0,.ptr 8
  0 0,.slz 88 0 o.cells.length cO,vi o.al,vi o.e,.slz 160 0 o.told.length cO,.slice true 232 0 3 (Cap.lit 3)]) ((WR fo lo o t x))):=by kernel_rfl
noncomputable abbrev vT(o:Mor)(s:Nat):List AV:=
  [.int false .u8 b.n,.ptr 8 0 0,.slz 88 0 o.cells.length cO,vi o.al,vi o.e,.slz 160 0 o.told.length cO,.slice true 232 0 3 (Cap.lit
  3),vi (k:Int),vi (i64.wrap ((s:Int)+1))]
abbrev Jm(o:Mor):List Prop:=
  [0=0,0=0,0=0,o.cells.length=o.cells.length,cO=cO,o.al=o.al,o.e=o.e,0=0,o.told.length=o.told.length,cO=cO,0=0,3=3,Cap.lit
  3=Cap.lit 3]
abbrev Qn:List Prop:=
  [x.d.play.slack=x.d.play.slack,x.d.play.loose=x.d.play.loose,x.d.play.damp.lo=x.d.play.damp.lo,x.d.play.damp.hi=x.d.play.damp.hi,x.d.wide=x.d.wide,x.d.high =
  x.d.high,x.d.turn=x.d.turn,0=0,x.d.ps.n=x.d.ps.n,cO=cO,0=0,x.scans.n=x.scans.n,cO=cO,0=0,x.hang.n=x.hang.n,cO=cO]
abbrev J7(o:Mor)(x:QB):List Prop:=
  [x.foreign=x.foreign,o.told.length≤o.told.length,QE 2 o.told.length (fun i=>QA.enc (o.told.getD i ⟨0,0⟩)) fun i=>QA.enc (o.told.getD i ⟨0,0⟩),o.cells.length ≤
  o.cells.length,QE 1 o.cells.length (fun i=>QA.enc (o.cells.getD i 0)) fun i=>QA.enc (o.cells.getD i 0),x.d.play.length=x.d.play.length]
abbrev Jq:List Prop:=
  [x.lost=x.lost,x.foreign=x.foreign,x.d.ps.n≤x.d.ps.n,QE 28 x.d.ps.n (fun i=>QA.enc (x.d.ps.get i)) fun i=>QA.enc (x.d.ps.get i),x.scans.n≤x.scans.n,QE
  28 x.scans.n (fun i=>QA.enc (x.scans.get i)) fun i=>QA.enc (x.scans.get i),x.hang.n≤x.hang.n,QE 4 x.hang.n (fun i=>QA.enc (x.hang.get i)) fun i=>QA.enc
  (x.hang.get i)]
theorem QQS(o:Mor)(lo fo:Int)(b:U8n)(k:Nat)(t:Nat→Nat→Int)(s:Nat)(t':Nat→Nat→Int)(s':Nat):QM 8 (vT b k o s) ((QMc b fo k lo o t x)) (Yc x o lo fo b k t' s')=(some ([b.n=b.n]++(Jm o)++[(k:Int)=(k:Int),i64.wrap ((s:Int)+1)=(s' :
  Int),x.scans.n≤x.scans.n,QE 28 x.scans.n (fun i=>bif decide (i=k)then Qy (QII b k t) 2 (bif decide (k=k)then Qy (Wu b k t) 3 (t ((k:Int).toNat+0))else
  t ((k:Int).toNat+0))else bif decide (i=k)then Qy (Wu b k t) 3 (t ((k:Int).toNat+0))else t i) t',x.d.play.length=x.d.play.length]++(Qn x)++[lo=lo,
  x.foreign=x.foreign,x.d.play.length=x.d.play.length]++(Qn x)++[x.lost=x.lost,fo=fo,x.d.play.length=x.d.play.length]++(Qn x)++[x.lost=x.lost]++(J7 o
  x)++(Qn x)++(Jq x))):=by kernel_rfl
theorem G6(o:Mor)(lo fo:Int)(b:U8n)(k:Nat)(t:Nat→Nat→Int)(s:Nat)(t':Nat→Nat→Int)(s':Nat):QM 8 (vT b k o s) ((WR fo lo o t x)) (Yc x o lo fo b k t' s')=(some ([b.n=b.n]++(Jm o)++[(k:Int)=(k:Int),i64.wrap ((s:Int)+1)=(s':Int),
  x.scans.n≤x.scans.n,QE 28 x.scans.n t t',x.d.play.length=x.d.play.length]++(Qn x)++[lo=lo,x.foreign=x.foreign,x.d.play.length=x.d.play.length]++(Qn x)
  ++ [x.lost=x.lost,fo=fo,x.d.play.length=x.d.play.length]++(Qn x)++[x.lost=x.lost]++(J7 o x)++(Qn x)++(Jq x))):=by kernel_rfl
theorem QNh(o:Mor)(lo fo:Int)(b:U8n)(k:Nat)(t:Nat→Nat→Int)(s:Nat)(t':Nat→Nat→Int)(s':Nat):QM 8 (vT b k o s) ((QGZ b fo k lo o t x)) (Yc x o lo fo b k t' s')=(some ([b.n=b.n]++(Jm o)++[(k:Int)=(k:Int),i64.wrap ((s:Int)+1)=(s' :
  Int),x.scans.n≤x.scans.n,QE 28 x.scans.n (fun i=>bif decide (i=k)then Qy (QKc b k t) 9 (bif decide (k=k)then Qy (jA b k t) 10 (t ((k:Int).toNat+0))else
  t ((k:Int).toNat+0))else bif decide (i=k)then Qy (jA b k t) 10 (t ((k:Int).toNat+0))else t i) t',x.d.play.length=x.d.play.length]++(Qn x)++[lo=lo,
  x.foreign=x.foreign,x.d.play.length=x.d.play.length]++(Qn x)++[x.lost=x.lost,fo=fo,x.d.play.length=x.d.play.length]++(Qn x)++[x.lost=x.lost]++(J7 o
  x)++(Qn x)++(Jq x))):=by kernel_rfl
theorem QOz(o:Mor)(lo fo:Int)(b:U8n)(k:Nat)(t:Nat→Nat→Int)(s:Nat)(t':Nat→Nat→Int)(s':Nat):QM 8 (vT b k o s) ((QGn b fo k lo o t x)) (Yc x o lo fo b k t' s')=(some ([b.n=b.n]++(Jm o)++[(k:Int)=(k:Int),i64.wrap ((s:Int)+1)=(s' :
  Int),x.scans.n≤x.scans.n,QE 28 x.scans.n (fun i=>bif decide (i=k)then Qy (QKT b k t) 16 (bif decide (k=k)then Qy (qv b k t) 17 (t ((k:Int).toNat+0))else
  t ((k:Int).toNat+0))else bif decide (i=k)then Qy (qv b k t) 17 (t ((k:Int).toNat+0))else t i) t',x.d.play.length=x.d.play.length]++(Qn x)++[lo=lo,
  x.foreign=x.foreign,x.d.play.length=x.d.play.length]++(Qn x)++[x.lost=x.lost,fo=fo,x.d.play.length=x.d.play.length]++(Qn x)++[x.lost=x.lost]++(J7 o
  x)++(Qn x)++(Jq x))):=by kernel_rfl
theorem QSB(o:Mor)(lo fo:Int)(b:U8n)(k:Nat)(t:Nat→Nat→Int)(s:Nat)(t':Nat→Nat→Int)(s':Nat):QM 8 (vT b k o s) ((QLl b fo k lo o t x)) (Yc x o lo fo b k t' s')=(some ([b.n=b.n]++(Jm o)++[(k:Int)=(k:Int),i64.wrap ((s:Int)+1)=(s' :
  Int),x.scans.n≤x.scans.n,QE 28 x.scans.n (fun i=>bif decide (i=k)then Qy (QHG b k t) 23 (bif decide (k=k)then Qy (jP b k t) 24 (t ((k:Int).toNat+0))else
  t ((k:Int).toNat+0))else bif decide (i=k)then Qy (jP b k t) 24 (t ((k:Int).toNat+0))else t i) t',x.d.play.length=x.d.play.length]++(Qn x)++[lo=lo,
  x.foreign=x.foreign,x.d.play.length=x.d.play.length]++(Qn x)++[x.lost=x.lost,fo=fo,x.d.play.length=x.d.play.length]++(Qn x)++[x.lost=x.lost]++(J7 o
  x)++(Qn x)++(Jq x))):=by kernel_rfl
theorem QO3(o:Mor)(lo fo:Int)(t:Nat→Nat→Int)(sc:Nat→QK):QM 8 [.ptr 8 0 0,.slz 88 0 o.cells.length cO,vi o.al,vi o.e,.slz 160 0 o.told.length cO,.slice true 232 0 3 (Cap.lit 3)] ((WR fo
  lo o t x)) (zp x o lo fo sc)=(some ((Jm o)++[x.scans.n≤x.scans.n,QE 28 x.scans.n t fun i=>QA.enc (sc i),x.d.play.length=x.d.play.length]++(Qn x)++[lo
  = lo,x.foreign=x.foreign,x.d.play.length=x.d.play.length]++(Qn x)++[x.lost=x.lost,fo=fo,x.d.play.length=x.d.play.length]++(Qn x)++[x.lost=x.lost] ++
  (J7 o x)++(Qn x)++(Jq x))):=by kernel_rfl
noncomputable abbrev G7(k:Nat)(o:Mor)(p:List Int)(q:List QC):List AV:=
  [.nilp,.ptr 276 0 0,.ptr 8 0 0,.slz 88 0 o.cells.length cO,vi o.al,vi o.e,.slz 160 0 o.told.length cO,.slice true 232 0 3 (Cap.lit
  3),vj 3,vj (j:Int),.slz 640 0 p.length cO,.slz 720 0 q.length cO,vi (p.length:Int),vi (i64.wrap
  ((k:Int)+1))]
noncomputable abbrev QMd(x:QB):Nat×Blk:=
  (232,.rowl 50 13 [(QIV lo x),(QHv fo x),(Xw x)])
noncomputable abbrev QCm(o:Mor)(p:List Int)(q:List QC)(x:QB):List (Nat×Blk):=
  [(8,.cells 0 50 (Xw x)),(YC o),(Ye o),(QMd fo lo x),(640,.rowz true 3 [.int .i64] p.length fun i=>QA.enc (p.getD i 0)),(720,.rowz true 56 [.int .i64,.int
  .i64] q.length fun i=>QA.enc (q.getD i ⟨0,0⟩)),(0,.frz Kk x.d.ps.n fun i=>QA.enc (x.d.ps.get i)),(1,.frz Kk x.scans.n fun i=>QA.enc (x.scans.get i)),(YE x)]
noncomputable abbrev QKY(o:Mor):List AV:=
  [.ptr 4 0 0,.ptr 276 0 0,.ptr 8 0 0,.slz 88 0 o.cells.length cO,vi o.al,vi o.e,.slz 160 0 o.told.length cO,.slice true 232 0 3
  (Cap.lit 3),vj 3,vj (j:Int)]
noncomputable abbrev Xb(o:Mor)(x:QB):List (Nat×Blk):=
  [(8,.cells 0 50 (Xw x)),(YC o),(Ye o),(QMd fo lo x),(0,.frz Kk x.d.ps.n fun i=>QA.enc (x.d.ps.get i)),(1,.frz Kk x.scans.n fun i=>QA.enc (x.scans.get
  i)),(YE x)]
theorem QVe(o:Mor)(lo fo:Int)(sc:Nat→QK)(j:Nat)(p:List Int)(q:List QC)(k:Nat)(g:Nat→Value):exec (mkE Try.prog KT) (hnd (mkE Try.prog KT) 3) (Xl (QV Try.f9 1)) (JSt.inst (qU false x o lo fo sc j p q k) g) (KH [] QDO) = .br (decide ((k:Int) <
  (p.length:Int))) (.need (decide ((0:Int)≤(k:Int)∧(k:Int)<(p.length:Int))&&decide (p.length≤p.length)) (.need (decide (k<p.length)) (.need (decide ((0:Int) ≤
  (k:Int)∧(k:Int)<(o.cells.length:Int))&&decide (o.cells.length≤o.cells.length)) (.need (decide (k<o.cells.length)) (.br (i64.wrap (↑(BitVec.ofInt 64 (p.getD k
  0) &&& ~~~BitVec.ofInt 64 (o.cells.getD k 0)).toNat:Int) != 0) (.leaf (.tup [.nili,.ptr 276 0 0,.bool true false]) ([])) (.need (decide ((0:Int)≤(k:Int)∧(k:Int) <
  (o.told.length:Int))&&decide (o.told.length≤o.told.length)) (.need (decide (k<o.told.length)) (.br ((o.told.getD k ⟨0,0⟩).cell != -1) (.need (decide ((0:Int)≤(k:Int)
  ∧ (k:Int)<(q.length:Int))&&decide (q.length≤q.length)) (.need (decide (k<q.length)) (.need (decide ((0:Int)≤(k:Int)∧(k:Int)<(o.told.length:Int))&&decide
  (o.told.length≤o.told.length)) (.need (decide (k<o.told.length)) (.br ((q.getD k ⟨0,0⟩).cell != (o.told.getD k ⟨0,0⟩).cell) (.leaf (.tup [.nili,.ptr 276 0 0,.bool true
  false]) ([])) (.leaf (.tup (G7 j k o p q)) ((QCm fo lo o p q x)))))))) (.leaf (.tup (G7 j k o p q)) ((QCm fo lo o p q x))))))))))) (.leaf (.tup (QKY j o)) ((Xb fo lo o
  x))):=by kernel_rfl
noncomputable abbrev QAh(o:Mor):List AV:=
  [.nilp,.ptr 276 0 0,.ptr 8 0 0,.slz 88 0 o.cells.length cO,vi o.al,vi o.e,.slz 160 0 o.told.length cO,.slice true 232 0 3 (Cap.lit
  3),vj 3,vj 1]
theorem QVP(o:Mor)(lo fo:Int)(sc:Nat→QK)(y:QB)(g:Nat→Value):exec (mkS Try.prog KT) (Xj Try.prog false x o lo fo sc 0 y) (QV Try.f9 1) (JSt.inst (JJ false x o lo fo sc 0) g) (KH [] YH) = .need (decide (x.d.ps.n≤x.d.ps.n) &&
  (decide (x.scans.n≤x.scans.n)&&(decide (x.hang.n≤x.hang.n)&&true))&&decide (x.d.ps.n≤1000∧x.scans.n≤1000∧x.hang.n≤1000)) (.need (decide (x.d.ps.n≤x.d.ps.n) &&
  (decide (x.scans.n≤x.scans.n)&&(decide (x.hang.n≤x.hang.n)&&true))&&decide (x.d.ps.n≤1000∧x.scans.n≤1000∧x.hang.n≤1000)) (.need (!!(QF (QB.mk x.d x.scans
  x.hang lo x.foreign)).2.2 != (QL (QB.mk x.d x.scans x.hang lo x.foreign)).2 || !(QF (QB.mk x.d x.scans x.hang lo x.foreign)).2.2 != (QL (QB.mk x.d x.scans x.hang lo
  x.foreign)).2) (.need (!!(QF (QB.mk x.d x.scans x.hang lo x.foreign)).2.2 != (QL (QB.mk x.d x.scans x.hang lo x.foreign)).2 || !(QF (QB.mk x.d x.scans x.hang lo
  x.foreign)).2.2 != (QL (QB.mk x.d x.scans x.hang lo x.foreign)).2) (.need (!(!(QF (QB.mk x.d x.scans x.hang lo x.foreign)).2.2 != (QL (QB.mk x.d x.scans x.hang lo
  x.foreign)).2&&(QF (QB.mk x.d x.scans x.hang lo x.foreign)).2.2==0) || !(QF (QB.mk x.d x.scans x.hang lo x.foreign)).2.2 != (QL (QB.mk x.d x.scans x.hang lo
  x.foreign)).2&&(QF (QB.mk x.d x.scans x.hang lo x.foreign)).2.2==0) (.need (!!(QF (QB.mk x.d x.scans x.hang lo x.foreign)).2.2 != (QL (QB.mk x.d x.scans
  x.hang lo x.foreign)).2 || !(QF (QB.mk x.d x.scans x.hang lo x.foreign)).2.2 != (QL (QB.mk x.d x.scans x.hang lo x.foreign)).2&&(!(QF (QB.mk x.d x.scans x.hang
  lo x.foreign)).2.2==0 || !(QF (QB.mk x.d x.scans x.hang lo x.foreign)).2.2 != (QL (QB.mk x.d x.scans x.hang lo x.foreign)).2&&(QF (QB.mk x.d x.scans x.hang lo
  x.foreign)).2.2==0)) (.bnd ((QF (QB.mk x.d x.scans x.hang lo x.foreign)).2.2==0&&o.e != 0) (fun(x0:Bool) => .need ((QF (QB.mk x.d x.scans x.hang lo
  x.foreign)).2.2 != (QL (QB.mk x.d x.scans x.hang lo x.foreign)).2 || !(QF (QB.mk x.d x.scans x.hang lo x.foreign)).2.2 != (QL (QB.mk x.d x.scans x.hang lo
  x.foreign)).2) (.bnd ((QF (QB.mk x.d x.scans x.hang lo x.foreign)).2.2 != (QL (QB.mk x.d x.scans x.hang lo x.foreign)).2||x0) (fun(x1:Bool) => .br (x1) (.leaf (.tup
  [.nili,.ptr 276 0 0,.bool true false]) ([])) (.br ((QF (QB.mk x.d x.scans x.hang lo x.foreign)).2.2 != 0) (.leaf (.tup (QAh o)) ((Xb fo lo o x))) (.need (!!(↑(QF
  (QB.mk x.d x.scans x.hang lo x.foreign)).1.length:Int) != (o.cells.length:Int) || !(↑(QF (QB.mk x.d x.scans x.hang lo x.foreign)).1.length:Int) != (o.cells.length :
  Int)) (.need (!!(↑(QF (QB.mk x.d x.scans x.hang lo x.foreign)).1.length:Int) != (o.cells.length:Int) || !(↑(QF (QB.mk x.d x.scans x.hang lo x.foreign)).1.length :
  Int) != (o.cells.length:Int)) (.need (!!(↑(QF (QB.mk x.d x.scans x.hang lo x.foreign)).1.length:Int) != (o.cells.length:Int) || !(↑(QF (QB.mk x.d x.scans x.hang
  lo x.foreign)).1.length:Int) != (o.cells.length:Int) && !(↑(QF (QB.mk x.d x.scans x.hang lo x.foreign)).1.length:Int) != (o.cells.length:Int)) (.need ((↑(QF
  (QB.mk x.d x.scans x.hang lo x.foreign)).1.length:Int) != (o.cells.length:Int) || !(↑(QF (QB.mk x.d x.scans x.hang lo x.foreign)).1.length:Int) != (o.cells.length :
  Int)) (.bnd ((↑(QF (QB.mk x.d x.scans x.hang lo x.foreign)).1.length:Int) != (o.cells.length:Int)||(↑(QL (QB.mk x.d x.scans x.hang lo x.foreign)).1.length:Int)
  != (o.told.length:Int)) (fun(x2:Bool) => .need (!!x2 || !x2 && !x2) (.need (!!x2 || !x2) (.need (x2 || !x2) (.bnd (x2||i64.wrap (↑(BitVec.ofInt 64 (QF (QB.mk
  x.d x.scans x.hang lo x.foreign)).2.1 &&& ~~~BitVec.ofInt 64 o.al).toNat:Int) != 0) (fun(x3:Bool) => .br (x3) (.leaf (.tup [.nili,.ptr 276 0 0,.bool true false]) ([])) (.ask
  (KM y=0) (.ask (0=0) (.ask (0=0) (.ask (0=0) (.ask (o.cells.length=o.cells.length) (.ask (cO=cO) (.ask (o.al=o.al) (.ask (o.e=o.e) (.ask (0=0) (.ask
  (o.told.length=o.told.length) (.ask (cO=cO) (.ask (0=0) (.ask (3=3) (.ask (Cap.lit 3=Cap.lit 3) (.ask ((3:Int)=3) (.ask ((0:Int)=0) (.ask (0=0) (.ask
  ((QF (QB.mk x.d x.scans x.hang lo x.foreign)).1.length=(QF y).1.length) (.ask (cO=cO) (.ask (0=0) (.ask ((QL (QB.mk x.d x.scans x.hang lo
  x.foreign)).1.length=(QL y).1.length) (.ask (cO=cO) (.ask ((↑(QF (QB.mk x.d x.scans x.hang lo x.foreign)).1.length:Int)=(↑(QF y).1.length:Int))
  (.ask ((0:Int)=0) (.ask ((QF y).1.length≤(QF (QB.mk x.d x.scans x.hang lo x.foreign)).1.length) (.ask (QE 1 (QF y).1.length (fun i=>QA.enc ((QF
  (QB.mk x.d x.scans x.hang lo x.foreign)).1.getD i 0)) fun i=>QA.enc ((QF y).1.getD i 0)) (.ask ((QL y).1.length≤(QL (QB.mk x.d x.scans x.hang lo
  x.foreign)).1.length) (.ask (QE 2 (QL y).1.length (fun i=>QA.enc ((QL (QB.mk x.d x.scans x.hang lo x.foreign)).1.getD i ⟨0,0⟩)) fun i=>QA.enc ((QL y).1.getD
  i ⟨0,0⟩)) (.ask (x.d.play.length=x.d.play.length) (.ask (x.d.play.slack=x.d.play.slack) (.ask (x.d.play.loose=x.d.play.loose) (.ask (x.d.play.damp.lo=x.d.play.damp.lo)
  (.ask (x.d.play.damp.hi=x.d.play.damp.hi) (.ask (x.d.wide=x.d.wide) (.ask (x.d.high=x.d.high) (.ask (x.d.turn=x.d.turn) (.ask (0=0) (.ask (x.d.ps.n=x.d.ps.n) (.ask
  (cO=cO) (.ask (0=0) (.ask (x.scans.n=x.scans.n) (.ask (cO=cO) (.ask (0=0) (.ask (x.hang.n=x.hang.n) (.ask (cO=cO) (.ask (lo=lo)
  (.ask (x.foreign=x.foreign) (.ask (x.d.play.length=x.d.play.length) (.ask (x.d.play.slack=x.d.play.slack) (.ask (x.d.play.loose=x.d.play.loose) (.ask (x.d.play.damp.lo =
  x.d.play.damp.lo) (.ask (x.d.play.damp.hi=x.d.play.damp.hi) (.ask (x.d.wide=x.d.wide) (.ask (x.d.high=x.d.high) (.ask (x.d.turn=x.d.turn) (.ask (0=0) (.ask (x.d.ps.n =
  x.d.ps.n) (.ask (cO=cO) (.ask (0=0) (.ask (x.scans.n=x.scans.n) (.ask (cO=cO) (.ask (0=0) (.ask (x.hang.n=x.hang.n) (.ask (cO=cO)
  (.ask (x.lost=x.lost) (.ask (fo=fo) (.ask (x.d.play.length=x.d.play.length) (.ask (x.d.play.slack=x.d.play.slack) (.ask (x.d.play.loose=x.d.play.loose) (.ask
  (x.d.play.damp.lo=x.d.play.damp.lo) (.ask (x.d.play.damp.hi=x.d.play.damp.hi) (.ask (x.d.wide=x.d.wide) (.ask (x.d.high=x.d.high) (.ask (x.d.turn=x.d.turn) (.ask (0=0)
  (.ask (x.d.ps.n=x.d.ps.n) (.ask (cO=cO) (.ask (0=0) (.ask (x.scans.n=x.scans.n) (.ask (cO=cO) (.ask (0=0) (.ask (x.hang.n=x.hang.n) (.ask
  (cO=cO) (.ask (x.lost=x.lost) (.ask (x.foreign=x.foreign) (.ask (o.told.length≤o.told.length) (.ask (QE 2 o.told.length (fun i=>QA.enc (o.told.getD i ⟨0,
  0⟩)) fun i=>QA.enc (o.told.getD i ⟨0,0⟩)) (.ask (o.cells.length≤o.cells.length) (.ask (QE 1 o.cells.length (fun i=>QA.enc (o.cells.getD i 0)) fun i=>QA.enc
  (o.cells.getD i 0)) (.ask (x.d.play.length=x.d.play.length) (.ask (x.d.play.slack=x.d.play.slack) (.ask (x.d.play.loose=x.d.play.loose) (.ask (x.d.play.damp.lo =
  x.d.play.damp.lo) (.ask (x.d.play.damp.hi=x.d.play.damp.hi) (.ask (x.d.wide=x.d.wide) (.ask (x.d.high=x.d.high) (.ask (x.d.turn=x.d.turn) (.ask (0=0) (.ask (x.d.ps.n =
  x.d.ps.n) (.ask (cO=cO) (.ask (0=0) (.ask (x.scans.n=x.scans.n) (.ask (cO=cO) (.ask (0=0) (.ask (x.hang.n=x.hang.n) (.ask (cO=cO)
  (.ask (x.lost=x.lost) (.ask (x.foreign=x.foreign) (.ask (x.d.ps.n≤x.d.ps.n) (.ask (QE 28 x.d.ps.n (fun i=>QA.enc (x.d.ps.get i)) fun i=>QA.enc (x.d.ps.get i))
  (.ask (x.scans.n≤x.scans.n) (.ask (QE 28 x.scans.n (fun i=>QA.enc (x.scans.get i)) fun i=>QA.enc (x.scans.get i)) (.ask (x.hang.n≤x.hang.n) (.ask (QE 4 x.hang.n
  (fun i=>QA.enc (x.hang.get i)) fun i=>QA.enc (x.hang.get i)) (.asm (True) (.all (fun(g4:Nat→Value) => .leaf (.tup (QAh o)) ((Xb fo lo o
  x))))))))))))))))))))))))))))))))))))))))))))))))))))))))))))))))))))))))))))))))))))))))))))))))))))))))))))))))))))))))))))))))))))))))))):=by kernel_rfl
noncomputable abbrev GE(o:Mor):List AV:=
  [.nilp,.ptr 276 0 0,.ptr 8 0 0,.slz 88 0 o.cells.length cO,vi o.al,vi o.e,.slz 160 0 o.told.length cO,.slice true 232 0 3 (Cap.lit
  3),vj 3,vj 2]
theorem QVS(o:Mor)(lo fo:Int)(sc:Nat→QK)(y:QB)(g:Nat→Value):exec (mkS Try.prog KT) (Xj Try.prog false x o lo fo sc 1 y) (QV Try.f9 1) (JSt.inst (JJ false x o lo fo sc 1) g) (KH [] YH) = .need (decide (x.d.ps.n≤x.d.ps.n) &&
  (decide (x.scans.n≤x.scans.n)&&(decide (x.hang.n≤x.hang.n)&&true))&&decide (x.d.ps.n≤1000∧x.scans.n≤1000∧x.hang.n≤1000)) (.need (decide (x.d.ps.n≤x.d.ps.n) &&
  (decide (x.scans.n≤x.scans.n)&&(decide (x.hang.n≤x.hang.n)&&true))&&decide (x.d.ps.n≤1000∧x.scans.n≤1000∧x.hang.n≤1000)) (.need (!!(QF (QB.mk x.d x.scans
  x.hang x.lost fo)).2.2 != (QL (QB.mk x.d x.scans x.hang x.lost fo)).2 || !(QF (QB.mk x.d x.scans x.hang x.lost fo)).2.2 != (QL (QB.mk x.d x.scans x.hang x.lost
  fo)).2) (.need (!!(QF (QB.mk x.d x.scans x.hang x.lost fo)).2.2 != (QL (QB.mk x.d x.scans x.hang x.lost fo)).2 || !(QF (QB.mk x.d x.scans x.hang x.lost fo)).2.2
  != (QL (QB.mk x.d x.scans x.hang x.lost fo)).2) (.need (!(!(QF (QB.mk x.d x.scans x.hang x.lost fo)).2.2 != (QL (QB.mk x.d x.scans x.hang x.lost fo)).2&&(QF
  (QB.mk x.d x.scans x.hang x.lost fo)).2.2==0) || !(QF (QB.mk x.d x.scans x.hang x.lost fo)).2.2 != (QL (QB.mk x.d x.scans x.hang x.lost fo)).2&&(QF (QB.mk
  x.d x.scans x.hang x.lost fo)).2.2==0) (.need (!!(QF (QB.mk x.d x.scans x.hang x.lost fo)).2.2 != (QL (QB.mk x.d x.scans x.hang x.lost fo)).2 || !(QF (QB.mk x.d
  x.scans x.hang x.lost fo)).2.2 != (QL (QB.mk x.d x.scans x.hang x.lost fo)).2&&(!(QF (QB.mk x.d x.scans x.hang x.lost fo)).2.2==0 || !(QF (QB.mk x.d x.scans
  x.hang x.lost fo)).2.2 != (QL (QB.mk x.d x.scans x.hang x.lost fo)).2&&(QF (QB.mk x.d x.scans x.hang x.lost fo)).2.2==0)) (.bnd ((QF (QB.mk x.d x.scans x.hang
  x.lost fo)).2.2==0&&o.e != 0) (fun(x0:Bool) => .need ((QF (QB.mk x.d x.scans x.hang x.lost fo)).2.2 != (QL (QB.mk x.d x.scans x.hang x.lost fo)).2 || !(QF
  (QB.mk x.d x.scans x.hang x.lost fo)).2.2 != (QL (QB.mk x.d x.scans x.hang x.lost fo)).2) (.bnd ((QF (QB.mk x.d x.scans x.hang x.lost fo)).2.2 != (QL (QB.mk x.d
  x.scans x.hang x.lost fo)).2||x0) (fun(x1:Bool) => .br (x1) (.leaf (.tup [.nili,.ptr 276 0 0,.bool true false]) ([])) (.br ((QF (QB.mk x.d x.scans x.hang x.lost
  fo)).2.2 != 0) (.leaf (.tup (GE o)) ((Xb fo lo o x))) (.need (!!(↑(QF (QB.mk x.d x.scans x.hang x.lost fo)).1.length:Int) != (o.cells.length:Int) || !(↑(QF
  (QB.mk x.d x.scans x.hang x.lost fo)).1.length:Int) != (o.cells.length:Int)) (.need (!!(↑(QF (QB.mk x.d x.scans x.hang x.lost fo)).1.length:Int) != (o.cells.length :
  Int) || !(↑(QF (QB.mk x.d x.scans x.hang x.lost fo)).1.length:Int) != (o.cells.length:Int)) (.need (!!(↑(QF (QB.mk x.d x.scans x.hang x.lost fo)).1.length:Int)
  != (o.cells.length:Int) || !(↑(QF (QB.mk x.d x.scans x.hang x.lost fo)).1.length:Int) != (o.cells.length:Int) && !(↑(QF (QB.mk x.d x.scans x.hang x.lost
  fo)).1.length:Int) != (o.cells.length:Int)) (.need ((↑(QF (QB.mk x.d x.scans x.hang x.lost fo)).1.length:Int) != (o.cells.length:Int) || !(↑(QF (QB.mk x.d
  x.scans x.hang x.lost fo)).1.length:Int) != (o.cells.length:Int)) (.bnd ((↑(QF (QB.mk x.d x.scans x.hang x.lost fo)).1.length:Int) != (o.cells.length:Int)||(↑(QL
  (QB.mk x.d x.scans x.hang x.lost fo)).1.length:Int) != (o.told.length:Int)) (fun(x2:Bool) => .need (!!x2 || !x2 && !x2) (.need (!!x2 || !x2) (.need (x2 || !x2) (.bnd (x2 ||
  i64.wrap (↑(BitVec.ofInt 64 (QF (QB.mk x.d x.scans x.hang x.lost fo)).2.1 &&& ~~~BitVec.ofInt 64 o.al).toNat:Int) != 0) (fun(x3:Bool) => .br (x3) (.leaf (.tup
  [.nili,.ptr 276 0 0,.bool true false]) ([])) (.ask (KM y=0) (.ask (0=0) (.ask (0=0) (.ask (0=0) (.ask (o.cells.length=o.cells.length) (.ask (cO=cO) (.ask
  (o.al=o.al) (.ask (o.e=o.e) (.ask (0=0) (.ask (o.told.length=o.told.length) (.ask (cO=cO) (.ask (0=0) (.ask (3=3) (.ask (Cap.lit 3=Cap.lit 3) (.ask ((3 :
  Int)=3) (.ask ((1:Int)=1) (.ask (0=0) (.ask ((QF (QB.mk x.d x.scans x.hang x.lost fo)).1.length=(QF y).1.length) (.ask (cO=cO) (.ask (0=0)
  (.ask ((QL (QB.mk x.d x.scans x.hang x.lost fo)).1.length=(QL y).1.length) (.ask (cO=cO) (.ask ((↑(QF (QB.mk x.d x.scans x.hang x.lost fo)).1.length :
  Int)=(↑(QF y).1.length:Int)) (.ask ((0:Int)=0) (.ask ((QF y).1.length≤(QF (QB.mk x.d x.scans x.hang x.lost fo)).1.length) (.ask (QE 1 (QF
  y).1.length (fun i=>QA.enc ((QF (QB.mk x.d x.scans x.hang x.lost fo)).1.getD i 0)) fun i=>QA.enc ((QF y).1.getD i 0)) (.ask ((QL y).1.length≤(QL (QB.mk
  x.d x.scans x.hang x.lost fo)).1.length) (.ask (QE 2 (QL y).1.length (fun i=>QA.enc ((QL (QB.mk x.d x.scans x.hang x.lost fo)).1.getD i ⟨0,0⟩)) fun i=>QA.enc
  ((QL y).1.getD i ⟨0,0⟩)) (.ask (x.d.play.length=x.d.play.length) (.ask (x.d.play.slack=x.d.play.slack) (.ask (x.d.play.loose=x.d.play.loose) (.ask (x.d.play.damp.lo =
  x.d.play.damp.lo) (.ask (x.d.play.damp.hi=x.d.play.damp.hi) (.ask (x.d.wide=x.d.wide) (.ask (x.d.high=x.d.high) (.ask (x.d.turn=x.d.turn) (.ask (0=0) (.ask (x.d.ps.n =
  x.d.ps.n) (.ask (cO=cO) (.ask (0=0) (.ask (x.scans.n=x.scans.n) (.ask (cO=cO) (.ask (0=0) (.ask (x.hang.n=x.hang.n) (.ask (cO=cO)
  (.ask (lo=lo) (.ask (x.foreign=x.foreign) (.ask (x.d.play.length=x.d.play.length) (.ask (x.d.play.slack=x.d.play.slack) (.ask (x.d.play.loose=x.d.play.loose) (.ask
  (x.d.play.damp.lo=x.d.play.damp.lo) (.ask (x.d.play.damp.hi=x.d.play.damp.hi) (.ask (x.d.wide=x.d.wide) (.ask (x.d.high=x.d.high) (.ask (x.d.turn=x.d.turn) (.ask (0=0)
  (.ask (x.d.ps.n=x.d.ps.n) (.ask (cO=cO) (.ask (0=0) (.ask (x.scans.n=x.scans.n) (.ask (cO=cO) (.ask (0=0) (.ask (x.hang.n=x.hang.n) (.ask
  (cO=cO) (.ask (x.lost=x.lost) (.ask (fo=fo) (.ask (x.d.play.length=x.d.play.length) (.ask (x.d.play.slack=x.d.play.slack) (.ask (x.d.play.loose =
  x.d.play.loose) (.ask (x.d.play.damp.lo=x.d.play.damp.lo) (.ask (x.d.play.damp.hi=x.d.play.damp.hi) (.ask (x.d.wide=x.d.wide) (.ask (x.d.high=x.d.high) (.ask (x.d.turn =
  x.d.turn) (.ask (0=0) (.ask (x.d.ps.n=x.d.ps.n) (.ask (cO=cO) (.ask (0=0) (.ask (x.scans.n=x.scans.n) (.ask (cO=cO) (.ask (0=0) (.ask (x.hang.n
  = x.hang.n) (.ask (cO=cO) (.ask (x.lost=x.lost) (.ask (x.foreign=x.foreign) (.ask (o.told.length≤o.told.length) (.ask (QE 2 o.told.length (fun i=>QA.enc
  (o.told.getD i ⟨0,0⟩)) fun i=>QA.enc (o.told.getD i ⟨0,0⟩)) (.ask (o.cells.length≤o.cells.length) (.ask (QE 1 o.cells.length (fun i=>QA.enc (o.cells.getD i 0)) fun i
  => QA.enc (o.cells.getD i 0)) (.ask (x.d.play.length=x.d.play.length) (.ask (x.d.play.slack=x.d.play.slack) (.ask (x.d.play.loose=x.d.play.loose) (.ask (x.d.play.damp.lo =
  x.d.play.damp.lo) (.ask (x.d.play.damp.hi=x.d.play.damp.hi) (.ask (x.d.wide=x.d.wide) (.ask (x.d.high=x.d.high) (.ask (x.d.turn=x.d.turn) (.ask (0=0) (.ask (x.d.ps.n =
  x.d.ps.n) (.ask (cO=cO) (.ask (0=0) (.ask (x.scans.n=x.scans.n) (.ask (cO=cO) (.ask (0=0) (.ask (x.hang.n=x.hang.n) (.ask (cO=cO)
  (.ask (x.lost=x.lost) (.ask (x.foreign=x.foreign) (.ask (x.d.ps.n≤x.d.ps.n) (.ask (QE 28 x.d.ps.n (fun i=>QA.enc (x.d.ps.get i)) fun i=>QA.enc (x.d.ps.get i))
  (.ask (x.scans.n≤x.scans.n) (.ask (QE 28 x.scans.n (fun i=>QA.enc (x.scans.get i)) fun i=>QA.enc (x.scans.get i)) (.ask (x.hang.n≤x.hang.n) (.ask (QE 4 x.hang.n
  (fun i=>QA.enc (x.hang.get i)) fun i=>QA.enc (x.hang.get i)) (.asm (True) (.all (fun(g4:Nat→Value) => .leaf (.tup (GE o)) ((Xb fo lo o
  x))))))))))))))))))))))))))))))))))))))))))))))))))))))))))))))))))))))))))))))))))))))))))))))))))))))))))))))))))))))))))))))))))))))))))):=by kernel_rfl
noncomputable abbrev QAO(o:Mor):List AV:=
  [.nilp,.ptr 276 0 0,.ptr 8 0 0,.slz 88 0 o.cells.length cO,vi o.al,vi o.e,.slz 160 0 o.told.length cO,.slice true 232 0 3 (Cap.lit
  3),vj 3,vj 3]
theorem QTN(o:Mor)(lo fo:Int)(sc:Nat→QK)(y:QB)(g:Nat→Value):exec (mkS Try.prog KT) (Xj Try.prog false x o lo fo sc 2 y) (QV Try.f9 1) (JSt.inst (JJ false x o lo fo sc 2) g) (KH [] YH) = .need (decide (x.d.ps.n≤x.d.ps.n) &&
  (decide (x.scans.n≤x.scans.n)&&(decide (x.hang.n≤x.hang.n)&&true))&&decide (x.d.ps.n≤1000∧x.scans.n≤1000∧x.hang.n≤1000)) (.need (decide (x.d.ps.n≤x.d.ps.n) &&
  (decide (x.scans.n≤x.scans.n)&&(decide (x.hang.n≤x.hang.n)&&true))&&decide (x.d.ps.n≤1000∧x.scans.n≤1000∧x.hang.n≤1000)) (.need (!!(QF x).2.2 != (QL x).2
  || !(QF x).2.2 != (QL x).2) (.need (!!(QF x).2.2 != (QL x).2 || !(QF x).2.2 != (QL x).2) (.need (!(!(QF x).2.2 != (QL x).2&&(QF x).2.2==0)
  || !(QF x).2.2 != (QL x).2&&(QF x).2.2==0) (.need (!!(QF x).2.2 != (QL x).2 || !(QF x).2.2 != (QL x).2&&(!(QF x).2.2==0 || !(QF x).2.2
  != (QL x).2&&(QF x).2.2==0)) (.bnd ((QF x).2.2==0&&o.e != 0) (fun(x0:Bool) => .need ((QF x).2.2 != (QL x).2 || !(QF x).2.2 != (QL x).2) (.bnd
  ((QF x).2.2 != (QL x).2||x0) (fun(x1:Bool) => .br (x1) (.leaf (.tup [.nili,.ptr 276 0 0,.bool true false]) ([])) (.br ((QF x).2.2 != 0) (.leaf (.tup (QAO o))
  ((Xb fo lo o x))) (.need (!!(↑(QF x).1.length:Int) != (o.cells.length:Int) || !(↑(QF x).1.length:Int) != (o.cells.length:Int)) (.need (!!(↑(QF x).1.length :
  Int) != (o.cells.length:Int) || !(↑(QF x).1.length:Int) != (o.cells.length:Int)) (.need (!!(↑(QF x).1.length:Int) != (o.cells.length:Int) || !(↑(QF
  x).1.length:Int) != (o.cells.length:Int) && !(↑(QF x).1.length:Int) != (o.cells.length:Int)) (.need ((↑(QF x).1.length:Int) != (o.cells.length:Int) ||
  !(↑(QF x).1.length:Int) != (o.cells.length:Int)) (.bnd ((↑(QF x).1.length:Int) != (o.cells.length:Int)||(↑(QL x).1.length:Int) != (o.told.length:Int))
  (fun(x2:Bool) => .need (!!x2 || !x2 && !x2) (.need (!!x2 || !x2) (.need (x2 || !x2) (.bnd (x2||i64.wrap (↑(BitVec.ofInt 64 (QF x).2.1 &&& ~~~BitVec.ofInt 64
  o.al).toNat:Int) != 0) (fun(x3:Bool) => .br (x3) (.leaf (.tup [.nili,.ptr 276 0 0,.bool true false]) ([])) (.ask (KM y=0) (.ask (0=0) (.ask (0=0) (.ask (0=0) (.ask
  (o.cells.length=o.cells.length) (.ask (cO=cO) (.ask (o.al=o.al) (.ask (o.e=o.e) (.ask (0=0) (.ask (o.told.length=o.told.length) (.ask (cO=cO)
  (.ask (0=0) (.ask (3=3) (.ask (Cap.lit 3=Cap.lit 3) (.ask ((3:Int)=3) (.ask ((2:Int)=2) (.ask (0=0) (.ask ((QF x).1.length=(QF y).1.length) (.ask (Cap.of
  0=cO) (.ask (0=0) (.ask ((QL x).1.length=(QL y).1.length) (.ask (cO=cO) (.ask ((↑(QF x).1.length:Int)=(↑(QF y).1.length:Int)) (.ask
  ((0:Int)=0) (.ask ((QF y).1.length≤(QF x).1.length) (.ask (QE 1 (QF y).1.length (fun i=>QA.enc ((QF x).1.getD i 0)) fun i=>QA.enc ((QF
  y).1.getD i 0)) (.ask ((QL y).1.length≤(QL x).1.length) (.ask (QE 2 (QL y).1.length (fun i=>QA.enc ((QL x).1.getD i ⟨0,0⟩)) fun i=>QA.enc ((QL
  y).1.getD i ⟨0,0⟩)) (.ask (x.d.play.length=x.d.play.length) (.ask (x.d.play.slack=x.d.play.slack) (.ask (x.d.play.loose=x.d.play.loose) (.ask (x.d.play.damp.lo =
  x.d.play.damp.lo) (.ask (x.d.play.damp.hi=x.d.play.damp.hi) (.ask (x.d.wide=x.d.wide) (.ask (x.d.high=x.d.high) (.ask (x.d.turn=x.d.turn) (.ask (0=0) (.ask (x.d.ps.n =
  x.d.ps.n) (.ask (cO=cO) (.ask (0=0) (.ask (x.scans.n=x.scans.n) (.ask (cO=cO) (.ask (0=0) (.ask (x.hang.n=x.hang.n) (.ask (cO=cO)
  (.ask (lo=lo) (.ask (x.foreign=x.foreign) (.ask (x.d.play.length=x.d.play.length) (.ask (x.d.play.slack=x.d.play.slack) (.ask (x.d.play.loose=x.d.play.loose) (.ask
  (x.d.play.damp.lo=x.d.play.damp.lo) (.ask (x.d.play.damp.hi=x.d.play.damp.hi) (.ask (x.d.wide=x.d.wide) (.ask (x.d.high=x.d.high) (.ask (x.d.turn=x.d.turn) (.ask (0=0)
  (.ask (x.d.ps.n=x.d.ps.n) (.ask (cO=cO) (.ask (0=0) (.ask (x.scans.n=x.scans.n) (.ask (cO=cO) (.ask (0=0) (.ask (x.hang.n=x.hang.n) (.ask
  (cO=cO) (.ask (x.lost=x.lost) (.ask (fo=fo) (.ask (x.d.play.length=x.d.play.length) (.ask (x.d.play.slack=x.d.play.slack) (.ask (x.d.play.loose =
  x.d.play.loose) (.ask (x.d.play.damp.lo=x.d.play.damp.lo) (.ask (x.d.play.damp.hi=x.d.play.damp.hi) (.ask (x.d.wide=x.d.wide) (.ask (x.d.high=x.d.high) (.ask (x.d.turn =
  x.d.turn) (.ask (0=0) (.ask (x.d.ps.n=x.d.ps.n) (.ask (cO=cO) (.ask (0=0) (.ask (x.scans.n=x.scans.n) (.ask (cO=cO) (.ask (0=0) (.ask (x.hang.n
  = x.hang.n) (.ask (cO=cO) (.ask (x.lost=x.lost) (.ask (x.foreign=x.foreign) (.ask (o.told.length≤o.told.length) (.ask (QE 2 o.told.length (fun i=>QA.enc
  (o.told.getD i ⟨0,0⟩)) fun i=>QA.enc (o.told.getD i ⟨0,0⟩)) (.ask (o.cells.length≤o.cells.length) (.ask (QE 1 o.cells.length (fun i=>QA.enc (o.cells.getD i 0)) fun i
  => QA.enc (o.cells.getD i 0)) (.ask (x.d.play.length=x.d.play.length) (.ask (x.d.play.slack=x.d.play.slack) (.ask (x.d.play.loose=x.d.play.loose) (.ask (x.d.play.damp.lo =
  x.d.play.damp.lo) (.ask (x.d.play.damp.hi=x.d.play.damp.hi) (.ask (x.d.wide=x.d.wide) (.ask (x.d.high=x.d.high) (.ask (x.d.turn=x.d.turn) (.ask (0=0) (.ask (x.d.ps.n =
  x.d.ps.n) (.ask (cO=cO) (.ask (0=0) (.ask (x.scans.n=x.scans.n) (.ask (cO=cO) (.ask (0=0) (.ask (x.hang.n=x.hang.n) (.ask (cO=cO)
  (.ask (x.lost=x.lost) (.ask (x.foreign=x.foreign) (.ask (x.d.ps.n≤x.d.ps.n) (.ask (QE 28 x.d.ps.n (fun i=>QA.enc (x.d.ps.get i)) fun i=>QA.enc (x.d.ps.get i))
  (.ask (x.scans.n≤x.scans.n) (.ask (QE 28 x.scans.n (fun i=>QA.enc (x.scans.get i)) fun i=>QA.enc (x.scans.get i)) (.ask (x.hang.n≤x.hang.n) (.ask (QE 4 x.hang.n
  (fun i=>QA.enc (x.hang.get i)) fun i=>QA.enc (x.hang.get i)) (.asm (True) (.all (fun(g4:Nat→Value) => .leaf (.tup (QAO o)) ((Xb fo lo o
  x))))))))))))))))))))))))))))))))))))))))))))))))))))))))))))))))))))))))))))))))))))))))))))))))))))))))))))))))))))))))))))))))))))))))))):=by kernel_rfl
noncomputable abbrev QH3(o:Mor):List AV:=
  [.ptr 2 0 0,.ptr 276 0 0,.ptr 8 0 0,.slz 88 0 o.cells.length cO,vi o.al,vi o.e]
noncomputable abbrev GI(o:Mor)(x:QB):List (Nat×Blk):=
  [(8,.cells 0 50 (Xw x)),(YC o),(0,.frz Kk x.d.ps.n fun i=>QA.enc (x.d.ps.get i)),(1,.frz Kk x.scans.n fun i=>QA.enc (x.scans.get i)),(YE x)]
theorem QWd(o:Mor)(lo fo:Int)(sc:Nat→QK)(y:QB)(g:Nat→Value):exec (mkS Try.prog KT) (Xj Try.prog false x o lo fo sc 3 y) (QV Try.f9 1) (JSt.inst (JJ false x o lo fo sc 3) g) (KH [] YH) = .leaf (.tup (QH3 o)) ((GI o x)):=by kernel_rfl
noncomputable abbrev QCS(o:Mor)(p:List Int)(q:List QC)(sc:Nat→QK)(x:QB):List (Nat×Blk):=
  [(8,.cells 0 50 (Xw x)),(YC o),(Ye o),(Zq fo lo x),(640,.rowz true 3 [.int .i64] p.length fun i=>QA.enc (p.getD i 0)),(720,.rowz true 56 [.int .i64,.int .i64]
  q.length fun i=>QA.enc (q.getD i ⟨0,0⟩)),(0,.frz Kk x.d.ps.n fun i=>QA.enc (x.d.ps.get i)),(1,.frz Kk x.scans.n fun i=>QA.enc (x.scans.get i)),(YE x),(496,
  .rowz true 33 Kk x.scans.n fun i=>QA.enc (sc i))]
noncomputable abbrev Xu(o:Mor)(sc:Nat→QK)(x:QB):List (Nat×Blk):=
  [(8,.cells 0 50 (Xw x)),(YC o),(Ye o),(Zq fo lo x),(0,.frz Kk x.d.ps.n fun i=>QA.enc (x.d.ps.get i)),(1,.frz Kk x.scans.n fun i=>QA.enc (x.scans.get
  i)),(YE x),(496,.rowz true 33 Kk x.scans.n fun i=>QA.enc (sc i))]
theorem QWF(o:Mor)(lo fo:Int)(sc:Nat→QK)(j:Nat)(p:List Int)(q:List QC)(k:Nat)(g:Nat→Value):exec (mkE Try.prog KT) (hnd (mkE Try.prog KT) 3) (Xl (QV Try.f9 1)) (JSt.inst (qU true x o lo fo sc j p q k) g) (KH [] QDO) = .br (decide ((k:Int) <
  (p.length:Int))) (.need (decide ((0:Int)≤(k:Int)∧(k:Int)<(p.length:Int))&&decide (p.length≤p.length)) (.need (decide (k<p.length)) (.need (decide ((0:Int) ≤
  (k:Int)∧(k:Int)<(o.cells.length:Int))&&decide (o.cells.length≤o.cells.length)) (.need (decide (k<o.cells.length)) (.br (i64.wrap (↑(BitVec.ofInt 64 (p.getD k
  0) &&& ~~~BitVec.ofInt 64 (o.cells.getD k 0)).toNat:Int) != 0) (.leaf (.tup [.nili,.ptr 276 0 0,.bool true false]) ([])) (.need (decide ((0:Int)≤(k:Int)∧(k:Int) <
  (o.told.length:Int))&&decide (o.told.length≤o.told.length)) (.need (decide (k<o.told.length)) (.br ((o.told.getD k ⟨0,0⟩).cell != -1) (.need (decide ((0:Int)≤(k:Int)
  ∧ (k:Int)<(q.length:Int))&&decide (q.length≤q.length)) (.need (decide (k<q.length)) (.need (decide ((0:Int)≤(k:Int)∧(k:Int)<(o.told.length:Int))&&decide
  (o.told.length≤o.told.length)) (.need (decide (k<o.told.length)) (.br ((q.getD k ⟨0,0⟩).cell != (o.told.getD k ⟨0,0⟩).cell) (.leaf (.tup [.nili,.ptr 276 0 0,.bool true
  false]) ([])) (.leaf (.tup (G7 j k o p q)) ((QCS fo lo o p q sc x)))))))) (.leaf (.tup (G7 j k o p q)) ((QCS fo lo o p q sc x))))))))))) (.leaf (.tup (QKY j o)) ((Xu
  fo lo o sc x))):=by kernel_rfl
theorem QRE(o:Mor)(lo fo:Int)(sc:Nat→QK)(y:QB)(g:Nat→Value):exec (mkS Try.prog KT) (Xj Try.prog true x o lo fo sc 0 y) (QV Try.f9 1) (JSt.inst (JJ true x o lo fo sc 0) g) (KH [] YH) = .need (decide (x.d.ps.n≤x.d.ps.n) &&
  (decide (x.scans.n≤x.scans.n)&&(decide (x.hang.n≤x.hang.n)&&true))&&decide (x.d.ps.n≤1000∧x.scans.n≤1000∧x.hang.n≤1000)) (.need (decide (x.d.ps.n≤x.d.ps.n) &&
  (decide (x.scans.n≤x.scans.n)&&(decide (x.hang.n≤x.hang.n)&&true))&&decide (x.d.ps.n≤1000∧x.scans.n≤1000∧x.hang.n≤1000)) (.need (!!(QF (QB.mk x.d x.scans
  x.hang lo x.foreign)).2.2 != (QL (QB.mk x.d x.scans x.hang lo x.foreign)).2 || !(QF (QB.mk x.d x.scans x.hang lo x.foreign)).2.2 != (QL (QB.mk x.d x.scans x.hang lo
  x.foreign)).2) (.need (!!(QF (QB.mk x.d x.scans x.hang lo x.foreign)).2.2 != (QL (QB.mk x.d x.scans x.hang lo x.foreign)).2 || !(QF (QB.mk x.d x.scans x.hang lo
  x.foreign)).2.2 != (QL (QB.mk x.d x.scans x.hang lo x.foreign)).2) (.need (!(!(QF (QB.mk x.d x.scans x.hang lo x.foreign)).2.2 != (QL (QB.mk x.d x.scans x.hang lo
  x.foreign)).2&&(QF (QB.mk x.d x.scans x.hang lo x.foreign)).2.2==0) || !(QF (QB.mk x.d x.scans x.hang lo x.foreign)).2.2 != (QL (QB.mk x.d x.scans x.hang lo
  x.foreign)).2&&(QF (QB.mk x.d x.scans x.hang lo x.foreign)).2.2==0) (.need (!!(QF (QB.mk x.d x.scans x.hang lo x.foreign)).2.2 != (QL (QB.mk x.d x.scans
  x.hang lo x.foreign)).2 || !(QF (QB.mk x.d x.scans x.hang lo x.foreign)).2.2 != (QL (QB.mk x.d x.scans x.hang lo x.foreign)).2&&(!(QF (QB.mk x.d x.scans x.hang
  lo x.foreign)).2.2==0 || !(QF (QB.mk x.d x.scans x.hang lo x.foreign)).2.2 != (QL (QB.mk x.d x.scans x.hang lo x.foreign)).2&&(QF (QB.mk x.d x.scans x.hang lo
  x.foreign)).2.2==0)) (.bnd ((QF (QB.mk x.d x.scans x.hang lo x.foreign)).2.2==0&&o.e != 0) (fun(x0:Bool) => .need ((QF (QB.mk x.d x.scans x.hang lo
  x.foreign)).2.2 != (QL (QB.mk x.d x.scans x.hang lo x.foreign)).2 || !(QF (QB.mk x.d x.scans x.hang lo x.foreign)).2.2 != (QL (QB.mk x.d x.scans x.hang lo
  x.foreign)).2) (.bnd ((QF (QB.mk x.d x.scans x.hang lo x.foreign)).2.2 != (QL (QB.mk x.d x.scans x.hang lo x.foreign)).2||x0) (fun(x1:Bool) => .br (x1) (.leaf (.tup
  [.nili,.ptr 276 0 0,.bool true false]) ([])) (.br ((QF (QB.mk x.d x.scans x.hang lo x.foreign)).2.2 != 0) (.leaf (.tup (QAh o)) ((Xu fo lo o sc x))) (.need
  (!!(↑(QF (QB.mk x.d x.scans x.hang lo x.foreign)).1.length:Int) != (o.cells.length:Int) || !(↑(QF (QB.mk x.d x.scans x.hang lo x.foreign)).1.length:Int) !=
  (o.cells.length:Int)) (.need (!!(↑(QF (QB.mk x.d x.scans x.hang lo x.foreign)).1.length:Int) != (o.cells.length:Int) || !(↑(QF (QB.mk x.d x.scans x.hang lo
  x.foreign)).1.length:Int) != (o.cells.length:Int)) (.need (!!(↑(QF (QB.mk x.d x.scans x.hang lo x.foreign)).1.length:Int) != (o.cells.length:Int) || !(↑(QF
  (QB.mk x.d x.scans x.hang lo x.foreign)).1.length:Int) != (o.cells.length:Int) && !(↑(QF (QB.mk x.d x.scans x.hang lo x.foreign)).1.length:Int) != (o.cells.length :
  Int)) (.need ((↑(QF (QB.mk x.d x.scans x.hang lo x.foreign)).1.length:Int) != (o.cells.length:Int) || !(↑(QF (QB.mk x.d x.scans x.hang lo x.foreign)).1.length :
  Int) != (o.cells.length:Int)) (.bnd ((↑(QF (QB.mk x.d x.scans x.hang lo x.foreign)).1.length:Int) != (o.cells.length:Int)||(↑(QL (QB.mk x.d x.scans x.hang lo
  x.foreign)).1.length:Int) != (o.told.length:Int)) (fun(x2:Bool) => .need (!!x2 || !x2 && !x2) (.need (!!x2 || !x2) (.need (x2 || !x2) (.bnd (x2||i64.wrap
  (↑(BitVec.ofInt 64 (QF (QB.mk x.d x.scans x.hang lo x.foreign)).2.1 &&& ~~~BitVec.ofInt 64 o.al).toNat:Int) != 0) (fun(x3:Bool) => .br (x3) (.leaf (.tup [.nili,.ptr 276
  0 0,.bool true false]) ([])) (.ask (KM y=0) (.ask (0=0) (.ask (0=0) (.ask (0=0) (.ask (o.cells.length=o.cells.length) (.ask (cO=cO) (.ask (o.al=o.al)
  (.ask (o.e=o.e) (.ask (0=0) (.ask (o.told.length=o.told.length) (.ask (cO=cO) (.ask (0=0) (.ask (3=3) (.ask (Cap.lit 3=Cap.lit 3) (.ask ((3:Int)=3)
  (.ask ((0:Int)=0) (.ask (0=0) (.ask ((QF (QB.mk x.d x.scans x.hang lo x.foreign)).1.length=(QF y).1.length) (.ask (cO=cO) (.ask (0=0) (.ask
  ((QL (QB.mk x.d x.scans x.hang lo x.foreign)).1.length=(QL y).1.length) (.ask (cO=cO) (.ask ((↑(QF (QB.mk x.d x.scans x.hang lo x.foreign)).1.length :
  Int)=(↑(QF y).1.length:Int)) (.ask ((0:Int)=0) (.ask ((QF y).1.length≤(QF (QB.mk x.d x.scans x.hang lo x.foreign)).1.length) (.ask (QE 1 (QF
  y).1.length (fun i=>QA.enc ((QF (QB.mk x.d x.scans x.hang lo x.foreign)).1.getD i 0)) fun i=>QA.enc ((QF y).1.getD i 0)) (.ask ((QL y).1.length≤(QL
  (QB.mk x.d x.scans x.hang lo x.foreign)).1.length) (.ask (QE 2 (QL y).1.length (fun i=>QA.enc ((QL (QB.mk x.d x.scans x.hang lo x.foreign)).1.getD i ⟨0,0⟩)) fun i
  => QA.enc ((QL y).1.getD i ⟨0,0⟩)) (.ask (x.scans.n≤x.scans.n) (.ask (QE 28 x.scans.n (fun i=>QA.enc (sc i)) fun i=>QA.enc (sc i)) (.ask (x.d.play.length =
  x.d.play.length) (.ask (x.d.play.slack=x.d.play.slack) (.ask (x.d.play.loose=x.d.play.loose) (.ask (x.d.play.damp.lo=x.d.play.damp.lo) (.ask (x.d.play.damp.hi =
  x.d.play.damp.hi) (.ask (x.d.wide=x.d.wide) (.ask (x.d.high=x.d.high) (.ask (x.d.turn=x.d.turn) (.ask (0=0) (.ask (x.d.ps.n=x.d.ps.n) (.ask (cO=cO) (.ask (0
  = 0) (.ask (x.scans.n=x.scans.n) (.ask (cO=cO) (.ask (0=0) (.ask (x.hang.n=x.hang.n) (.ask (cO=cO) (.ask (lo=lo) (.ask (x.foreign=x.foreign)
  (.ask (x.d.play.length=x.d.play.length) (.ask (x.d.play.slack=x.d.play.slack) (.ask (x.d.play.loose=x.d.play.loose) (.ask (x.d.play.damp.lo=x.d.play.damp.lo) (.ask
  (x.d.play.damp.hi=x.d.play.damp.hi) (.ask (x.d.wide=x.d.wide) (.ask (x.d.high=x.d.high) (.ask (x.d.turn=x.d.turn) (.ask (0=0) (.ask (x.d.ps.n=x.d.ps.n) (.ask (cO =
  cO) (.ask (0=0) (.ask (x.scans.n=x.scans.n) (.ask (cO=cO) (.ask (0=0) (.ask (x.hang.n=x.hang.n) (.ask (cO=cO) (.ask (x.lost=x.lost) (.ask
  (fo=fo) (.ask (x.d.play.length=x.d.play.length) (.ask (x.d.play.slack=x.d.play.slack) (.ask (x.d.play.loose=x.d.play.loose) (.ask (x.d.play.damp.lo=x.d.play.damp.lo) (.ask
  (x.d.play.damp.hi=x.d.play.damp.hi) (.ask (x.d.wide=x.d.wide) (.ask (x.d.high=x.d.high) (.ask (x.d.turn=x.d.turn) (.ask (0=0) (.ask (x.d.ps.n=x.d.ps.n) (.ask (cO =
  cO) (.ask (0=0) (.ask (x.scans.n=x.scans.n) (.ask (cO=cO) (.ask (0=0) (.ask (x.hang.n=x.hang.n) (.ask (cO=cO) (.ask (x.lost=x.lost) (.ask
  (x.foreign=x.foreign) (.ask (o.told.length≤o.told.length) (.ask (QE 2 o.told.length (fun i=>QA.enc (o.told.getD i ⟨0,0⟩)) fun i=>QA.enc (o.told.getD i ⟨0,0⟩))
  (.ask (o.cells.length≤o.cells.length) (.ask (QE 1 o.cells.length (fun i=>QA.enc (o.cells.getD i 0)) fun i=>QA.enc (o.cells.getD i 0)) (.ask (x.d.play.length =
  x.d.play.length) (.ask (x.d.play.slack=x.d.play.slack) (.ask (x.d.play.loose=x.d.play.loose) (.ask (x.d.play.damp.lo=x.d.play.damp.lo) (.ask (x.d.play.damp.hi =
  x.d.play.damp.hi) (.ask (x.d.wide=x.d.wide) (.ask (x.d.high=x.d.high) (.ask (x.d.turn=x.d.turn) (.ask (0=0) (.ask (x.d.ps.n=x.d.ps.n) (.ask (cO=cO) (.ask (0
  = 0) (.ask (x.scans.n=x.scans.n) (.ask (cO=cO) (.ask (0=0) (.ask (x.hang.n=x.hang.n) (.ask (cO=cO) (.ask (x.lost=x.lost) (.ask (x.foreign =
  x.foreign) (.ask (x.d.ps.n≤x.d.ps.n) (.ask (QE 28 x.d.ps.n (fun i=>QA.enc (x.d.ps.get i)) fun i=>QA.enc (x.d.ps.get i)) (.ask (x.scans.n≤x.scans.n) (.ask (QE 28
  x.scans.n (fun i=>QA.enc (x.scans.get i)) fun i=>QA.enc (x.scans.get i)) (.ask (x.hang.n≤x.hang.n) (.ask (QE 4 x.hang.n (fun i=>QA.enc (x.hang.get i)) fun i=>
  QA.enc (x.hang.get i)) (.asm (True) (.all (fun(g4:Nat→Value) => .leaf (.tup (QAh o)) ((Xu fo lo o sc
  x))))))))))))))))))))))))))))))))))))))))))))))))))))))))))))))))))))))))))))))))))))))))))))))))))))))))))))))))))))))))))))))))))))))))))))):=by kernel_rfl
theorem QUy(o:Mor)(lo fo:Int)(sc:Nat→QK)(y:QB)(g:Nat→Value):exec (mkS Try.prog KT) (Xj Try.prog true x o lo fo sc 1 y) (QV Try.f9 1) (JSt.inst (JJ true x o lo fo sc 1) g) (KH [] YH) = .need (decide (x.d.ps.n≤x.d.ps.n) &&
  (decide (x.scans.n≤x.scans.n)&&(decide (x.hang.n≤x.hang.n)&&true))&&decide (x.d.ps.n≤1000∧x.scans.n≤1000∧x.hang.n≤1000)) (.need (decide (x.d.ps.n≤x.d.ps.n) &&
  (decide (x.scans.n≤x.scans.n)&&(decide (x.hang.n≤x.hang.n)&&true))&&decide (x.d.ps.n≤1000∧x.scans.n≤1000∧x.hang.n≤1000)) (.need (!!(QF (QB.mk x.d x.scans
  x.hang x.lost fo)).2.2 != (QL (QB.mk x.d x.scans x.hang x.lost fo)).2 || !(QF (QB.mk x.d x.scans x.hang x.lost fo)).2.2 != (QL (QB.mk x.d x.scans x.hang x.lost
  fo)).2) (.need (!!(QF (QB.mk x.d x.scans x.hang x.lost fo)).2.2 != (QL (QB.mk x.d x.scans x.hang x.lost fo)).2 || !(QF (QB.mk x.d x.scans x.hang x.lost fo)).2.2
  != (QL (QB.mk x.d x.scans x.hang x.lost fo)).2) (.need (!(!(QF (QB.mk x.d x.scans x.hang x.lost fo)).2.2 != (QL (QB.mk x.d x.scans x.hang x.lost fo)).2&&(QF
  (QB.mk x.d x.scans x.hang x.lost fo)).2.2==0) || !(QF (QB.mk x.d x.scans x.hang x.lost fo)).2.2 != (QL (QB.mk x.d x.scans x.hang x.lost fo)).2&&(QF (QB.mk
  x.d x.scans x.hang x.lost fo)).2.2==0) (.need (!!(QF (QB.mk x.d x.scans x.hang x.lost fo)).2.2 != (QL (QB.mk x.d x.scans x.hang x.lost fo)).2 || !(QF (QB.mk x.d
  x.scans x.hang x.lost fo)).2.2 != (QL (QB.mk x.d x.scans x.hang x.lost fo)).2&&(!(QF (QB.mk x.d x.scans x.hang x.lost fo)).2.2==0 || !(QF (QB.mk x.d x.scans
  x.hang x.lost fo)).2.2 != (QL (QB.mk x.d x.scans x.hang x.lost fo)).2&&(QF (QB.mk x.d x.scans x.hang x.lost fo)).2.2==0)) (.bnd ((QF (QB.mk x.d x.scans x.hang
  x.lost fo)).2.2==0&&o.e != 0) (fun(x0:Bool) => .need ((QF (QB.mk x.d x.scans x.hang x.lost fo)).2.2 != (QL (QB.mk x.d x.scans x.hang x.lost fo)).2 || !(QF
  (QB.mk x.d x.scans x.hang x.lost fo)).2.2 != (QL (QB.mk x.d x.scans x.hang x.lost fo)).2) (.bnd ((QF (QB.mk x.d x.scans x.hang x.lost fo)).2.2 != (QL (QB.mk x.d
  x.scans x.hang x.lost fo)).2||x0) (fun(x1:Bool) => .br (x1) (.leaf (.tup [.nili,.ptr 276 0 0,.bool true false]) ([])) (.br ((QF (QB.mk x.d x.scans x.hang x.lost
  fo)).2.2 != 0) (.leaf (.tup (GE o)) ((Xu fo lo o sc x))) (.need (!!(↑(QF (QB.mk x.d x.scans x.hang x.lost fo)).1.length:Int) != (o.cells.length:Int) || !(↑(QF
  (QB.mk x.d x.scans x.hang x.lost fo)).1.length:Int) != (o.cells.length:Int)) (.need (!!(↑(QF (QB.mk x.d x.scans x.hang x.lost fo)).1.length:Int) != (o.cells.length :
  Int) || !(↑(QF (QB.mk x.d x.scans x.hang x.lost fo)).1.length:Int) != (o.cells.length:Int)) (.need (!!(↑(QF (QB.mk x.d x.scans x.hang x.lost fo)).1.length:Int)
  != (o.cells.length:Int) || !(↑(QF (QB.mk x.d x.scans x.hang x.lost fo)).1.length:Int) != (o.cells.length:Int) && !(↑(QF (QB.mk x.d x.scans x.hang x.lost
  fo)).1.length:Int) != (o.cells.length:Int)) (.need ((↑(QF (QB.mk x.d x.scans x.hang x.lost fo)).1.length:Int) != (o.cells.length:Int) || !(↑(QF (QB.mk x.d
  x.scans x.hang x.lost fo)).1.length:Int) != (o.cells.length:Int)) (.bnd ((↑(QF (QB.mk x.d x.scans x.hang x.lost fo)).1.length:Int) != (o.cells.length:Int)||(↑(QL
  (QB.mk x.d x.scans x.hang x.lost fo)).1.length:Int) != (o.told.length:Int)) (fun(x2:Bool) => .need (!!x2 || !x2 && !x2) (.need (!!x2 || !x2) (.need (x2 || !x2) (.bnd (x2 ||
  i64.wrap (↑(BitVec.ofInt 64 (QF (QB.mk x.d x.scans x.hang x.lost fo)).2.1 &&& ~~~BitVec.ofInt 64 o.al).toNat:Int) != 0) (fun(x3:Bool) => .br (x3) (.leaf (.tup
  [.nili,.ptr 276 0 0,.bool true false]) ([])) (.ask (KM y=0) (.ask (0=0) (.ask (0=0) (.ask (0=0) (.ask (o.cells.length=o.cells.length) (.ask (cO=cO) (.ask
  (o.al=o.al) (.ask (o.e=o.e) (.ask (0=0) (.ask (o.told.length=o.told.length) (.ask (cO=cO) (.ask (0=0) (.ask (3=3) (.ask (Cap.lit 3=Cap.lit 3) (.ask ((3 :
  Int)=3) (.ask ((1:Int)=1) (.ask (0=0) (.ask ((QF (QB.mk x.d x.scans x.hang x.lost fo)).1.length=(QF y).1.length) (.ask (cO=cO) (.ask (0=0)
  (.ask ((QL (QB.mk x.d x.scans x.hang x.lost fo)).1.length=(QL y).1.length) (.ask (cO=cO) (.ask ((↑(QF (QB.mk x.d x.scans x.hang x.lost fo)).1.length :
  Int)=(↑(QF y).1.length:Int)) (.ask ((0:Int)=0) (.ask ((QF y).1.length≤(QF (QB.mk x.d x.scans x.hang x.lost fo)).1.length) (.ask (QE 1 (QF
  y).1.length (fun i=>QA.enc ((QF (QB.mk x.d x.scans x.hang x.lost fo)).1.getD i 0)) fun i=>QA.enc ((QF y).1.getD i 0)) (.ask ((QL y).1.length≤(QL (QB.mk
  x.d x.scans x.hang x.lost fo)).1.length) (.ask (QE 2 (QL y).1.length (fun i=>QA.enc ((QL (QB.mk x.d x.scans x.hang x.lost fo)).1.getD i ⟨0,0⟩)) fun i=>QA.enc
  ((QL y).1.getD i ⟨0,0⟩)) (.ask (x.scans.n≤x.scans.n) (.ask (QE 28 x.scans.n (fun i=>QA.enc (sc i)) fun i=>QA.enc (sc i)) (.ask (x.d.play.length=x.d.play.length)
  (.ask (x.d.play.slack=x.d.play.slack) (.ask (x.d.play.loose=x.d.play.loose) (.ask (x.d.play.damp.lo=x.d.play.damp.lo) (.ask (x.d.play.damp.hi=x.d.play.damp.hi) (.ask
  (x.d.wide=x.d.wide) (.ask (x.d.high=x.d.high) (.ask (x.d.turn=x.d.turn) (.ask (0=0) (.ask (x.d.ps.n=x.d.ps.n) (.ask (cO=cO) (.ask (0=0) (.ask (x.scans.n =
  x.scans.n) (.ask (cO=cO) (.ask (0=0) (.ask (x.hang.n=x.hang.n) (.ask (cO=cO) (.ask (lo=lo) (.ask (x.foreign=x.foreign) (.ask (x.d.play.length =
  x.d.play.length) (.ask (x.d.play.slack=x.d.play.slack) (.ask (x.d.play.loose=x.d.play.loose) (.ask (x.d.play.damp.lo=x.d.play.damp.lo) (.ask (x.d.play.damp.hi =
  x.d.play.damp.hi) (.ask (x.d.wide=x.d.wide) (.ask (x.d.high=x.d.high) (.ask (x.d.turn=x.d.turn) (.ask (0=0) (.ask (x.d.ps.n=x.d.ps.n) (.ask (cO=cO) (.ask (0
  = 0) (.ask (x.scans.n=x.scans.n) (.ask (cO=cO) (.ask (0=0) (.ask (x.hang.n=x.hang.n) (.ask (cO=cO) (.ask (x.lost=x.lost) (.ask (fo=fo) (.ask
  (x.d.play.length=x.d.play.length) (.ask (x.d.play.slack=x.d.play.slack) (.ask (x.d.play.loose=x.d.play.loose) (.ask (x.d.play.damp.lo=x.d.play.damp.lo) (.ask
  (x.d.play.damp.hi=x.d.play.damp.hi) (.ask (x.d.wide=x.d.wide) (.ask (x.d.high=x.d.high) (.ask (x.d.turn=x.d.turn) (.ask (0=0) (.ask (x.d.ps.n=x.d.ps.n) (.ask (cO =
  cO) (.ask (0=0) (.ask (x.scans.n=x.scans.n) (.ask (cO=cO) (.ask (0=0) (.ask (x.hang.n=x.hang.n) (.ask (cO=cO) (.ask (x.lost=x.lost) (.ask
  (x.foreign=x.foreign) (.ask (o.told.length≤o.told.length) (.ask (QE 2 o.told.length (fun i=>QA.enc (o.told.getD i ⟨0,0⟩)) fun i=>QA.enc (o.told.getD i ⟨0,0⟩))
  (.ask (o.cells.length≤o.cells.length) (.ask (QE 1 o.cells.length (fun i=>QA.enc (o.cells.getD i 0)) fun i=>QA.enc (o.cells.getD i 0)) (.ask (x.d.play.length =
  x.d.play.length) (.ask (x.d.play.slack=x.d.play.slack) (.ask (x.d.play.loose=x.d.play.loose) (.ask (x.d.play.damp.lo=x.d.play.damp.lo) (.ask (x.d.play.damp.hi =
  x.d.play.damp.hi) (.ask (x.d.wide=x.d.wide) (.ask (x.d.high=x.d.high) (.ask (x.d.turn=x.d.turn) (.ask (0=0) (.ask (x.d.ps.n=x.d.ps.n) (.ask (cO=cO) (.ask (0
  = 0) (.ask (x.scans.n=x.scans.n) (.ask (cO=cO) (.ask (0=0) (.ask (x.hang.n=x.hang.n) (.ask (cO=cO) (.ask (x.lost=x.lost) (.ask (x.foreign =
  x.foreign) (.ask (x.d.ps.n≤x.d.ps.n) (.ask (QE 28 x.d.ps.n (fun i=>QA.enc (x.d.ps.get i)) fun i=>QA.enc (x.d.ps.get i)) (.ask (x.scans.n≤x.scans.n) (.ask (QE 28
  x.scans.n (fun i=>QA.enc (x.scans.get i)) fun i=>QA.enc (x.scans.get i)) (.ask (x.hang.n≤x.hang.n) (.ask (QE 4 x.hang.n (fun i=>QA.enc (x.hang.get i)) fun i=>
  QA.enc (x.hang.get i)) (.asm (True) (.all (fun(g4:Nat→Value) => .leaf (.tup (GE o)) ((Xu fo lo o sc
  x))))))))))))))))))))))))))))))))))))))))))))))))))))))))))))))))))))))))))))))))))))))))))))))))))))))))))))))))))))))))))))))))))))))))))))):=by kernel_rfl
theorem QOp(o:Mor)(lo fo:Int)(sc:Nat→QK)(y:QB)(g:Nat→Value):exec (mkS Try.prog KT) (Xj Try.prog true x o lo fo sc 2 y) (QV Try.f9 1) (JSt.inst (JJ true x o lo fo sc 2) g) (KH [] YH) = .need (decide (x.d.ps.n≤x.d.ps.n) &&
  (decide (x.scans.n≤x.scans.n)&&(decide (x.hang.n≤x.hang.n)&&true))&&decide (x.d.ps.n≤1000∧x.scans.n≤1000∧x.hang.n≤1000)) (.need (decide (x.d.ps.n≤x.d.ps.n) &&
  (decide (x.scans.n≤x.scans.n)&&(decide (x.hang.n≤x.hang.n)&&true))&&decide (x.d.ps.n≤1000∧x.scans.n≤1000∧x.hang.n≤1000)) (.need (!!(QF (QB.mk x.d (Rw.mk
  x.scans.n fun i=>sc (i+0)) x.hang x.lost x.foreign)).2.2 != (QL (QB.mk x.d (Rw.mk x.scans.n fun i=>sc (i+0)) x.hang x.lost x.foreign)).2 || !(QF (QB.mk x.d
  (Rw.mk x.scans.n fun i=>sc (i+0)) x.hang x.lost x.foreign)).2.2 != (QL (QB.mk x.d (Rw.mk x.scans.n fun i=>sc (i+0)) x.hang x.lost x.foreign)).2) (.need (!!(QF
  (QB.mk x.d (Rw.mk x.scans.n fun i=>sc (i+0)) x.hang x.lost x.foreign)).2.2 != (QL (QB.mk x.d (Rw.mk x.scans.n fun i=>sc (i+0)) x.hang x.lost x.foreign)).2 ||
  !(QF (QB.mk x.d (Rw.mk x.scans.n fun i=>sc (i+0)) x.hang x.lost x.foreign)).2.2 != (QL (QB.mk x.d (Rw.mk x.scans.n fun i=>sc (i+0)) x.hang x.lost x.foreign)).2)
  (.need (!(!(QF (QB.mk x.d (Rw.mk x.scans.n fun i=>sc (i+0)) x.hang x.lost x.foreign)).2.2 != (QL (QB.mk x.d (Rw.mk x.scans.n fun i=>sc (i+0)) x.hang x.lost
  x.foreign)).2&&(QF (QB.mk x.d (Rw.mk x.scans.n fun i=>sc (i+0)) x.hang x.lost x.foreign)).2.2==0) || !(QF (QB.mk x.d (Rw.mk x.scans.n fun i=>sc (i+0))
  x.hang x.lost x.foreign)).2.2 != (QL (QB.mk x.d (Rw.mk x.scans.n fun i=>sc (i+0)) x.hang x.lost x.foreign)).2&&(QF (QB.mk x.d (Rw.mk x.scans.n fun i=>sc (i+0))
  x.hang x.lost x.foreign)).2.2==0) (.need (!!(QF (QB.mk x.d (Rw.mk x.scans.n fun i=>sc (i+0)) x.hang x.lost x.foreign)).2.2 != (QL (QB.mk x.d (Rw.mk x.scans.n fun i
  => sc (i+0)) x.hang x.lost x.foreign)).2 || !(QF (QB.mk x.d (Rw.mk x.scans.n fun i=>sc (i+0)) x.hang x.lost x.foreign)).2.2 != (QL (QB.mk x.d (Rw.mk x.scans.n fun
  i=>sc (i+0)) x.hang x.lost x.foreign)).2&&(!(QF (QB.mk x.d (Rw.mk x.scans.n fun i=>sc (i+0)) x.hang x.lost x.foreign)).2.2==0 || !(QF (QB.mk x.d (Rw.mk
  x.scans.n fun i=>sc (i+0)) x.hang x.lost x.foreign)).2.2 != (QL (QB.mk x.d (Rw.mk x.scans.n fun i=>sc (i+0)) x.hang x.lost x.foreign)).2&&(QF (QB.mk x.d (Rw.mk
  x.scans.n fun i=>sc (i+0)) x.hang x.lost x.foreign)).2.2==0)) (.bnd ((QF (QB.mk x.d (Rw.mk x.scans.n fun i=>sc (i+0)) x.hang x.lost x.foreign)).2.2==0&&o.e !=
  0) (fun(x0:Bool) => .need ((QF (QB.mk x.d (Rw.mk x.scans.n fun i=>sc (i+0)) x.hang x.lost x.foreign)).2.2 != (QL (QB.mk x.d (Rw.mk x.scans.n fun i=>sc (i+0))
  x.hang x.lost x.foreign)).2 || !(QF (QB.mk x.d (Rw.mk x.scans.n fun i=>sc (i+0)) x.hang x.lost x.foreign)).2.2 != (QL (QB.mk x.d (Rw.mk x.scans.n fun i=>sc (i +
  0)) x.hang x.lost x.foreign)).2) (.bnd ((QF (QB.mk x.d (Rw.mk x.scans.n fun i=>sc (i+0)) x.hang x.lost x.foreign)).2.2 != (QL (QB.mk x.d (Rw.mk x.scans.n fun i=>sc
  (i+0)) x.hang x.lost x.foreign)).2||x0) (fun(x1:Bool) => .br (x1) (.leaf (.tup [.nili,.ptr 276 0 0,.bool true false]) ([])) (.br ((QF (QB.mk x.d (Rw.mk x.scans.n fun
  i=>sc (i+0)) x.hang x.lost x.foreign)).2.2 != 0) (.leaf (.tup (QAO o)) ((Xu fo lo o sc x))) (.need (!!(↑(QF (QB.mk x.d (Rw.mk x.scans.n fun i=>sc (i+0)) x.hang
  x.lost x.foreign)).1.length:Int) != (o.cells.length:Int) || !(↑(QF (QB.mk x.d (Rw.mk x.scans.n fun i=>sc (i+0)) x.hang x.lost x.foreign)).1.length:Int) !=
  (o.cells.length:Int)) (.need (!!(↑(QF (QB.mk x.d (Rw.mk x.scans.n fun i=>sc (i+0)) x.hang x.lost x.foreign)).1.length:Int) != (o.cells.length:Int) || !(↑(QF
  (QB.mk x.d (Rw.mk x.scans.n fun i=>sc (i+0)) x.hang x.lost x.foreign)).1.length:Int) != (o.cells.length:Int)) (.need (!!(↑(QF (QB.mk x.d (Rw.mk x.scans.n fun i=>
  sc (i+0)) x.hang x.lost x.foreign)).1.length:Int) != (o.cells.length:Int) || !(↑(QF (QB.mk x.d (Rw.mk x.scans.n fun i=>sc (i+0)) x.hang x.lost x.foreign)).1.length
  : Int) != (o.cells.length:Int) && !(↑(QF (QB.mk x.d (Rw.mk x.scans.n fun i=>sc (i+0)) x.hang x.lost x.foreign)).1.length:Int) != (o.cells.length:Int)) (.need
  ((↑(QF (QB.mk x.d (Rw.mk x.scans.n fun i=>sc (i+0)) x.hang x.lost x.foreign)).1.length:Int) != (o.cells.length:Int) || !(↑(QF (QB.mk x.d (Rw.mk x.scans.n fun i
  => sc (i+0)) x.hang x.lost x.foreign)).1.length:Int) != (o.cells.length:Int)) (.bnd ((↑(QF (QB.mk x.d (Rw.mk x.scans.n fun i=>sc (i+0)) x.hang x.lost
  x.foreign)).1.length:Int) != (o.cells.length:Int)||(↑(QL (QB.mk x.d (Rw.mk x.scans.n fun i=>sc (i+0)) x.hang x.lost x.foreign)).1.length:Int) != (o.told.length :
  Int)) (fun(x2:Bool) => .need (!!x2 || !x2 && !x2) (.need (!!x2 || !x2) (.need (x2 || !x2) (.bnd (x2||i64.wrap (↑(BitVec.ofInt 64 (QF (QB.mk x.d (Rw.mk x.scans.n
  fun i=>sc (i+0)) x.hang x.lost x.foreign)).2.1 &&& ~~~BitVec.ofInt 64 o.al).toNat:Int) != 0) (fun(x3:Bool) => .br (x3) (.leaf (.tup [.nili,.ptr 276 0 0,.bool true false])
  ([])) (.ask (KM y=0) (.ask (0=0) (.ask (0=0) (.ask (0=0) (.ask (o.cells.length=o.cells.length) (.ask (cO=cO) (.ask (o.al=o.al) (.ask (o.e=o.e) (.ask (0
  = 0) (.ask (o.told.length=o.told.length) (.ask (cO=cO) (.ask (0=0) (.ask (3=3) (.ask (Cap.lit 3=Cap.lit 3) (.ask ((3:Int)=3) (.ask ((2:Int)=2) (.ask (0
  = 0) (.ask ((QF (QB.mk x.d (Rw.mk x.scans.n fun i=>sc (i+0)) x.hang x.lost x.foreign)).1.length=(QF y).1.length) (.ask (cO=cO) (.ask (0=0) (.ask
  ((QL (QB.mk x.d (Rw.mk x.scans.n fun i=>sc (i+0)) x.hang x.lost x.foreign)).1.length=(QL y).1.length) (.ask (cO=cO) (.ask ((↑(QF (QB.mk x.d (Rw.mk
  x.scans.n fun i=>sc (i+0)) x.hang x.lost x.foreign)).1.length:Int)=(↑(QF y).1.length:Int)) (.ask ((0:Int)=0) (.ask ((QF y).1.length≤(QF (QB.mk x.d
  (Rw.mk x.scans.n fun i=>sc (i+0)) x.hang x.lost x.foreign)).1.length) (.ask (QE 1 (QF y).1.length (fun i=>QA.enc ((QF (QB.mk x.d (Rw.mk x.scans.n fun i=>sc
  (i+0)) x.hang x.lost x.foreign)).1.getD i 0)) fun i=>QA.enc ((QF y).1.getD i 0)) (.ask ((QL y).1.length≤(QL (QB.mk x.d (Rw.mk x.scans.n fun i=>sc (i+0))
  x.hang x.lost x.foreign)).1.length) (.ask (QE 2 (QL y).1.length (fun i=>QA.enc ((QL (QB.mk x.d (Rw.mk x.scans.n fun i=>sc (i+0)) x.hang x.lost x.foreign)).1.getD
  i ⟨0,0⟩)) fun i=>QA.enc ((QL y).1.getD i ⟨0,0⟩)) (.ask (x.scans.n≤x.scans.n) (.ask (QE 28 x.scans.n (fun i=>QA.enc (sc i)) fun i=>QA.enc (sc i)) (.ask
  (x.d.play.length=x.d.play.length) (.ask (x.d.play.slack=x.d.play.slack) (.ask (x.d.play.loose=x.d.play.loose) (.ask (x.d.play.damp.lo=x.d.play.damp.lo) (.ask
  (x.d.play.damp.hi=x.d.play.damp.hi) (.ask (x.d.wide=x.d.wide) (.ask (x.d.high=x.d.high) (.ask (x.d.turn=x.d.turn) (.ask (0=0) (.ask (x.d.ps.n=x.d.ps.n) (.ask (cO =
  cO) (.ask (0=0) (.ask (x.scans.n=x.scans.n) (.ask (cO=cO) (.ask (0=0) (.ask (x.hang.n=x.hang.n) (.ask (cO=cO) (.ask (lo=lo) (.ask
  (x.foreign=x.foreign) (.ask (x.d.play.length=x.d.play.length) (.ask (x.d.play.slack=x.d.play.slack) (.ask (x.d.play.loose=x.d.play.loose) (.ask (x.d.play.damp.lo =
  x.d.play.damp.lo) (.ask (x.d.play.damp.hi=x.d.play.damp.hi) (.ask (x.d.wide=x.d.wide) (.ask (x.d.high=x.d.high) (.ask (x.d.turn=x.d.turn) (.ask (0=0) (.ask (x.d.ps.n =
  x.d.ps.n) (.ask (cO=cO) (.ask (0=0) (.ask (x.scans.n=x.scans.n) (.ask (cO=cO) (.ask (0=0) (.ask (x.hang.n=x.hang.n) (.ask (cO=cO)
  (.ask (x.lost=x.lost) (.ask (fo=fo) (.ask (x.d.play.length=x.d.play.length) (.ask (x.d.play.slack=x.d.play.slack) (.ask (x.d.play.loose=x.d.play.loose) (.ask
  (x.d.play.damp.lo=x.d.play.damp.lo) (.ask (x.d.play.damp.hi=x.d.play.damp.hi) (.ask (x.d.wide=x.d.wide) (.ask (x.d.high=x.d.high) (.ask (x.d.turn=x.d.turn) (.ask (0=0)
  (.ask (x.d.ps.n=x.d.ps.n) (.ask (cO=cO) (.ask (0=0) (.ask (x.scans.n=x.scans.n) (.ask (cO=cO) (.ask (0=0) (.ask (x.hang.n=x.hang.n) (.ask
  (cO=cO) (.ask (x.lost=x.lost) (.ask (x.foreign=x.foreign) (.ask (o.told.length≤o.told.length) (.ask (QE 2 o.told.length (fun i=>QA.enc (o.told.getD i ⟨0,
  0⟩)) fun i=>QA.enc (o.told.getD i ⟨0,0⟩)) (.ask (o.cells.length≤o.cells.length) (.ask (QE 1 o.cells.length (fun i=>QA.enc (o.cells.getD i 0)) fun i=>QA.enc
  (o.cells.getD i 0)) (.ask (x.d.play.length=x.d.play.length) (.ask (x.d.play.slack=x.d.play.slack) (.ask (x.d.play.loose=x.d.play.loose) (.ask (x.d.play.damp.lo =
  x.d.play.damp.lo) (.ask (x.d.play.damp.hi=x.d.play.damp.hi) (.ask (x.d.wide=x.d.wide) (.ask (x.d.high=x.d.high) (.ask (x.d.turn=x.d.turn) (.ask (0=0) (.ask (x.d.ps.n =
  x.d.ps.n) (.ask (cO=cO) (.ask (0=0) (.ask (x.scans.n=x.scans.n) (.ask (cO=cO) (.ask (0=0) (.ask (x.hang.n=x.hang.n) (.ask (cO=cO)
  (.ask (x.lost=x.lost) (.ask (x.foreign=x.foreign) (.ask (x.d.ps.n≤x.d.ps.n) (.ask (QE 28 x.d.ps.n (fun i=>QA.enc (x.d.ps.get i)) fun i=>QA.enc (x.d.ps.get i))
  (.ask (x.scans.n≤x.scans.n) (.ask (QE 28 x.scans.n (fun i=>QA.enc (x.scans.get i)) fun i=>QA.enc (x.scans.get i)) (.ask (x.hang.n≤x.hang.n) (.ask (QE 4 x.hang.n
  (fun i=>QA.enc (x.hang.get i)) fun i=>QA.enc (x.hang.get i)) (.asm (True) (.all (fun(g4:Nat→Value) => .leaf (.tup (QAO o)) ((Xu fo lo o sc
  x))))))))))))))))))))))))))))))))))))))))))))))))))))))))))))))))))))))))))))))))))))))))))))))))))))))))))))))))))))))))))))))))))))))))))))):=by kernel_rfl
theorem QW4(o:Mor)(lo fo:Int)(sc:Nat→QK)(y:QB)(g:Nat→Value):exec (mkS Try.prog KT) (Xj Try.prog true x o lo fo sc 3 y) (QV Try.f9 1) (JSt.inst (JJ true x o lo fo sc 3) g) (KH [] YH) = .leaf (.tup (QH3 o)) ((GI o x)):=by kernel_rfl
theorem QOK(o:Mor)(p:List Int)(k:Nat)(g:Nat→Value):exec (mkS Try.prog KT) (hnd (mkS Try.prog KT) 3) (QV Try.f9 2) (JSt.inst (jl o p k) g) (KH [] QM4) =
  QD.br (decide ((↑k:Int)<(↑p.length:Int))) (QD.need (decide ((0:Int)≤(↑k:Int)∧(↑k:Int)<(↑o.cells.length:Int))&&decide (o.cells.length≤o.cells.length))
  (QD.need (decide (k<o.cells.length)) (QD.need (decide ((0:Int)≤(↑k:Int)∧(↑k:Int)<(↑p.length:Int))&&decide (p.length≤p.length)) (QD.need (decide (k <
  p.length)) (QD.br (i64.wrap (↑(BitVec.ofInt (64:Nat) (o.cells.getD k (0:Int)) &&& ~~~BitVec.ofInt (64:Nat) (p.getD k (0:Int))).toNat:Int) != (0:Int))
  (QD.leaf (AV.tup [AV.nili,AV.ptr (276:Nat) (0:Nat) (0:Nat),AV.bool true false]) ([])) (QD.leaf (AV.tup [AV.nilp,AV.ptr (276:Nat) (0:Nat) (0:Nat),AV.slz (88 :
  Nat) (0:Nat) o.cells.length (Cap.of (0:Nat)),AV.slz (640:Nat) (0:Nat) p.length (Cap.of (0:Nat)),AV.int false i64 (↑p.length:Int),AV.int false i64
  (i64.wrap ((↑k:Int)+(1:Int)))]) ([((88:Nat),Blk.rowz true (3:Nat) [CK.int i64] o.cells.length fun i=>QA.enc (o.cells.getD i (0:Int))),((640:Nat),
  Blk.rowz true (3:Nat) [CK.int i64] p.length fun i=>QA.enc (p.getD i (0:Int)))]))))))) (QD.leaf (AV.tup [AV.ptr (6:Nat) (0:Nat) (0:Nat),AV.ptr (276:Nat) (0
  : Nat) (0:Nat)]) ([])):=by kernel_rfl
noncomputable abbrev QHh(k:Nat)(o:Mor)(p:List Int)(q:List QC):List AV:=
  [.ptr 8 0 0,.slz 88 0 o.cells.length cO,vi o.al,vi o.e,.slz 160 0 o.told.length cO,.slice true 232 0 3 (Cap.lit 3),vj 3,
  .int true .i64 (j:Int),.slz 640 0 p.length cO,.slz 720 0 q.length cO,vi (p.length:Int),vi (i64.wrap ((k:Int)+1))]
abbrev QMO(k:Nat)(k':Nat)(p:List Int)(q:List QC):List Prop:=
  [(j:Int)=(j:Int),0=0,p.length=p.length,cO=cO,0=0,q.length=q.length,cO=cO,(p.length:Int)=(p.length:Int),i64.wrap ((k :
  Int)+1)=(k':Int),p.length≤p.length,QE 1 p.length (fun i=>QA.enc (p.getD i 0)) fun i=>QA.enc (p.getD i 0),q.length≤q.length,QE 2 q.length (fun i=>
  QA.enc (q.getD i ⟨0,0⟩)) fun i=>QA.enc (q.getD i ⟨0,0⟩)]
theorem QGd(o:Mor)(lo fo:Int)(sc:Nat→QK)(j:Nat)(p:List Int)(q:List QC)(k k':Nat):QM 8 (QHh j k o p q) ((QCm fo lo o p q x)) (qU false x o lo fo sc j p q k')=(some ((Jm o)++[(3:Int)=3]++(QMO j k k' p q)++[x.d.play.length =
  x.d.play.length]++(Qn x)++[lo=lo,x.foreign=x.foreign,x.d.play.length=x.d.play.length]++(Qn x)++[x.lost=x.lost,fo=fo,x.d.play.length=x.d.play.length] ++
  (Qn x)++[x.lost=x.lost]++(J7 o x)++(Qn x)++(Jq x))):=by kernel_rfl
noncomputable abbrev QE3(o:Mor):List AV:=
  [.ptr 8 0 0,.slz 88 0 o.cells.length cO,vi o.al,vi o.e,.slz 160 0 o.told.length cO,.slice true 232 0 3 (Cap.lit 3),vj 3,
  .int true .i64 (j:Int)]
theorem QOx(o:Mor)(lo fo:Int)(sc:Nat→QK)(j:Nat):QM 8 (QE3 j o) ((Xb fo lo o x)) (HY false x o lo fo sc j)=(some ((Jm o)++[(3:Int)=3,(j:Int)=(j:Int),x.d.play.length=x.d.play.length]++(Qn x) ++
  [lo=lo,x.foreign=x.foreign,x.d.play.length=x.d.play.length]++(Qn x)++[x.lost=x.lost,fo=fo,x.d.play.length=x.d.play.length]++(Qn x)++[x.lost=x.lost]
  ++ (J7 o x)++(Qn x)++(Jq x))):=by kernel_rfl
noncomputable abbrev QH2(o:Mor):List AV:=
  [.ptr 8 0 0,.slz 88 0 o.cells.length cO,vi o.al,vi o.e,.slz 160 0 o.told.length cO,.slice true 232 0 3 (Cap.lit 3),vj 3,
  .int true .i64 1]
theorem QMX(o:Mor)(lo fo:Int)(sc:Nat→QK):QM 8 (QH2 o) ((Xb fo lo o x)) (JJ false x o lo fo sc 1)=(some ((Jm o)++[(3:Int)=3,(1:Int)=1,x.d.play.length=x.d.play.length]++(Qn x)++[lo=lo,
  x.foreign=x.foreign,x.d.play.length=x.d.play.length]++(Qn x)++[x.lost=x.lost,fo=fo,x.d.play.length=x.d.play.length]++(Qn x)++[x.lost=x.lost]++(J7 o
  x)++(Qn x)++(Jq x))):=by kernel_rfl
noncomputable abbrev QL8(o:Mor):List AV:=
  [.ptr 8 0 0,.slz 88 0 o.cells.length cO,vi o.al,vi o.e,.slz 160 0 o.told.length cO,.slice true 232 0 3 (Cap.lit 3),vj 3,
  .int true .i64 2]
theorem QHK(o:Mor)(lo fo:Int)(sc:Nat→QK):QM 8 (QL8 o) ((Xb fo lo o x)) (JJ false x o lo fo sc 2)=(some ((Jm o)++[(3:Int)=3,(2:Int)=2,x.d.play.length=x.d.play.length]++(Qn x)++[lo=lo,
  x.foreign=x.foreign,x.d.play.length=x.d.play.length]++(Qn x)++[x.lost=x.lost,fo=fo,x.d.play.length=x.d.play.length]++(Qn x)++[x.lost=x.lost]++(J7 o
  x)++(Qn x)++(Jq x))):=by kernel_rfl
noncomputable abbrev QKg(o:Mor):List AV:=
  [.ptr 8 0 0,.slz 88 0 o.cells.length cO,vi o.al,vi o.e,.slz 160 0 o.told.length cO,.slice true 232 0 3 (Cap.lit 3),vj 3,
  .int true .i64 3]
theorem QM5(o:Mor)(lo fo:Int)(sc:Nat→QK):QM 8 (QKg o) ((Xb fo lo o x)) (JJ false x o lo fo sc 3)=(some ((Jm o)++[(3:Int)=3,(3:Int)=3,x.d.play.length=x.d.play.length]++(Qn x)++[lo=lo,
  x.foreign=x.foreign,x.d.play.length=x.d.play.length]++(Qn x)++[x.lost=x.lost,fo=fo,x.d.play.length=x.d.play.length]++(Qn x)++[x.lost=x.lost]++(J7 o
  x)++(Qn x)++(Jq x))):=by kernel_rfl
noncomputable abbrev QHw(o:Mor):List AV:=
  [.ptr 8 0 0,.slz 88 0 o.cells.length cO,vi o.al,vi o.e]
abbrev QMh(o:Mor)(x:QB):List Prop:=
  [0=0,0=0,0=0,o.cells.length=o.cells.length,cO=cO,o.al=o.al,o.e=o.e,o.cells.length≤o.cells.length,QE 1 o.cells.length (fun i=>QA.enc
  (o.cells.getD i 0)) fun i=>QA.enc (o.cells.getD i 0),x.d.play.length=x.d.play.length,x.d.play.slack=x.d.play.slack,x.d.play.loose=x.d.play.loose,x.d.play.damp.lo =
  x.d.play.damp.lo,x.d.play.damp.hi=x.d.play.damp.hi,x.d.wide=x.d.wide,x.d.high=x.d.high,x.d.turn=x.d.turn,0=0,x.d.ps.n=x.d.ps.n,cO=cO,0=0,
  x.scans.n=x.scans.n,cO=cO,0=0,x.hang.n=x.hang.n,cO=cO,x.lost=x.lost,x.foreign=x.foreign,x.d.ps.n≤x.d.ps.n,QE 28 x.d.ps.n (fun i
  => QA.enc (x.d.ps.get i)) fun i=>QA.enc (x.d.ps.get i),x.scans.n≤x.scans.n,QE 28 x.scans.n (fun i=>QA.enc (x.scans.get i)) fun i=>QA.enc (x.scans.get i),
  x.hang.n≤x.hang.n,QE 4 x.hang.n (fun i=>QA.enc (x.hang.get i)) fun i=>QA.enc (x.hang.get i)]
theorem QWg(o:Mor):QM 8 (QHw o) ((GI o x)) (ZL x o)=(some (QMh o x)):=by kernel_rfl
theorem QHq(o:Mor)(lo fo:Int)(sc:Nat→QK)(j:Nat)(p:List Int)(q:List QC)(k k':Nat):QM 8 (QHh j k o p q) ((QCS fo lo o p q sc x)) (qU true x o lo fo sc j p q k')=(some ((Jm o)++[(3:Int)=3]++(QMO j k k' p q)++[x.scans.n≤x.scans.n,QE
  28 x.scans.n (fun i=>QA.enc (sc i)) fun i=>QA.enc (sc i),x.d.play.length=x.d.play.length]++(Qn x)++[lo=lo,x.foreign=x.foreign,x.d.play.length =
  x.d.play.length]++(Qn x)++[x.lost=x.lost,fo=fo,x.d.play.length=x.d.play.length]++(Qn x)++[x.lost=x.lost]++(J7 o x)++(Qn x)++(Jq x))):=by kernel_rfl
theorem QUg(o:Mor)(lo fo:Int)(sc:Nat→QK)(j:Nat):QM 8 (QE3 j o) ((Xu fo lo o sc x)) (HY true x o lo fo sc j)=(some ((Jm o)++[(3:Int)=3,(j:Int)=(j:Int),x.scans.n≤x.scans.n,QE 28 x.scans.n (fun i
  => QA.enc (sc i)) fun i=>QA.enc (sc i),x.d.play.length=x.d.play.length]++(Qn x)++[lo=lo,x.foreign=x.foreign,x.d.play.length=x.d.play.length]++(Qn x) ++
  [x.lost=x.lost,fo=fo,x.d.play.length=x.d.play.length]++(Qn x)++[x.lost=x.lost]++(J7 o x)++(Qn x)++(Jq x))):=by kernel_rfl
theorem QKf(o:Mor)(lo fo:Int)(sc:Nat→QK):QM 8 (QH2 o) ((Xu fo lo o sc x)) (JJ true x o lo fo sc 1)=(some ((Jm o)++[(3:Int)=3,(1:Int)=1,x.scans.n≤x.scans.n,QE 28 x.scans.n (fun i=>QA.enc
  (sc i)) fun i=>QA.enc (sc i),x.d.play.length=x.d.play.length]++(Qn x)++[lo=lo,x.foreign=x.foreign,x.d.play.length=x.d.play.length]++(Qn x)++[x.lost =
  x.lost,fo=fo,x.d.play.length=x.d.play.length]++(Qn x)++[x.lost=x.lost]++(J7 o x)++(Qn x)++(Jq x))):=by kernel_rfl
theorem QIw(o:Mor)(lo fo:Int)(sc:Nat→QK):QM 8 (QL8 o) ((Xu fo lo o sc x)) (JJ true x o lo fo sc 2)=(some ((Jm o)++[(3:Int)=3,(2:Int)=2,x.scans.n≤x.scans.n,QE 28 x.scans.n (fun i=>QA.enc
  (sc i)) fun i=>QA.enc (sc i),x.d.play.length=x.d.play.length]++(Qn x)++[lo=lo,x.foreign=x.foreign,x.d.play.length=x.d.play.length]++(Qn x)++[x.lost =
  x.lost,fo=fo,x.d.play.length=x.d.play.length]++(Qn x)++[x.lost=x.lost]++(J7 o x)++(Qn x)++(Jq x))):=by kernel_rfl
theorem QLk(o:Mor)(lo fo:Int)(sc:Nat→QK):QM 8 (QKg o) ((Xu fo lo o sc x)) (JJ true x o lo fo sc 3)=(some ((Jm o)++[(3:Int)=3,(3:Int)=3,x.scans.n≤x.scans.n,QE 28 x.scans.n (fun i=>QA.enc
  (sc i)) fun i=>QA.enc (sc i),x.d.play.length=x.d.play.length]++(Qn x)++[lo=lo,x.foreign=x.foreign,x.d.play.length=x.d.play.length]++(Qn x)++[x.lost =
  x.lost,fo=fo,x.d.play.length=x.d.play.length]++(Qn x)++[x.lost=x.lost]++(J7 o x)++(Qn x)++(Jq x))):=by kernel_rfl
theorem QQe(o:Mor):QM 8 (QHw o) ((GI o x)) (ZL x o)=(some (QMh o x)):=by kernel_rfl
theorem QOC(o:Mor)(p:List Int)(k k':Nat):QM 8 [AV.slz (88:Nat) (0:Nat) o.cells.length (Cap.of (0:Nat)),AV.slz (640:Nat) (0:Nat) p.length (Cap.of (0:Nat)),AV.int false i64 (↑p.length:Int),AV.int false i64 (i64.wrap ((↑k:Int)+(1:Int)))] ([((88:Nat),Blk.rowz true (3:Nat) [CK.int i64] o.cells.length fun i=>QA.enc (o.cells.getD i (0:Int))),((640:Nat),Blk.rowz true (3:Nat) [CK.int i64] p.length fun i=>QA.enc (p.getD i (0:Int)))]) (jl o p k')=(
  some [(0:Nat)=(0:Nat),o.cells.length=o.cells.length,Cap.of (0:Nat)=Cap.of (0:Nat),(0:Nat)=(0:Nat),p.length=p.length,Cap.of (0:Nat)=Cap.of (0:Nat),
  (↑p.length:Int)=(↑p.length:Int),i64.wrap ((↑k:Int)+(1:Int))=(↑k':Int),p.length≤p.length,QE (1:Nat) p.length (fun i=>QA.enc (p.getD i (0 :
  Int))) fun i=>QA.enc (p.getD i (0:Int)),o.cells.length≤o.cells.length,QE (1:Nat) o.cells.length (fun i=>QA.enc (o.cells.getD i (0:Int))) fun i=>QA.enc
  (o.cells.getD i (0:Int))]):=by kernel_rfl
theorem QNG :QM 8 [] ([]) QAu=(
  some []):=by kernel_rfl
end Go.Proofs.Ytbpffdkemeoajaa
