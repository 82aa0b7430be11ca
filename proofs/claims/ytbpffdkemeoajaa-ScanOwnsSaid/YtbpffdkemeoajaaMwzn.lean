/- - -/
import Derived.Test.YtbpffdkemeoajaaMwzm
open Go.IntKind (i64)
set_option maxRecDepth 100000
namespace Go.Proofs.Ytbpffdkemeoajaa
open Go Go.SX
structure Own where
 cells:List Int
 told:List QB
 a:List QB
 b:List QB
 e:Int
 f:Int
 g:Int
def rwI(id:Nat)(l:List Int):Nat×Blk:=(id,.rowz true 3 [.int .i64] l.length fun i=>QA.enc (l.getD i (0:Int)))
def rwP(id:Nat)(l:Rw QT):Nat×Blk:=(id,.rowz true 33 (QA.ks (α:=QT)) l.n fun i=>QA.enc (l.get i))
def rwJ(id:Nat)(l:Rw Jn):Nat×Blk:=(id,.rowz true 70 (QA.ks (α:=Jn)) l.n fun i=>QA.enc (l.get i))
variable (x:QE)(g:Nat→Nat→Int)(k k':Nat)
def owB(o:Own):List (Nat×Blk):=[rwP 72 x.d.ps,rwP 104 x.scans,rwJ 136 x.hang,rwI 400 o.cells,rwL 424 o.told,rwL 448 o.a,rwL 472 o.b]++laB x
def owS(o:Own):List (Nat×AV):=[(1,.ptr 8 0 0),(3,.slz 72 0 x.d.ps.n (.of 0)),(4,.slz 104 0 x.scans.n (.of 0)),(5,.slz 136 0 x.hang.n (.of 0)),(8,.int false .i64 o.e),(10,.int false .i64 o.f),(14,.int false .i64 o.g),(15,.slz 400 0 o.cells.length (.of 0)),(16,.slz 424 0 o.told.length (.of 0)),(17,.slz 448 0 o.a.length (.of 0)),(18,.slz 472 0 o.b.length (.of 0))]
def JQ(g:Nat→Nat→Int):Nat→Nat→Nat→Int
 | 0=>g
 | k+1=>fun i=>bif decide (i=k)then Kq [.int true .i64 (-9)] 0 (JQ g k k)else JQ g k i
def cI(o:Own):Nat→Nat→Int:=fun i=>QA.enc (o.cells.getD i (0:Int))
def sI(l:List QB):Nat→Nat→Int:=fun i=>QA.enc (l.getD i ⟨0,0⟩)
def rzI(id n:Nat)(g:Nat→Nat→Int):Nat×Blk:=(id,.rowz true 3 [.int .i64] n g)
def rzS(id n:Nat)(g:Nat→Nat→Int):Nat×Blk:=(id,.rowz true 56 [.int .i64,.int .i64] n g)
def zp(o:Own)(g h:Nat→Nat→Int)(k:Nat):JSt:=⟨225,owS x o++[(6,.slz 176 0 o.cells.length (.of 0)),(9,.slz 248 0 o.told.length (.of 0)),(11,.slz 304 0 o.a.length (.of 0)),(12,.slz 305 0 o.b.length (.of 0)),(82,.int false .i64 o.cells.length),(83,.int false .i64 k)],[rzI 176 o.cells.length g,rzS 248 o.told.length h,rwL 304 o.a,rwL 305 o.b]++owB x o,536⟩
def QCB(o:Own):JSt:=⟨225,owS x o++[(11,.slz 304 0 o.a.length (.of 0)),(12,.slz 305 0 o.b.length (.of 0))],[rwL 304 o.a,rwL 305 o.b]++owB x o,536⟩
def owL:List Nat:=[1,3,4,5,8,10,14,15,16,17,18]
def QOI:Ex→List Nat
 | .normal=>owL++[6,9,11,12,82,83]
 | .exit _=>owL++[11,12]
 | .ret=>[]
def QBK(o:Own):Nat×Blk:=(560,.rowl 38 1 [[.slz 304 0 o.a.length (.of 0)],[.slz 305 0 o.b.length (.of 0)]])
def Wd(w:Bool)(x:QE)(o:Own)(g:Nat→Nat→Int)(k:Nat):JSt:=match w with
 | false=>⟨225,owS x o++[(96,.slice true 560 0 2 (.lit 2)),(97,.int true .i64 2),(98,.int true .i64 0),(21,.slz 304 0 o.a.length (.of 0)),(103,.int false .i64 o.a.length),(104,.int false .i64 k)],[rzS 304 o.a.length g,rwL 305 o.b,QBK o]++owB x o,600⟩
 | true=>⟨225,owS x o++[(96,.slice true 560 0 2 (.lit 2)),(97,.int true .i64 2),(98,.int true .i64 1),(21,.slz 305 0 o.b.length (.of 0)),(103,.int false .i64 o.b.length),(104,.int false .i64 k)],[rzS 304 o.a.length (JQ (sI o.a) o.a.length),rzS 305 o.b.length g,QBK o]++owB x o,600⟩
def jR(w:Bool)(x:QE)(o:Own):JSt:=match w with
 | false=>⟨225,owS x o++[(96,.slice true 560 0 2 (.lit 2)),(97,.int true .i64 2),(98,.int true .i64 0)],[rzS 304 o.a.length (JQ (sI o.a) o.a.length),rwL 305 o.b,QBK o]++owB x o,600⟩
 | true=>⟨225,owS x o++[(96,.slice true 560 0 2 (.lit 2)),(97,.int true .i64 2),(98,.int true .i64 1)],[rzS 304 o.a.length (JQ (sI o.a) o.a.length),rzS 305 o.b.length (JQ (sI o.b) o.b.length),QBK o]++owB x o,600⟩
def QBP:Ex→List Nat
 | .normal=>owL++[96,97,98,21,103,104]
 | .exit _=>owL++[96,97,98]
 | .ret=>[]
def QLq(o:Own):List (Nat×AV):=[(23,.slz 1000 0 o.cells.length (.of 0)),(25,.int false .i64 o.e),(26,.slz 1100 0 o.told.length (.of 0)),(27,.int false .i64 o.f),(28,.slz 1200 0 o.a.length (.of 0)),(29,.slz 1201 0 o.b.length (.of 0)),(31,.int false .i64 o.g)]
def QKM(o:Own):List (Nat×Blk):=[rwI 1000 o.cells,rwL 1100 o.told,rwL 1200 o.a,rwL 1201 o.b]++owB x o
def VZ(c n:Nat)(x:QE)(o:Own)(k:Nat):JSt:=⟨225,owS x o++QLq o++[(c,.int false .i64 n),(c+1,.int false .i64 k)],QKM x o,1300⟩
def Xr(o:Own):JSt:=⟨225,owS x o++QLq o,QKM x o,1300⟩
def QLM:List Nat:=[23,25,26,27,28,29,31]
def qz(c:Nat):Ex→List Nat
 | .normal=>owL++QLM++[c,c+1]
 | .exit _=>owL++QLM
 | .ret=>[2]
noncomputable abbrev XF:Nat×Blk:=
  (8,.cells 0 50 [vi x.d.play.length,vi x.d.play.slack,vi x.d.play.loose,vi x.d.play.damp.lo,vi x.d.play.damp.hi,
  .int false .i64 x.d.wide,vi x.d.high,.bool false x.d.turn,.slz 0 0 x.d.ps.n cO,.slz 1 0 x.scans.n cO,.slz 2 0 x.hang.n cO,.int false .i64
  x.lost,vi x.foreign])
abbrev Kv:List CK:=
  [.int .i64,.int .i64,.int .i64,.int .i64,.int .i64,.int .i64,.int .i64,.int .i64,.int .i64,.int .i64,.int .i64,.int .i64,.int .i64,.int .i64,.int .i64,.int .i64,.int
  .i64,.int .i64,.int .i64,.int .i64,.int .i64,.int .i64,.int .i64,.int .i64,.int .i64,.int .i64,.int .i64,.int .i64]
noncomputable abbrev Xa:Nat×Blk:=
  (72,.rowz true 33 Kv x.d.ps.n fun i=>QA.enc (x.d.ps.get i))
noncomputable abbrev XJ:Nat×Blk:=
  (104,.rowz true 33 Kv x.scans.n fun i=>QA.enc (x.scans.get i))
noncomputable abbrev XV:Nat×Blk:=
  (136,.rowz true 70 [.int .i64,.int .i64,.int .i64,.int .i64] x.hang.n fun i=>QA.enc (x.hang.get i))
noncomputable abbrev XM(o:Own):Nat×Blk:=
  (400,.rowz true 3 [.int .i64] o.cells.length fun i=>QA.enc (o.cells.getD i 0))
noncomputable abbrev XS(o:Own):Nat×Blk:=
  (424,.rowz true 56 [.int .i64,.int .i64] o.told.length fun i=>QA.enc (o.told.getD i ⟨0,0⟩))
noncomputable abbrev Xd(o:Own):Nat×Blk:=
  (448,.rowz true 56 [.int .i64,.int .i64] o.a.length fun i=>QA.enc (o.a.getD i ⟨0,0⟩))
noncomputable abbrev XG(o:Own):Nat×Blk:=
  (472,.rowz true 56 [.int .i64,.int .i64] o.b.length fun i=>QA.enc (o.b.getD i ⟨0,0⟩))
noncomputable abbrev QJZ(o:Own):Nat×Blk:=
  (176,.rowz true 3 [.int .i64] o.cells.length fun i=>bif decide (i=k)then Kq [vj (-9)] 0 (g ((k:Int).toNat+0))else g i)
noncomputable abbrev QL5(h:Nat→Nat→Int)(k:Nat)(o:Own):Nat×Blk:=
  (248,.rowz true 56 [.int .i64,.int .i64] o.told.length fun i=>bif decide (i=k)then Kq [vj (-9)] 0 (h ((k:Int).toNat+0))else h i)
noncomputable abbrev QCI(o:Own):Nat×Blk:=
  (304,.rowz true 56 [.int .i64,.int .i64] o.a.length fun i=>QA.enc (o.a.getD i ⟨0,0⟩))
noncomputable abbrev WW(o:Own):Nat×Blk:=
  (305,.rowz true 56 [.int .i64,.int .i64] o.b.length fun i=>QA.enc (o.b.getD i ⟨0,0⟩))
noncomputable abbrev XP:Nat×Blk:=
  (2,.frz [.int .i64,.int .i64,.int .i64,.int .i64] x.hang.n fun i=>QA.enc (x.hang.get i))
theorem QRd(o:Own)(g h:Nat→Nat→Int)(k:Nat)(u:Nat→Value):exec (mkE Try.prog KK) (hnd (mkE Try.prog KK) 3) (QW Try.f11 0) (JSt.inst (zp x o g h k) u) (KF [] QOI) = .br (decide ((k:Int)<(o.cells.length:Int))) (.need
  (decide ((0:Int)≤(k:Int)∧(k:Int)<(o.cells.length:Int))&&decide (o.cells.length≤o.cells.length)) (.need (decide (k<o.cells.length)) (.need (decide ((0:Int)≤(k
  : Int)∧(k:Int)<(o.told.length:Int))&&decide (o.told.length≤o.told.length)) (.need (decide (k<o.told.length)) (.leaf (.tup [.nilp,.ptr 225 0 0,.ptr 8 0 0,.slz 72 0
  x.d.ps.n cO,.slz 104 0 x.scans.n cO,.slz 136 0 x.hang.n cO,vi o.e,vi o.f,vi o.g,.slz 400 0 o.cells.length
  cO,.slz 424 0 o.told.length cO,.slz 448 0 o.a.length cO,.slz 472 0 o.b.length cO,.slz 176 0 o.cells.length cO,.slz 248 0 o.told.length
  cO,.slz 304 0 o.a.length cO,.slz 305 0 o.b.length cO,vi (o.cells.length:Int),vi (i64.wrap ((k:Int)+1))]) ([(XF
  x),(Xa x),(XJ x),(XV x),(XM o),(XS o),(Xd o),(XG o),(QJZ g k o),(QL5 h k o),(QCI o),(WW o),(0,.frz Kv x.d.ps.n fun i=>QA.enc (x.d.ps.get
  i)),(1,.frz Kv x.scans.n fun i=>QA.enc (x.scans.get i)),(XP x)])))))) (.leaf (.tup [.ptr 0 0 0,.ptr 225 0 0,.ptr 8 0 0,.slz 72 0 x.d.ps.n cO,.slz 104 0
  x.scans.n cO,.slz 136 0 x.hang.n cO,vi o.e,vi o.f,vi o.g,.slz 400 0 o.cells.length cO,.slz 424 0 o.told.length
  cO,.slz 448 0 o.a.length cO,.slz 472 0 o.b.length cO,.slz 304 0 o.a.length cO,.slz 305 0 o.b.length cO]) ([(XF x),(Xa x),(XJ
  x),(XV x),(XM o),(XS o),(Xd o),(XG o),(QCI o),(WW o),(0,.frz Kv x.d.ps.n fun i=>QA.enc (x.d.ps.get i)),(1,.frz Kv x.scans.n fun i=>QA.enc
  (x.scans.get i)),(XP x)])):=by kernel_rfl
noncomputable abbrev WL(o:Own):Nat×Blk:=
  (560,.rowl 38 1 [[.slz 304 0 o.a.length cO],[.slz 305 0 o.b.length cO]])
noncomputable abbrev QIh(o:Own):Nat×Blk:=
  (304,.rowz true 56 [.int .i64,.int .i64] o.a.length fun i=>bif decide (i=k)then Kq [vj (-9)] 0 (g ((k:Int).toNat+0))else g i)
theorem QQE(o:Own)(g:Nat→Nat→Int)(k:Nat)(u:Nat→Value):exec (mkE Try.prog KK) (hnd (mkE Try.prog KK) 3) (Xu (QW Try.f11 1)) (JSt.inst (Wd false x o g k) u) (KF [] QBP) = .br (decide ((k:Int)<(o.a.length :
  Int))) (.need (decide ((0:Int)≤(k:Int)∧(k:Int)<(o.a.length:Int))&&decide (o.a.length≤o.a.length)) (.need (decide (k<o.a.length)) (.leaf (.tup [.nilp,.ptr 225 0
  0,.ptr 8 0 0,.slz 72 0 x.d.ps.n cO,.slz 104 0 x.scans.n cO,.slz 136 0 x.hang.n cO,vi o.e,vi o.f,vi o.g,.slz
  400 0 o.cells.length cO,.slz 424 0 o.told.length cO,.slz 448 0 o.a.length cO,.slz 472 0 o.b.length cO,.slice true 560 0 2 (Cap.lit 2),.int true
  .i64 2,vj 0,.slz 304 0 o.a.length cO,vi (o.a.length:Int),vi (i64.wrap ((k:Int)+1))]) ([(XF x),(Xa x),(XJ
  x),(XV x),(XM o),(XS o),(Xd o),(XG o),(WL o),(QIh g k o),(0,.frz Kv x.d.ps.n fun i=>QA.enc (x.d.ps.get i)),(1,.frz Kv x.scans.n fun i=>QA.enc
  (x.scans.get i)),(XP x),(WW o)])))) (.leaf (.tup [.ptr 4 0 0,.ptr 225 0 0,.ptr 8 0 0,.slz 72 0 x.d.ps.n cO,.slz 104 0 x.scans.n cO,.slz 136 0 x.hang.n
  cO,vi o.e,vi o.f,vi o.g,.slz 400 0 o.cells.length cO,.slz 424 0 o.told.length cO,.slz 448 0 o.a.length (Cap.of
  0),.slz 472 0 o.b.length cO,.slice true 560 0 2 (Cap.lit 2),vj 2,vj 0]) ([(XF x),(Xa x),(XJ x),(XV x),(XM o),(XS o),(Xd
  o),(XG o),(WL o),(0,.frz Kv x.d.ps.n fun i=>QA.enc (x.d.ps.get i)),(1,.frz Kv x.scans.n fun i=>QA.enc (x.scans.get i)),(XP x),(304,.rowz true 56 [.int
  .i64,.int .i64] o.a.length g),(WW o)])):=by kernel_rfl
noncomputable abbrev QJW(o:Own):Nat×Blk:=
  (305,.rowz true 56 [.int .i64,.int .i64] o.b.length fun i=>bif decide (i=k)then Kq [vj (-9)] 0 (g ((k:Int).toNat+0))else g i)
noncomputable abbrev QA1(o:Own):Nat×Blk:=
  (304,.rowz true 56 [.int .i64,.int .i64] o.a.length (JQ (sI o.a) o.a.length))
theorem QZt(o:Own)(g:Nat→Nat→Int)(k:Nat)(u:Nat→Value):exec (mkE Try.prog KK) (hnd (mkE Try.prog KK) 3) (Xu (QW Try.f11 1)) (JSt.inst (Wd true x o g k) u) (KF [] QBP) = .br (decide ((k:Int)<(o.b.length:Int)))
  (.need (decide ((0:Int)≤(k:Int)∧(k:Int)<(o.b.length:Int))&&decide (o.b.length≤o.b.length)) (.need (decide (k<o.b.length)) (.leaf (.tup [.nilp,.ptr 225 0 0,.ptr
  8 0 0,.slz 72 0 x.d.ps.n cO,.slz 104 0 x.scans.n cO,.slz 136 0 x.hang.n cO,vi o.e,vi o.f,vi o.g,.slz 400 0
  o.cells.length cO,.slz 424 0 o.told.length cO,.slz 448 0 o.a.length cO,.slz 472 0 o.b.length cO,.slice true 560 0 2 (Cap.lit 2),.int true .i64
  2,vj 1,.slz 305 0 o.b.length cO,vi (o.b.length:Int),vi (i64.wrap ((k:Int)+1))]) ([(XF x),(Xa x),(XJ x),
  (XV x),(XM o),(XS o),(Xd o),(XG o),(WL o),(QJW g k o),(0,.frz Kv x.d.ps.n fun i=>QA.enc (x.d.ps.get i)),(1,.frz Kv x.scans.n fun i=>QA.enc
  (x.scans.get i)),(XP x),(QA1 o)])))) (.leaf (.tup [.ptr 4 0 0,.ptr 225 0 0,.ptr 8 0 0,.slz 72 0 x.d.ps.n cO,.slz 104 0 x.scans.n cO,.slz 136 0 x.hang.n
  cO,vi o.e,vi o.f,vi o.g,.slz 400 0 o.cells.length cO,.slz 424 0 o.told.length cO,.slz 448 0 o.a.length (Cap.of
  0),.slz 472 0 o.b.length cO,.slice true 560 0 2 (Cap.lit 2),vj 2,vj 1]) ([(XF x),(Xa x),(XJ x),(XV x),(XM o),(XS o),(Xd
  o),(XG o),(WL o),(0,.frz Kv x.d.ps.n fun i=>QA.enc (x.d.ps.get i)),(1,.frz Kv x.scans.n fun i=>QA.enc (x.scans.get i)),(XP x),(QA1 o),(305,.rowz true
  56 [.int .i64,.int .i64] o.b.length g)])):=by kernel_rfl
noncomputable abbrev X3(o:Own)(x:QE):List (Nat×Blk):=
  [(XF x),(Xa x),(XJ x),(XV x),(XM o),(XS o),(Xd o),(XG o),(1000,.rowz true 3 [.int .i64] o.cells.length fun i=>QA.enc (o.cells.getD i 0)),(1100,
  .rowz true 56 [.int .i64,.int .i64] o.told.length fun i=>QA.enc (o.told.getD i ⟨0,0⟩)),(1200,.rowz true 56 [.int .i64,.int .i64] o.a.length fun i=>QA.enc (o.a.getD i
  ⟨0,0⟩)),(1201,.rowz true 56 [.int .i64,.int .i64] o.b.length fun i=>QA.enc (o.b.getD i ⟨0,0⟩)),(0,.frz Kv x.d.ps.n fun i=>QA.enc (x.d.ps.get i)),(1,.frz Kv
  x.scans.n fun i=>QA.enc (x.scans.get i)),(XP x)]
theorem QVy(o:Own)(k:Nat)(u:Nat→Value):exec (mkE Try.prog KK) (hnd (mkE Try.prog KK) 3) (QW Try.f11 2) (JSt.inst (VZ 141 x.d.ps.n x o k) u) (KF [] (qz 141)) = .br (decide ((k:Int)<(x.d.ps.n :
  Int))) (.need (decide ((0:Int)≤(k:Int)∧(k:Int)<(x.d.ps.n:Int))&&decide (x.d.ps.n≤x.d.ps.n)) (.need (decide (k<x.d.ps.n)) (.need (decide ((0:Int)≤(k:Int) ∧
  (k:Int)<(x.d.ps.n:Int))&&decide (x.d.ps.n≤x.d.ps.n)) (.need (decide (k<x.d.ps.n)) (.br (!((x.d.ps.get k).up.kind==(x.d.ps.get k).up.kind&&((x.d.ps.get k).up.at_.lo
  == (x.d.ps.get k).up.at_.lo&&((x.d.ps.get k).up.at_.hi==(x.d.ps.get k).up.at_.hi&&true)&&((x.d.ps.get k).up.wide.lo==(x.d.ps.get k).up.wide.lo&&((x.d.ps.get
  k).up.wide.hi==(x.d.ps.get k).up.wide.hi&&true)&&((x.d.ps.get k).up.deep.lo==(x.d.ps.get k).up.deep.lo&&((x.d.ps.get k).up.deep.hi==(x.d.ps.get k).up.deep.hi&&true) &&
  true)))&&((x.d.ps.get k).right.kind==(x.d.ps.get k).right.kind&&((x.d.ps.get k).right.at_.lo==(x.d.ps.get k).right.at_.lo&&((x.d.ps.get k).right.at_.hi==(x.d.ps.get
  k).right.at_.hi&&true)&&((x.d.ps.get k).right.wide.lo==(x.d.ps.get k).right.wide.lo&&((x.d.ps.get k).right.wide.hi==(x.d.ps.get k).right.wide.hi&&true)&&((x.d.ps.get
  k).right.deep.lo==(x.d.ps.get k).right.deep.lo&&((x.d.ps.get k).right.deep.hi==(x.d.ps.get k).right.deep.hi&&true)&&true)))&&((x.d.ps.get k).down.kind==(x.d.ps.get
  k).down.kind&&((x.d.ps.get k).down.at_.lo==(x.d.ps.get k).down.at_.lo&&((x.d.ps.get k).down.at_.hi==(x.d.ps.get k).down.at_.hi&&true)&&((x.d.ps.get k).down.wide.lo ==
  (x.d.ps.get k).down.wide.lo&&((x.d.ps.get k).down.wide.hi==(x.d.ps.get k).down.wide.hi&&true)&&((x.d.ps.get k).down.deep.lo==(x.d.ps.get k).down.deep.lo&&((x.d.ps.get
  k).down.deep.hi==(x.d.ps.get k).down.deep.hi&&true)&&true)))&&((x.d.ps.get k).left.kind==(x.d.ps.get k).left.kind&&((x.d.ps.get k).left.at_.lo==(x.d.ps.get
  k).left.at_.lo&&((x.d.ps.get k).left.at_.hi==(x.d.ps.get k).left.at_.hi&&true)&&((x.d.ps.get k).left.wide.lo==(x.d.ps.get k).left.wide.lo&&((x.d.ps.get k).left.wide.hi
  == (x.d.ps.get k).left.wide.hi&&true)&&((x.d.ps.get k).left.deep.lo==(x.d.ps.get k).left.deep.lo&&((x.d.ps.get k).left.deep.hi==(x.d.ps.get k).left.deep.hi&&true) &&
  true)))&&true)))&&true)) (.leaf (.tup [.nili,.ptr 225 0 0,.bool true false]) ([])) (.leaf (.tup [.nilp,.ptr 225 0 0,.ptr 8 0 0,.slz 72 0 x.d.ps.n cO,.slz 104 0
  x.scans.n cO,.slz 136 0 x.hang.n cO,vi o.e,vi o.f,vi o.g,.slz 400 0 o.cells.length cO,.slz 424 0 o.told.length
  cO,.slz 448 0 o.a.length cO,.slz 472 0 o.b.length cO,.slz 1000 0 o.cells.length cO,vi o.e,.slz 1100 0 o.told.length cO,
  .int false .i64 o.f,.slz 1200 0 o.a.length cO,.slz 1201 0 o.b.length cO,vi o.g,vi (x.d.ps.n:Int),vi (i64.wrap
  ((k:Int)+1))]) ((X3 o x)))))))) (.leaf (.tup [.ptr 6 0 0,.ptr 225 0 0,.ptr 8 0 0,.slz 72 0 x.d.ps.n cO,.slz 104 0 x.scans.n cO,.slz 136 0 x.hang.n (Cap.of
  0),vi o.e,vi o.f,vi o.g,.slz 400 0 o.cells.length cO,.slz 424 0 o.told.length cO,.slz 448 0 o.a.length cO,.slz
  472 0 o.b.length cO,.slz 1000 0 o.cells.length cO,vi o.e,.slz 1100 0 o.told.length cO,vi o.f,.slz 1200 0 o.a.length (Cap.of
  0),.slz 1201 0 o.b.length cO,vi o.g]) ((X3 o x))):=by kernel_rfl
theorem QQJ(o:Own)(k:Nat)(u:Nat→Value):exec (mkE Try.prog KK) (hnd (mkE Try.prog KK) 3) (QW Try.f11 3) (JSt.inst (VZ 158 x.scans.n x o k) u) (KF [] (qz 158)) = .br (decide ((k:Int)<(x.scans.n :
  Int))) (.need (decide ((0:Int)≤(k:Int)∧(k:Int)<(x.scans.n:Int))&&decide (x.scans.n≤x.scans.n)) (.need (decide (k<x.scans.n)) (.need (decide ((0:Int)≤(k :
  Int)∧(k:Int)<(x.scans.n:Int))&&decide (x.scans.n≤x.scans.n)) (.need (decide (k<x.scans.n)) (.br (!((x.scans.get k).up.kind==(x.scans.get k).up.kind&&((x.scans.get
  k).up.at_.lo==(x.scans.get k).up.at_.lo&&((x.scans.get k).up.at_.hi==(x.scans.get k).up.at_.hi&&true)&&((x.scans.get k).up.wide.lo==(x.scans.get k).up.wide.lo &&
  ((x.scans.get k).up.wide.hi==(x.scans.get k).up.wide.hi&&true)&&((x.scans.get k).up.deep.lo==(x.scans.get k).up.deep.lo&&((x.scans.get k).up.deep.hi==(x.scans.get
  k).up.deep.hi&&true)&&true)))&&((x.scans.get k).right.kind==(x.scans.get k).right.kind&&((x.scans.get k).right.at_.lo==(x.scans.get k).right.at_.lo&&((x.scans.get
  k).right.at_.hi==(x.scans.get k).right.at_.hi&&true)&&((x.scans.get k).right.wide.lo==(x.scans.get k).right.wide.lo&&((x.scans.get k).right.wide.hi==(x.scans.get
  k).right.wide.hi&&true)&&((x.scans.get k).right.deep.lo==(x.scans.get k).right.deep.lo&&((x.scans.get k).right.deep.hi==(x.scans.get k).right.deep.hi&&true)&&true)))
  && ((x.scans.get k).down.kind==(x.scans.get k).down.kind&&((x.scans.get k).down.at_.lo==(x.scans.get k).down.at_.lo&&((x.scans.get k).down.at_.hi==(x.scans.get
  k).down.at_.hi&&true)&&((x.scans.get k).down.wide.lo==(x.scans.get k).down.wide.lo&&((x.scans.get k).down.wide.hi==(x.scans.get k).down.wide.hi&&true)&&((x.scans.get
  k).down.deep.lo==(x.scans.get k).down.deep.lo&&((x.scans.get k).down.deep.hi==(x.scans.get k).down.deep.hi&&true)&&true)))&&((x.scans.get k).left.kind==(x.scans.get
  k).left.kind&&((x.scans.get k).left.at_.lo==(x.scans.get k).left.at_.lo&&((x.scans.get k).left.at_.hi==(x.scans.get k).left.at_.hi&&true)&&((x.scans.get k).left.wide.lo
  == (x.scans.get k).left.wide.lo&&((x.scans.get k).left.wide.hi==(x.scans.get k).left.wide.hi&&true)&&((x.scans.get k).left.deep.lo==(x.scans.get k).left.deep.lo &&
  ((x.scans.get k).left.deep.hi==(x.scans.get k).left.deep.hi&&true)&&true)))&&true)))&&true)) (.leaf (.tup [.nili,.ptr 225 0 0,.bool true false]) ([])) (.leaf (.tup
  [.nilp,.ptr 225 0 0,.ptr 8 0 0,.slz 72 0 x.d.ps.n cO,.slz 104 0 x.scans.n cO,.slz 136 0 x.hang.n cO,vi o.e,vi o.f,.int
  false .i64 o.g,.slz 400 0 o.cells.length cO,.slz 424 0 o.told.length cO,.slz 448 0 o.a.length cO,.slz 472 0 o.b.length cO,.slz 1000 0
  o.cells.length cO,vi o.e,.slz 1100 0 o.told.length cO,vi o.f,.slz 1200 0 o.a.length cO,.slz 1201 0 o.b.length cO,.int
  false .i64 o.g,vi (x.scans.n:Int),vi (i64.wrap ((k:Int)+1))]) ((X3 o x)))))))) (.leaf (.tup [.ptr 8 0 0,.ptr 225 0 0,.ptr 8 0 0,.slz
  72 0 x.d.ps.n cO,.slz 104 0 x.scans.n cO,.slz 136 0 x.hang.n cO,vi o.e,vi o.f,vi o.g,.slz 400 0 o.cells.length
  cO,.slz 424 0 o.told.length cO,.slz 448 0 o.a.length cO,.slz 472 0 o.b.length cO,.slz 1000 0 o.cells.length cO,vi o.e,.slz
  1100 0 o.told.length cO,vi o.f,.slz 1200 0 o.a.length cO,.slz 1201 0 o.b.length cO,vi o.g]) ((X3 o x))):=by kernel_rfl
theorem QWa(o:Own)(k:Nat)(u:Nat→Value):exec (mkE Try.prog KK) (hnd (mkE Try.prog KK) 3) (QW Try.f11 4) (JSt.inst (VZ 174 x.hang.n x o k) u) (KF [] (qz 174)) = .br (decide ((k:Int)<(x.hang.n :
  Int))) (.need (decide ((0:Int)≤(k:Int)∧(k:Int)<(x.hang.n:Int))&&decide (x.hang.n≤x.hang.n)) (.need (decide (k<x.hang.n)) (.need (decide ((0:Int)≤(k:Int) ∧
  (k:Int)<(x.hang.n:Int))&&decide (x.hang.n≤x.hang.n)) (.need (decide (k<x.hang.n)) (.br (!((x.hang.get k).a==(x.hang.get k).a&&((x.hang.get k).i==(x.hang.get k).i
  && ((x.hang.get k).b==(x.hang.get k).b&&((x.hang.get k).j==(x.hang.get k).j&&true))))) (.leaf (.tup [.nili,.ptr 225 0 0,.bool true false]) ([])) (.leaf (.tup [.nilp,.ptr
  225 0 0,.ptr 8 0 0,.slz 72 0 x.d.ps.n cO,.slz 104 0 x.scans.n cO,.slz 136 0 x.hang.n cO,vi o.e,vi o.f,vi o.g,
  .slz 400 0 o.cells.length cO,.slz 424 0 o.told.length cO,.slz 448 0 o.a.length cO,.slz 472 0 o.b.length cO,.slz 1000 0 o.cells.length cO,
  .int false .i64 o.e,.slz 1100 0 o.told.length cO,vi o.f,.slz 1200 0 o.a.length cO,.slz 1201 0 o.b.length cO,vi o.g,.int false
  .i64 (x.hang.n:Int),vi (i64.wrap ((k:Int)+1))]) ((X3 o x)))))))) (.leaf (.tup [.ptr 10 0 0,.ptr 225 0 0,.ptr 8 0 0,.slz 72 0 x.d.ps.n cO,
  .slz 104 0 x.scans.n cO,.slz 136 0 x.hang.n cO,vi o.e,vi o.f,vi o.g,.slz 400 0 o.cells.length cO,.slz 424 0
  o.told.length cO,.slz 448 0 o.a.length cO,.slz 472 0 o.b.length cO,.slz 1000 0 o.cells.length cO,vi o.e,.slz 1100 0 o.told.length
  cO,vi o.f,.slz 1200 0 o.a.length cO,.slz 1201 0 o.b.length cO,vi o.g]) ((X3 o x))):=by kernel_rfl
abbrev Y9(o:Own)(x:QE):List Prop:=
  [0=0,x.d.ps.n=x.d.ps.n,cO=cO,0=0,x.scans.n=x.scans.n,cO=cO,0=0,x.hang.n=x.hang.n,cO=cO,o.e=o.e,o.f=o.f,o.g =
  o.g,0=0,o.cells.length=o.cells.length,cO=cO,0=0,o.told.length=o.told.length,cO=cO,0=0,o.a.length=o.a.length,cO=cO,0 =
  0,o.b.length=o.b.length,cO=cO]
abbrev ZT(o:Own):List Prop:=
  [0=0,o.a.length=o.a.length,cO=cO,0=0,o.b.length=o.b.length,cO=cO]
abbrev QOG(o:Own)(x:QE):List Prop:=
  [o.a.length≤o.a.length,QC 2 o.a.length (fun i=>QA.enc (o.a.getD i ⟨0,0⟩)) fun i=>QA.enc (o.a.getD i ⟨0,0⟩),o.b.length≤o.b.length,QC 2 o.b.length (fun i=>
  QA.enc (o.b.getD i ⟨0,0⟩)) fun i=>QA.enc (o.b.getD i ⟨0,0⟩),x.d.ps.n≤x.d.ps.n]
abbrev ZO(o:Own)(x:QE):List Prop:=
  [QC 28 x.d.ps.n (fun i=>QA.enc (x.d.ps.get i)) fun i=>QA.enc (x.d.ps.get i),x.scans.n≤x.scans.n,QC 28 x.scans.n (fun i=>QA.enc (x.scans.get i)) fun i=>
  QA.enc (x.scans.get i),x.hang.n≤x.hang.n,QC 4 x.hang.n (fun i=>QA.enc (x.hang.get i)) fun i=>QA.enc (x.hang.get i),o.cells.length≤o.cells.length,QC 1
  o.cells.length (fun i=>QA.enc (o.cells.getD i 0)) fun i=>QA.enc (o.cells.getD i 0),o.told.length≤o.told.length,QC 2 o.told.length (fun i=>QA.enc (o.told.getD i
  ⟨0,0⟩)) fun i=>QA.enc (o.told.getD i ⟨0,0⟩),o.a.length≤o.a.length,QC 2 o.a.length (fun i=>QA.enc (o.a.getD i ⟨0,0⟩)) fun i=>QA.enc (o.a.getD i ⟨0,0⟩),
  o.b.length≤o.b.length,QC 2 o.b.length (fun i=>QA.enc (o.b.getD i ⟨0,0⟩)) fun i=>QA.enc (o.b.getD i ⟨0,0⟩),x.d.play.length=x.d.play.length,x.d.play.slack =
  x.d.play.slack,x.d.play.loose=x.d.play.loose,x.d.play.damp.lo=x.d.play.damp.lo,x.d.play.damp.hi=x.d.play.damp.hi,x.d.wide=x.d.wide,x.d.high=x.d.high,x.d.turn =
  x.d.turn,0=0,x.d.ps.n=x.d.ps.n,cO=cO,0=0,x.scans.n=x.scans.n,cO=cO,0=0,x.hang.n=x.hang.n,cO=cO]
abbrev ZY:List Prop:=
  [x.lost=x.lost,x.foreign=x.foreign,x.d.ps.n≤x.d.ps.n,QC 28 x.d.ps.n (fun i=>QA.enc (x.d.ps.get i)) fun i=>QA.enc (x.d.ps.get i),x.scans.n≤x.scans.n,QC
  28 x.scans.n (fun i=>QA.enc (x.scans.get i)) fun i=>QA.enc (x.scans.get i),x.hang.n≤x.hang.n,QC 4 x.hang.n (fun i=>QA.enc (x.hang.get i)) fun i=>QA.enc
  (x.hang.get i)]
theorem QTW(o:Own)(g h g' h':Nat→Nat→Int)(k k':Nat):QL 8 [.ptr 8 0 0,.slz 72 0 x.d.ps.n cO,.slz 104 0 x.scans.n cO,.slz 136 0 x.hang.n cO,vi o.e,vi o.f,vi o.g,
  .slz 400 0 o.cells.length cO,.slz 424 0 o.told.length cO,.slz 448 0 o.a.length cO,.slz 472 0 o.b.length cO,.slz 176 0 o.cells.length cO,
  .slz 248 0 o.told.length cO,.slz 304 0 o.a.length cO,.slz 305 0 o.b.length cO,vi (o.cells.length:Int),vi (i64.wrap
  ((k:Int)+1))] ([(XF x),(Xa x),(XJ x),(XV x),(XM o),(XS o),(Xd o),(XG o),(QJZ g k o),(QL5 h k o),(QCI o),(WW o),(0,.frz Kv x.d.ps.n fun
  i=>QA.enc (x.d.ps.get i)),(1,.frz Kv x.scans.n fun i=>QA.enc (x.scans.get i)),(XP x)]) (zp x o g' h' k')=(some ([0=0,0=0]++(Y9 o x)++[0=0,
  o.cells.length=o.cells.length,cO=cO,0=0,o.told.length=o.told.length,cO=cO]++(ZT o)++[(o.cells.length:Int)=(o.cells.length:Int),
  i64.wrap ((k:Int)+1)=(k':Int),o.cells.length≤o.cells.length,QC 1 o.cells.length (fun i=>bif decide (i=k)then Kq [vj (-9)] 0 (g ((k :
  Int).toNat+0))else g i) g',o.told.length≤o.told.length,QC 2 o.told.length (fun i=>bif decide (i=k)then Kq [vj (-9)] 0 (h ((k:Int).toNat+0))else h
  i) h']++(QOG o x)++(ZO o x)++(ZY x))):=by kernel_rfl
theorem QR1(o:Own):QL 8 [.ptr 8 0 0,.slz 72 0 x.d.ps.n cO,.slz 104 0 x.scans.n cO,.slz 136 0 x.hang.n cO,vi o.e,vi o.f,vi o.g,
  .slz 400 0 o.cells.length cO,.slz 424 0 o.told.length cO,.slz 448 0 o.a.length cO,.slz 472 0 o.b.length cO,.slz 304 0 o.a.length cO,.slz
  305 0 o.b.length cO] ([(XF x),(Xa x),(XJ x),(XV x),(XM o),(XS o),(Xd o),(XG o),(QCI o),(WW o),(0,.frz Kv x.d.ps.n fun i=>QA.enc
  (x.d.ps.get i)),(1,.frz Kv x.scans.n fun i=>QA.enc (x.scans.get i)),(XP x)]) (QCB x o)=(some ([0=0,0=0]++(Y9 o x)++(ZT o)++(QOG o x)++(ZO o x)
  ++ (ZY x))):=by kernel_rfl
abbrev He:List Prop:=
  [0=0,2=2,Cap.lit 2=Cap.lit 2,(2:Int)=2]
theorem QQR(o:Own)(g g':Nat→Nat→Int)(k k':Nat):QL 8 [.ptr 8 0 0,.slz 72 0 x.d.ps.n cO,.slz 104 0 x.scans.n cO,.slz 136 0 x.hang.n cO,vi o.e,vi o.f,vi o.g,
  .slz 400 0 o.cells.length cO,.slz 424 0 o.told.length cO,.slz 448 0 o.a.length cO,.slz 472 0 o.b.length cO,.slice true 560 0 2 (Cap.lit 2),.int
  true .i64 2,vj 0,.slz 304 0 o.a.length cO,vi (o.a.length:Int),vi (i64.wrap ((k:Int)+1))] ([(XF x),(Xa x),
  (XJ x),(XV x),(XM o),(XS o),(Xd o),(XG o),(WL o),(QIh g k o),(0,.frz Kv x.d.ps.n fun i=>QA.enc (x.d.ps.get i)),(1,.frz Kv x.scans.n fun i=>
  QA.enc (x.scans.get i)),(XP x),(WW o)]) (Wd false x o g' k')=(some ([0=0,0=0]++(Y9 o x)++He++[(0:Int)=0,0=0,o.a.length=o.a.length,cO
  = cO,(o.a.length:Int)=(o.a.length:Int),i64.wrap ((k:Int)+1)=(k':Int),o.a.length≤o.a.length,QC 2 o.a.length (fun i=>bif decide (i=k)then
  Kq [vj (-9)] 0 (g ((k:Int).toNat+0))else g i) g',o.b.length≤o.b.length,QC 2 o.b.length (fun i=>QA.enc (o.b.getD i ⟨0,0⟩)) fun i=>QA.enc (o.b.getD
  i ⟨0,0⟩)]++(ZT o)++[x.d.ps.n≤x.d.ps.n]++(ZO o x)++(ZY x))):=by kernel_rfl
theorem QUr(o:Own)(g:Nat→Nat→Int):QL 8 [.ptr 8 0 0,.slz 72 0 x.d.ps.n cO,.slz 104 0 x.scans.n cO,.slz 136 0 x.hang.n cO,vi o.e,vi o.f,vi o.g,
  .slz 400 0 o.cells.length cO,.slz 424 0 o.told.length cO,.slz 448 0 o.a.length cO,.slz 472 0 o.b.length cO,.slice true 560 0 2 (Cap.lit 2),.int
  true .i64 2,vj 0] ([(XF x),(Xa x),(XJ x),(XV x),(XM o),(XS o),(Xd o),(XG o),(WL o),(0,.frz Kv x.d.ps.n fun i=>QA.enc (x.d.ps.get
  i)),(1,.frz Kv x.scans.n fun i=>QA.enc (x.scans.get i)),(XP x),(304,.rowz true 56 [.int .i64,.int .i64] o.a.length g),(WW o)]) (jR false x o)=(some ([0=0,0
  = 0]++(Y9 o x)++He++[(0:Int)=0,o.a.length≤o.a.length,QC 2 o.a.length g (JQ (sI o.a) o.a.length),o.b.length≤o.b.length,QC 2 o.b.length (fun i=>
  QA.enc (o.b.getD i ⟨0,0⟩)) fun i=>QA.enc (o.b.getD i ⟨0,0⟩)]++(ZT o)++[x.d.ps.n≤x.d.ps.n]++(ZO o x)++(ZY x))):=by kernel_rfl
theorem QVQ(o:Own)(g g':Nat→Nat→Int)(k k':Nat):QL 8 [.ptr 8 0 0,.slz 72 0 x.d.ps.n cO,.slz 104 0 x.scans.n cO,.slz 136 0 x.hang.n cO,vi o.e,vi o.f,vi o.g,
  .slz 400 0 o.cells.length cO,.slz 424 0 o.told.length cO,.slz 448 0 o.a.length cO,.slz 472 0 o.b.length cO,.slice true 560 0 2 (Cap.lit 2),.int
  true .i64 2,vj 1,.slz 305 0 o.b.length cO,vi (o.b.length:Int),vi (i64.wrap ((k:Int)+1))] ([(XF x),(Xa x),
  (XJ x),(XV x),(XM o),(XS o),(Xd o),(XG o),(WL o),(QJW g k o),(0,.frz Kv x.d.ps.n fun i=>QA.enc (x.d.ps.get i)),(1,.frz Kv x.scans.n fun i=>
  QA.enc (x.scans.get i)),(XP x),(QA1 o)]) (Wd true x o g' k')=(some ([0=0,0=0]++(Y9 o x)++He++[(1:Int)=1,0=0,o.b.length=o.b.length,cO =
  cO,(o.b.length:Int)=(o.b.length:Int),i64.wrap ((k:Int)+1)=(k':Int),o.a.length≤o.a.length,QC 2 o.a.length (JQ (sI o.a) o.a.length) (JQ (sI
  o.a) o.a.length),o.b.length≤o.b.length,QC 2 o.b.length (fun i=>bif decide (i=k)then Kq [vj (-9)] 0 (g ((k:Int).toNat+0))else g i) g']++(ZT o) ++
  [x.d.ps.n≤x.d.ps.n]++(ZO o x)++(ZY x))):=by kernel_rfl
theorem QWp(o:Own)(g:Nat→Nat→Int):QL 8 [.ptr 8 0 0,.slz 72 0 x.d.ps.n cO,.slz 104 0 x.scans.n cO,.slz 136 0 x.hang.n cO,vi o.e,vi o.f,vi o.g,
  .slz 400 0 o.cells.length cO,.slz 424 0 o.told.length cO,.slz 448 0 o.a.length cO,.slz 472 0 o.b.length cO,.slice true 560 0 2 (Cap.lit 2),.int
  true .i64 2,vj 1] ([(XF x),(Xa x),(XJ x),(XV x),(XM o),(XS o),(Xd o),(XG o),(WL o),(0,.frz Kv x.d.ps.n fun i=>QA.enc (x.d.ps.get
  i)),(1,.frz Kv x.scans.n fun i=>QA.enc (x.scans.get i)),(XP x),(QA1 o),(305,.rowz true 56 [.int .i64,.int .i64] o.b.length g)]) (jR true x o)=(some ([0=0,0
  = 0]++(Y9 o x)++He++[(1:Int)=1,o.a.length≤o.a.length,QC 2 o.a.length (JQ (sI o.a) o.a.length) (JQ (sI o.a) o.a.length),o.b.length≤o.b.length,QC 2
  o.b.length g (JQ (sI o.b) o.b.length)]++(ZT o)++[x.d.ps.n≤x.d.ps.n]++(ZO o x)++(ZY x))):=by kernel_rfl
abbrev QFs(o:Own):List Prop:=
  [0=0,o.cells.length=o.cells.length,cO=cO,o.e=o.e,0=0,o.told.length=o.told.length,cO=cO,o.f=o.f]
abbrev QDE(o:Own)(x:QE):List Prop:=
  [i64.wrap ((k:Int)+1)=(k':Int),o.cells.length≤o.cells.length,QC 1 o.cells.length (fun i=>QA.enc (o.cells.getD i 0)) fun i=>QA.enc (o.cells.getD i 0),
  o.told.length≤o.told.length,QC 2 o.told.length (fun i=>QA.enc (o.told.getD i ⟨0,0⟩)) fun i=>QA.enc (o.told.getD i ⟨0,0⟩),o.a.length≤o.a.length,QC 2
  o.a.length (fun i=>QA.enc (o.a.getD i ⟨0,0⟩)) fun i=>QA.enc (o.a.getD i ⟨0,0⟩),o.b.length≤o.b.length,QC 2 o.b.length (fun i=>QA.enc (o.b.getD i ⟨0,0⟩)) fun i
  => QA.enc (o.b.getD i ⟨0,0⟩),x.d.ps.n≤x.d.ps.n]
theorem QYm(o:Own)(k k':Nat):QL 8 [.ptr 8 0 0,.slz 72 0 x.d.ps.n cO,.slz 104 0 x.scans.n cO,.slz 136 0 x.hang.n cO,vi o.e,vi o.f,vi o.g,
  .slz 400 0 o.cells.length cO,.slz 424 0 o.told.length cO,.slz 448 0 o.a.length cO,.slz 472 0 o.b.length cO,.slz 1000 0 o.cells.length cO,
  .int false .i64 o.e,.slz 1100 0 o.told.length cO,vi o.f,.slz 1200 0 o.a.length cO,.slz 1201 0 o.b.length cO,vi o.g,.int false
  .i64 (x.d.ps.n:Int),vi (i64.wrap ((k:Int)+1))] ((X3 o x)) (VZ 141 x.d.ps.n x o k')=(some ([0=0,0=0]++(Y9 o x)++(QFs o)++(ZT o)
  ++ [o.g=o.g,(x.d.ps.n:Int)=(x.d.ps.n:Int)]++(QDE k k' o x)++(ZO o x)++(ZY x))):=by kernel_rfl
noncomputable abbrev QCs(o:Own)(x:QE):List AV:=
  [.ptr 8 0 0,.slz 72 0 x.d.ps.n cO,.slz 104 0 x.scans.n cO,.slz 136 0 x.hang.n cO,vi o.e,vi o.f,vi o.g,.slz 400
  0 o.cells.length cO,.slz 424 0 o.told.length cO,.slz 448 0 o.a.length cO,.slz 472 0 o.b.length cO,.slz 1000 0 o.cells.length cO,.int
  false .i64 o.e,.slz 1100 0 o.told.length cO,vi o.f,.slz 1200 0 o.a.length cO,.slz 1201 0 o.b.length cO,vi o.g]
abbrev QFr(o:Own)(x:QE):List Prop:=
  [0=0,0=0,0=0,x.d.ps.n=x.d.ps.n,cO=cO,0=0,x.scans.n=x.scans.n,cO=cO,0=0,x.hang.n=x.hang.n,cO=cO,o.e=o.e,o.f =
  o.f,o.g=o.g,0=0,o.cells.length=o.cells.length,cO=cO,0=0,o.told.length=o.told.length,cO=cO,0=0,o.a.length=o.a.length,cO =
  cO,0=0,o.b.length=o.b.length,cO=cO,0=0,o.cells.length=o.cells.length,cO=cO,o.e=o.e,0=0,o.told.length=o.told.length,cO
  = cO,o.f=o.f,0=0,o.a.length=o.a.length,cO=cO,0=0,o.b.length=o.b.length,cO=cO,o.g=o.g,o.cells.length≤o.cells.length,QC 1
  o.cells.length (fun i=>QA.enc (o.cells.getD i 0)) fun i=>QA.enc (o.cells.getD i 0),o.told.length≤o.told.length,QC 2 o.told.length (fun i=>QA.enc (o.told.getD i
  ⟨0,0⟩)) fun i=>QA.enc (o.told.getD i ⟨0,0⟩),o.a.length≤o.a.length,QC 2 o.a.length (fun i=>QA.enc (o.a.getD i ⟨0,0⟩)) fun i=>QA.enc (o.a.getD i ⟨0,0⟩),
  o.b.length≤o.b.length,QC 2 o.b.length (fun i=>QA.enc (o.b.getD i ⟨0,0⟩)) fun i=>QA.enc (o.b.getD i ⟨0,0⟩),x.d.ps.n≤x.d.ps.n,QC 28 x.d.ps.n (fun i=>
  QA.enc (x.d.ps.get i)) fun i=>QA.enc (x.d.ps.get i),x.scans.n≤x.scans.n,QC 28 x.scans.n (fun i=>QA.enc (x.scans.get i)) fun i=>QA.enc (x.scans.get i),x.hang.n
  ≤ x.hang.n,QC 4 x.hang.n (fun i=>QA.enc (x.hang.get i)) fun i=>QA.enc (x.hang.get i),o.cells.length≤o.cells.length,QC 1 o.cells.length (fun i=>QA.enc
  (o.cells.getD i 0)) fun i=>QA.enc (o.cells.getD i 0),o.told.length≤o.told.length,QC 2 o.told.length (fun i=>QA.enc (o.told.getD i ⟨0,0⟩)) fun i=>QA.enc
  (o.told.getD i ⟨0,0⟩),o.a.length≤o.a.length,QC 2 o.a.length (fun i=>QA.enc (o.a.getD i ⟨0,0⟩)) fun i=>QA.enc (o.a.getD i ⟨0,0⟩),o.b.length≤o.b.length,QC 2
  o.b.length (fun i=>QA.enc (o.b.getD i ⟨0,0⟩)) fun i=>QA.enc (o.b.getD i ⟨0,0⟩),x.d.play.length=x.d.play.length,x.d.play.slack=x.d.play.slack,x.d.play.loose =
  x.d.play.loose,x.d.play.damp.lo=x.d.play.damp.lo,x.d.play.damp.hi=x.d.play.damp.hi,x.d.wide=x.d.wide,x.d.high=x.d.high,x.d.turn=x.d.turn,0=0,x.d.ps.n=x.d.ps.n,
  cO=cO,0=0,x.scans.n=x.scans.n,cO=cO,0=0,x.hang.n=x.hang.n,cO=cO,x.lost=x.lost,x.foreign=x.foreign,x.d.ps.n≤x.d.ps.n,
  QC 28 x.d.ps.n (fun i=>QA.enc (x.d.ps.get i)) fun i=>QA.enc (x.d.ps.get i),x.scans.n≤x.scans.n,QC 28 x.scans.n (fun i=>QA.enc (x.scans.get i)) fun i=>
  QA.enc (x.scans.get i),x.hang.n≤x.hang.n,QC 4 x.hang.n (fun i=>QA.enc (x.hang.get i)) fun i=>QA.enc (x.hang.get i)]
theorem QRm(o:Own):QL 8 (QCs o x) ((X3 o x)) (Xr x o)=(some (QFr o x)):=by kernel_rfl
theorem QVP(o:Own)(k k':Nat):QL 8 [.ptr 8 0 0,.slz 72 0 x.d.ps.n cO,.slz 104 0 x.scans.n cO,.slz 136 0 x.hang.n cO,vi o.e,vi o.f,vi o.g,
  .slz 400 0 o.cells.length cO,.slz 424 0 o.told.length cO,.slz 448 0 o.a.length cO,.slz 472 0 o.b.length cO,.slz 1000 0 o.cells.length cO,
  .int false .i64 o.e,.slz 1100 0 o.told.length cO,vi o.f,.slz 1200 0 o.a.length cO,.slz 1201 0 o.b.length cO,vi o.g,.int false
  .i64 (x.scans.n:Int),vi (i64.wrap ((k:Int)+1))] ((X3 o x)) (VZ 158 x.scans.n x o k')=(some ([0=0,0=0]++(Y9 o x)++(QFs o)++(ZT
  o)++[o.g=o.g,(x.scans.n:Int)=(x.scans.n:Int)]++(QDE k k' o x)++(ZO o x)++(ZY x))):=by kernel_rfl
theorem QPP(o:Own):QL 8 (QCs o x) ((X3 o x)) (Xr x o)=(some (QFr o x)):=by kernel_rfl
theorem QQt(o:Own)(k k':Nat):QL 8 [.ptr 8 0 0,.slz 72 0 x.d.ps.n cO,.slz 104 0 x.scans.n cO,.slz 136 0 x.hang.n cO,vi o.e,vi o.f,vi o.g,
  .slz 400 0 o.cells.length cO,.slz 424 0 o.told.length cO,.slz 448 0 o.a.length cO,.slz 472 0 o.b.length cO,.slz 1000 0 o.cells.length cO,
  .int false .i64 o.e,.slz 1100 0 o.told.length cO,vi o.f,.slz 1200 0 o.a.length cO,.slz 1201 0 o.b.length cO,vi o.g,.int false
  .i64 (x.hang.n:Int),vi (i64.wrap ((k:Int)+1))] ((X3 o x)) (VZ 174 x.hang.n x o k')=(some ([0=0,0=0]++(Y9 o x)++(QFs o)++(ZT o)
  ++ [o.g=o.g,(x.hang.n:Int)=(x.hang.n:Int)]++(QDE k k' o x)++(ZO o x)++(ZY x))):=by kernel_rfl
theorem QXX(o:Own):QL 8 (QCs o x) ((X3 o x)) (Xr x o)=(some (QFr o x)):=by kernel_rfl
set_option maxHeartbeats 1600000 in
theorem QWJ(o:Own)(hn:o.cells.length≤1000)(ht:o.told.length=o.cells.length):K0 (fun k=>zp x o (JQ (cI o) k) (JQ (sI o.told) k) k) (fun k=>k≤o.cells.length) (fun k=>o.cells.length-k) (fun _ e J=>e = .exit 0∧J=QCB x o) 8 QOI [] (mkE Try.prog KK) (fun _=>hnd (mkE Try.prog KK) 3) (QW Try.f11 0):=by
 refine⟨fun k u hk=>Qt (QRd x o (JQ (cI o) k) (JQ (sI o.told) k) k u) ?_⟩;have hk:k≤o.cells.length:=hk;refine QI (fun b0 => ?_) (fun b0 => ?_)
 ·refine QF (by have:=qdt b0;simp;omega) ?_
  refine QF (by have:=qdt b0;simp;omega) ?_
  refine QF (by have:=qdt b0;simp;omega) ?_
  refine QF (by have:=qdt b0;simp;omega) ?_
  have h:k<o.cells.length:=by have:=qdt b0;omega
  refine⟨k+1,h,by show o.cells.length-(k+1)<o.cells.length-k;omega,fun _ _ r=>r,rfl,rfl,_,QTW ..,?_⟩
  repeat' first|with_reducible refine QN ?_ ?_|exact trivial|with_reducible rfl|exact qlr _|exact qRr|exact Kj h hn|refine And.intro ?_ ?_
 ·refine⟨_,⟨rfl,rfl⟩,rfl,rfl,_,QR1 ..,?_⟩
  repeat' first|with_reducible refine QN ?_ ?_|exact trivial|with_reducible rfl|exact qlr _|exact qRr|refine And.intro ?_ ?_
set_option maxHeartbeats 1600000 in
theorem QRO(o:Own)(hn:o.a.length≤1000):K0 (fun k=>Wd false x o (JQ (sI o.a) k) k) (fun k=>k≤o.a.length) (fun k=>o.a.length-k) (fun _ e J=>e = .exit 4∧J=jR false x o) 8 QBP [] (mkE Try.prog KK) (fun _=>hnd (mkE Try.prog KK) 3) (Xu (QW Try.f11 1)):=by
 refine⟨fun k u hk=>Qt (QQE x o (JQ (sI o.a) k) k u) ?_⟩;have hk:k≤o.a.length:=hk;refine QI (fun b0 => ?_) (fun b0 => ?_)
 ·refine QF (by have:=qdt b0;simp;omega) ?_
  refine QF (by have:=qdt b0;simp;omega) ?_
  have h:k<o.a.length:=by have:=qdt b0;omega
  refine⟨k+1,h,by show o.a.length-(k+1)<o.a.length-k;omega,fun _ _ r=>r,rfl,rfl,_,QQR ..,?_⟩
  repeat' first|with_reducible refine QN ?_ ?_|exact trivial|with_reducible rfl|exact qlr _|exact qRr|exact Kj h hn|refine And.intro ?_ ?_
 ·have h:k=o.a.length:=by have:=of_decide_eq_false b0;omega
  subst h;refine⟨_,⟨rfl,rfl⟩,rfl,rfl,_,QUr ..,?_⟩
  repeat' first|with_reducible refine QN ?_ ?_|exact trivial|with_reducible rfl|exact qlr _|exact qRr|refine And.intro ?_ ?_
set_option maxHeartbeats 1600000 in
theorem QPM(o:Own)(hn:o.b.length≤1000):K0 (fun k=>Wd true x o (JQ (sI o.b) k) k) (fun k=>k≤o.b.length) (fun k=>o.b.length-k) (fun _ e J=>e = .exit 4∧J=jR true x o) 8 QBP [] (mkE Try.prog KK) (fun _=>hnd (mkE Try.prog KK) 3) (Xu (QW Try.f11 1)):=by
 refine⟨fun k u hk=>Qt (QZt x o (JQ (sI o.b) k) k u) ?_⟩;have hk:k≤o.b.length:=hk;refine QI (fun b0 => ?_) (fun b0 => ?_)
 ·refine QF (by have:=qdt b0;simp;omega) ?_
  refine QF (by have:=qdt b0;simp;omega) ?_
  have h:k<o.b.length:=by have:=qdt b0;omega
  refine⟨k+1,h,by show o.b.length-(k+1)<o.b.length-k;omega,fun _ _ r=>r,rfl,rfl,_,QVQ ..,?_⟩
  repeat' first|with_reducible refine QN ?_ ?_|exact trivial|with_reducible rfl|exact qlr _|exact qRr|exact Kj h hn|refine And.intro ?_ ?_
 ·have h:k=o.b.length:=by have:=of_decide_eq_false b0;omega
  subst h;refine⟨_,⟨rfl,rfl⟩,rfl,rfl,_,QWp ..,?_⟩
  repeat' first|with_reducible refine QN ?_ ?_|exact trivial|with_reducible rfl|exact qlr _|exact qRr|refine And.intro ?_ ?_
set_option maxHeartbeats 1600000 in
theorem QUy(o:Own)(hn:x.d.ps.n≤1000):K0 (fun k=>VZ 141 x.d.ps.n x o k) (fun k=>k≤x.d.ps.n) (fun k=>x.d.ps.n-k) (fun _ e J=>e = .exit 6∧J=Xr x o) 8 (qz 141) [] (mkE Try.prog KK) (fun _=>hnd (mkE Try.prog KK) 3) (QW Try.f11 2):=by
 refine⟨fun k u hk=>Qt (QVy x o k u) ?_⟩;have hk:k≤x.d.ps.n:=hk;refine QI (fun b0 => ?_) (fun b0 => ?_)
 ·refine QF (by have:=qdt b0;simp;omega) ?_
  refine QF (by have:=qdt b0;simp;omega) ?_
  refine QF (by have:=qdt b0;simp;omega) ?_
  refine QF (by have:=qdt b0;simp;omega) ?_
  refine QI (fun b1 => ?_) (fun b1 => ?_)
  ·simp at b1
  ·have h:k<x.d.ps.n:=by have:=qdt b0;omega
   refine⟨k+1,h,by show x.d.ps.n-(k+1)<x.d.ps.n-k;omega,fun _ _ r=>r,rfl,rfl,_,QYm ..,?_⟩
   repeat' first|with_reducible refine QN ?_ ?_|exact trivial|with_reducible rfl|exact qlr _|exact qRr|exact Kj h hn|refine And.intro ?_ ?_
 ·refine⟨_,⟨rfl,rfl⟩,rfl,rfl,_,QRm ..,?_⟩
  repeat' first|with_reducible refine QN ?_ ?_|exact trivial|with_reducible rfl|exact qlr _|exact qRr|refine And.intro ?_ ?_
set_option maxHeartbeats 1600000 in
theorem QYj(o:Own)(hn:x.scans.n≤1000):K0 (fun k=>VZ 158 x.scans.n x o k) (fun k=>k≤x.scans.n) (fun k=>x.scans.n-k) (fun _ e J=>e = .exit 8∧J=Xr x o) 8 (qz 158) [] (mkE Try.prog KK) (fun _=>hnd (mkE Try.prog KK) 3) (QW Try.f11 3):=by
 refine⟨fun k u hk=>Qt (QQJ x o k u) ?_⟩;have hk:k≤x.scans.n:=hk;refine QI (fun b0 => ?_) (fun b0 => ?_)
 ·refine QF (by have:=qdt b0;simp;omega) ?_
  refine QF (by have:=qdt b0;simp;omega) ?_
  refine QF (by have:=qdt b0;simp;omega) ?_
  refine QF (by have:=qdt b0;simp;omega) ?_
  refine QI (fun b1 => ?_) (fun b1 => ?_)
  ·simp at b1
  ·have h:k<x.scans.n:=by have:=qdt b0;omega
   refine⟨k+1,h,by show x.scans.n-(k+1)<x.scans.n-k;omega,fun _ _ r=>r,rfl,rfl,_,QVP ..,?_⟩
   repeat' first|with_reducible refine QN ?_ ?_|exact trivial|with_reducible rfl|exact qlr _|exact qRr|exact Kj h hn|refine And.intro ?_ ?_
 ·refine⟨_,⟨rfl,rfl⟩,rfl,rfl,_,QPP ..,?_⟩
  repeat' first|with_reducible refine QN ?_ ?_|exact trivial|with_reducible rfl|exact qlr _|exact qRr|refine And.intro ?_ ?_
set_option maxHeartbeats 1600000 in
theorem QP6(o:Own)(hn:x.hang.n≤1000):K0 (fun k=>VZ 174 x.hang.n x o k) (fun k=>k≤x.hang.n) (fun k=>x.hang.n-k) (fun _ e J=>e = .exit 10∧J=Xr x o) 8 (qz 174) [] (mkE Try.prog KK) (fun _=>hnd (mkE Try.prog KK) 3) (QW Try.f11 4):=by
 refine⟨fun k u hk=>Qt (QWa x o k u) ?_⟩;have hk:k≤x.hang.n:=hk;refine QI (fun b0 => ?_) (fun b0 => ?_)
 ·refine QF (by have:=qdt b0;simp;omega) ?_
  refine QF (by have:=qdt b0;simp;omega) ?_
  refine QF (by have:=qdt b0;simp;omega) ?_
  refine QF (by have:=qdt b0;simp;omega) ?_
  refine QI (fun b1 => ?_) (fun b1 => ?_)
  ·simp at b1
  ·have h:k<x.hang.n:=by have:=qdt b0;omega
   refine⟨k+1,h,by show x.hang.n-(k+1)<x.hang.n-k;omega,fun _ _ r=>r,rfl,rfl,_,QQt ..,?_⟩
   repeat' first|with_reducible refine QN ?_ ?_|exact trivial|with_reducible rfl|exact qlr _|exact qRr|exact Kj h hn|refine And.intro ?_ ?_
 ·refine⟨_,⟨rfl,rfl⟩,rfl,rfl,_,QXX ..,?_⟩
  repeat' first|with_reducible refine QN ?_ ?_|exact trivial|with_reducible rfl|exact qlr _|exact qRr|refine And.intro ?_ ?_
def QDA(A B:St→(Ex→St→QD)→QD)(st:St)(K:Ex→St→QD):QD:=match QJ st.tm 98 with
 | .int _ _ (.ofNat 0)=>A st K
 | _=>B st K
theorem QVT{E:Env}{G:Ctx}{c:Code}{A B:St→(Ex→St→QD)→QD}(h1:JS E G c A)(h2:JS E G c B):JS E G c (QDA A B):=by
 intro st K T Q a w hn hd hr hQ;unfold QDA at hd;split at hd
 ·exact h1 st K T Q a w hn hd hr hQ
 ·exact h2 st K T Q a w hn hd hr hQ
def owO:Own:=⟨(KO x).1,(Kh x).1,(Qz x).1,(Qz x).2.1,(KO x).2.2,(Kh x).2,(Qz x).2.2.2⟩
def owP:Prop:=x.d.ps.n≤1000∧x.scans.n≤1000∧x.hang.n≤1000∧(owO x).cells.length≤1000∧(owO x).told.length=(owO x).cells.length∧(owO x).a.length≤1000∧(owO x).b.length≤1000
abbrev owI(P:Program)(x:QE):Hnd:={ hnd (mkS P KK) 3 with loop:=fun _=>QDA (Vn (owP x) (Q7 8 [] (Wd false x (owO x) (sI (owO x).a) (0:Nat)) [(True,.exit 4,jR false x (owO x))])) (Vn (owP x) (Q7 8 [] (Wd true x (owO x) (sI (owO x).b) (0:Nat)) [(True,.exit 4,jR true x (owO x))])) }
abbrev owX(P:Program)(c:Code)(x:QE):Code→St→(Ex→St→QD)→QD:=QLN [
 (9,Vn (owP x) (Q7 8 [] (zp x (owO x) (cI (owO x)) (sI (owO x).told) (0:Nat)) [(True,.exit 0,QCB x (owO x))])),
 (14,zd (mkS P KK) (owI P x) c 3),
 (29,Vn (owP x) (Q7 8 [] (VZ 141 x.d.ps.n x (owO x) (0:Nat)) [(True,.exit 6,Xr x (owO x))])),
 (35,Vn (owP x) (Q7 8 [] (VZ 158 x.scans.n x (owO x) (0:Nat)) [(True,.exit 8,Xr x (owO x))])),
 (41,Vn (owP x) (Q7 8 [] (VZ 174 x.hang.n x (owO x) (0:Nat)) [(True,.exit 10,Xr x (owO x))]))]
noncomputable abbrev owH(P:Program)(x:QE):Hnd:={ hnd (mkS P KK) 1 with loop:=owX P (QW Try.f11 1) x }
theorem QX2(G:Ctx)(hrd:G.rd=none)(hG:G.n=8):Q1 (mkS Try.prog KK) G (owI Try.prog x) (QW Try.f11 1):=by
 refine JF (body:=Xu (QW Try.f11 1)) (Yp VU) hrd (by kernel_rfl) ?_
 refine QVT (ZW fun hp => ?_) (ZW fun hp => ?_)
 ·refine X0 (E:=mkE Try.prog KK) rfl (JG (n0:=8) (QP VU) (by omega) (fun s hs=>Qq (QP VU) 3 G _ hrd) (fun s hs=>(by decide:8≤600)) ?_ (QRO x (owO x) hp.2.2.2.2.2.1) (s0:=0) (Nat.zero_le _) ?_)
  ·rintro s e J ⟨_,rfl⟩;exact(by decide:8≤600)
  ·rintro e J ⟨rfl,rfl⟩;exact⟨_,List.mem_cons_self,trivial,rfl,rfl⟩
 ·refine X0 (E:=mkE Try.prog KK) rfl (JG (n0:=8) (QP VU) (by omega) (fun s hs=>Qq (QP VU) 3 G _ hrd) (fun s hs=>(by decide:8≤600)) ?_ (QPM x (owO x) hp.2.2.2.2.2.2) (s0:=0) (Nat.zero_le _) ?_)
  ·rintro s e J ⟨_,rfl⟩;exact(by decide:8≤600)
  ·rintro e J ⟨rfl,rfl⟩;exact⟨_,List.mem_cons_self,trivial,rfl,rfl⟩
theorem QYP(G:Ctx)(hrd:G.rd=none)(hG:G.n=8):Q1 (mkS Try.prog KK) G (owH Try.prog x) (Qo Try.f11):=by
 refine QIB (Yp VU) hrd fun c hc => ?_;have he:Kz (Qo Try.f11)=[.loop (QW Try.f11 0),.loop (QW Try.f11 1),.loop (QW Try.f11 2),.loop (QW Try.f11 3),.loop (QW Try.f11 4)]:=by kernel_rfl
 rw[he]at hc;simp only[List.mem_cons,List.not_mem_nil,or_false]at hc;rcases hc with rfl|rfl|rfl|rfl|rfl
 ·have e1:∀ c0,owX Try.prog c0 x (.loop (QW Try.f11 0))=Vn (owP x) (Q7 8 [] (zp x (owO x) (cI (owO x)) (sI (owO x).told) (0:Nat)) [(True,.exit 0,QCB x (owO x))]):=by intro c0;kernel_rfl
  rw[e1];refine ZW fun hp => ?_;refine X0 (E:=mkE Try.prog KK) rfl (JG (n0:=8) (QP VU) (by omega) (fun s hs=>Qq (QP VU) 3 G _ hrd) (fun s hs=>(by decide:8≤536)) ?_ (QWJ x (owO x) hp.2.2.2.1 hp.2.2.2.2.1) (s0:=0) (Nat.zero_le _) ?_)
  ·rintro s e J ⟨_,rfl⟩;exact(by decide:8≤536)
  ·rintro e J ⟨rfl,rfl⟩;exact⟨_,List.mem_cons_self,trivial,rfl,rfl⟩
 ·have e1:∀ c0,owX Try.prog c0 x (.loop (QW Try.f11 1))=zd (mkS Try.prog KK) (owI Try.prog x) c0 3:=by intro c0;kernel_rfl
  rw[e1];exact QTA (Yp VU) (QX2 x G hrd hG) 3
 ·have e1:∀ c0,owX Try.prog c0 x (.loop (QW Try.f11 2))=Vn (owP x) (Q7 8 [] (VZ 141 x.d.ps.n x (owO x) (0:Nat)) [(True,.exit 6,Xr x (owO x))]):=by intro c0;kernel_rfl
  rw[e1];refine ZW fun hp => ?_;refine X0 (E:=mkE Try.prog KK) rfl (JG (n0:=8) (QP VU) (by omega) (fun s hs=>Qq (QP VU) 3 G _ hrd) (fun s hs=>(by decide:8≤1300)) ?_ (QUy x (owO x) hp.1) (s0:=0) (Nat.zero_le _) ?_)
  ·rintro s e J ⟨_,rfl⟩;exact(by decide:8≤1300)
  ·rintro e J ⟨rfl,rfl⟩;exact⟨_,List.mem_cons_self,trivial,rfl,rfl⟩
 ·have e1:∀ c0,owX Try.prog c0 x (.loop (QW Try.f11 3))=Vn (owP x) (Q7 8 [] (VZ 158 x.scans.n x (owO x) (0:Nat)) [(True,.exit 8,Xr x (owO x))]):=by intro c0;kernel_rfl
  rw[e1];refine ZW fun hp => ?_;refine X0 (E:=mkE Try.prog KK) rfl (JG (n0:=8) (QP VU) (by omega) (fun s hs=>Qq (QP VU) 3 G _ hrd) (fun s hs=>(by decide:8≤1300)) ?_ (QYj x (owO x) hp.2.1) (s0:=0) (Nat.zero_le _) ?_)
  ·rintro s e J ⟨_,rfl⟩;exact(by decide:8≤1300)
  ·rintro e J ⟨rfl,rfl⟩;exact⟨_,List.mem_cons_self,trivial,rfl,rfl⟩
 ·have e1:∀ c0,owX Try.prog c0 x (.loop (QW Try.f11 4))=Vn (owP x) (Q7 8 [] (VZ 174 x.hang.n x (owO x) (0:Nat)) [(True,.exit 10,Xr x (owO x))]):=by intro c0;kernel_rfl
  rw[e1];refine ZW fun hp => ?_;refine X0 (E:=mkE Try.prog KK) rfl (JG (n0:=8) (QP VU) (by omega) (fun s hs=>Qq (QP VU) 3 G _ hrd) (fun s hs=>(by decide:8≤1300)) ?_ (QP6 x (owO x) hp.2.2.1) (s0:=0) (Nat.zero_le _) ?_)
  ·rintro s e J ⟨_,rfl⟩;exact(by decide:8≤1300)
  ·rintro e J ⟨rfl,rfl⟩;exact⟨_,List.mem_cons_self,trivial,rfl,rfl⟩
end Go.Proofs.Ytbpffdkemeoajaa
