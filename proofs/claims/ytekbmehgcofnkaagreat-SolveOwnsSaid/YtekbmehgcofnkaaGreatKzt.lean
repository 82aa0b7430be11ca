/- - -/
import Derived.Test.YtekbmehgcofnkaaGreatKzr
import Derived.Test.YtekbmehgcofnkaaGreatKzn
import Derived.Test.YtekbmehgcofnkaaGreatKzs
set_option linter.all false
noncomputable section
open Go.Proofs.Tryz
open Go.IntKind (i64)
set_option maxRecDepth 100000
namespace Go.Proofs.YtekbmehgcofnkaaGreat
open Go.SX Go.SX.Told
structure KD where
 x:List Lay
 y:List Lay
 M:List Jn
 n:Int
 e:Int
 f:Int
def Kq:Tab:=Qa (Qa (Qa (Qa (Qa (Qa (Qa QKW 24 (WA QFg)) 43 (WA QHV)) 17 (WA QG4)) 19 (WA QHx)) 21 (WA QOS)) 29 (WA lyC)) 45 (WA sjC)
theorem X4:Qc Kq:=((((((QWG.add (qX QN6)).add (qX QM8)).add (qX QO8)).add (qX QQG)).add (qX QRt)).add (qX QS0)).add (qX Qca)
def rzY(id n:Nat)(g:Nat->Nat->Int):Nat×Blk:=(id,.rowz true 49 kB n g)
def rzJ(id n:Nat)(g:Nat->Nat->Int):Nat×Blk:=(id,.rowz true 67 [.int .i64,.int .i64,.int .i64,.int .i64] n g)
def QeU(id:Nat)(l:Rw QV):Nat×Blk:=(id,.rowz true 70 (QA.ks (α:=QV)) l.n λi=>QA.enc (l.get i))
def QWu(id:Nat)(L:Rc Pt):Nat×Blk:=(id,.rowz true 63 [.int .i64,.int .i64,.int .i64] L.n λi=>QA.enc (L.get i))
variable (d:Puz)(L:Rc Pt)(g:Nat->Nat->Int)(k:Nat)
def wnB(o:KD):List (Nat×Blk):=[QeU 104 d.ps,QWu 128 L,rwY 328 o.x,rwY 352 o.y,rwJ true 376 o.M,(8,.cells 0 28 (KT d))]++Qi.blk 0 d.ps++Qi.blk 1 L
def wnS(o:KD):List (Nat×AV):=[(1,.slz 1 0 L.n (.lit L.c)),(2,.ptr 8 0 0),(5,.slz 104 0 d.ps.n (.of 0)),(6,.slz 128 0 L.n (.of 0)),(9,vi o.n),(10,vi o.e),(13,vi o.f),(14,.slz 328 0 o.x.length (.of 0)),(15,.slz 352 0 o.y.length (.of 0)),(16,.slz 376 0 o.M.length (.of 0))]
def Yc(g:Nat->Nat->Int):Nat->Nat->Nat->Int
 | 0=>g
 | k+1=>λi=>bif decide (i=k)then KH [.int true .i64 (-1)] 0 (Yc g k k)else Yc g k i
def yG(l:List Lay):Nat->Nat->Int:=λi=>QA.enc (l.getD i (⟨0,0⟩:Lay))
def jG(l:List Jn):Nat->Nat->Int:=λi=>QA.enc (l.getD i (⟨0,0,0,0⟩:Jn))
def QAC(o:KD)(g:Nat->Nat->Int)(k:Nat):JSt:=⟨180,wnS d L o++[(7,.slz 160 0 o.x.length (.of 0)),(8,.slz 161 0 o.y.length (.of 0)),(12,.slz 249 0 o.M.length (.of 0)),(67,vi o.x.length),(68,vi k)],[rzY 160 o.x.length g,rwY 161 o.y,rwJ true 249 o.M]++wnB d L o,432⟩
def QDj(o:KD):JSt:=⟨180,wnS d L o++[(8,.slz 161 0 o.y.length (.of 0)),(12,.slz 249 0 o.M.length (.of 0))],[rwY 161 o.y,rwJ true 249 o.M]++wnB d L o,432⟩
def QBI(o:KD)(g:Nat->Nat->Int)(k:Nat):JSt:=⟨180,wnS d L o++[(8,.slz 161 0 o.y.length (.of 0)),(12,.slz 249 0 o.M.length (.of 0)),(77,.int false .i64 o.y.length),(78,.int false .i64 k)],[rzY 161 o.y.length g,rwJ true 249 o.M]++wnB d L o,432⟩
def QCS(o:KD):JSt:=⟨180,wnS d L o++[(12,.slz 249 0 o.M.length (.of 0))],[rwJ true 249 o.M]++wnB d L o,432⟩
def HY(o:KD)(g:Nat->Nat->Int)(k:Nat):JSt:=⟨180,wnS d L o++[(12,.slz 249 0 o.M.length (.of 0)),(87,.int false .i64 o.M.length),(88,.int false .i64 k)],[rzJ 249 o.M.length g]++wnB d L o,432⟩
def QBe(o:KD):JSt:=⟨180,wnS d L o,wnB d L o,432⟩
def wnL:List Nat:=[1,2,5,6,9,10,13,14,15,16]
def QI4:Ex->List Nat
 | .normal=>wnL++[7,8,12,67,68]
 | .exit _=>wnL++[8,12]
 | .ret=>[]
def QP6:Ex->List Nat
 | .normal=>wnL++[8,12,77,78]
 | .exit _=>wnL++[12]
 | .ret=>[]
def QPe:Ex->List Nat
 | .normal=>wnL++[12,87,88]
 | .exit _=>wnL
 | .ret=>[]
def wnT(o:KD):List (Nat×AV):=[(20,.slz 1000 0 o.x.length (.of 0)),(21,.slz 1001 0 o.y.length (.of 0)),(22,vi o.n),(23,vi o.e),(25,.slz 1101 0 o.M.length (.of 0)),(26,vi o.f)]
def wnC(o:KD):List (Nat×Blk):=[rwY 1000 o.x,rwY 1001 o.y,rwJ true 1101 o.M]++wnB d L o
def Y8(c n:Nat)(d:Puz)(L:Rc Pt)(o:KD)(k:Nat):JSt:=⟨180,wnS d L o++wnT o++[(c,.int false .i64 n),(c+1,.int false .i64 k)],wnC d L o,1300⟩
def qC(o:KD):JSt:=⟨180,wnS d L o++wnT o,wnC d L o,1300⟩
def wnM:List Nat:=[20,21,22,23,25,26]
def QCg(c:Nat):Ex->List Nat
 | .normal=>wnL++wnM++[c,c+1]
 | .exit _=>wnL++wnM
 | .ret=>[4]
abbrev XK:Nat×Blk:=
  (1,.frz (wbA) L.1 λi=>QA.enc (L.2 i))
abbrev XN:Nat×Blk:=
  (8,.cells 0 28 (waf d))
abbrev Vz:List CK:=
  (wae)
abbrev Xd:Nat×Blk:=
  (104,.rowz true 70 Vz d.ps.n λi=>QA.enc (d.ps.get i))
abbrev XS:Nat×Blk:=
  (128,.rowz true 63 (wbA) L.1 λi=>QA.enc (L.2 i))
abbrev XU(o:KD):Nat×Blk:=
  (328,.rowz true 49 kB o.x.length λi=>QA.enc (o.x.getD i (Lay.mk (0:Int) (0:Int))))
abbrev XV(o:KD):Nat×Blk:=
  (352,.rowz true 49 kB o.y.length λi=>QA.enc (o.y.getD i (Lay.mk (0:Int) (0:Int))))
abbrev QAj:List CK:=
  (waG)
abbrev Xc(o:KD):Nat×Blk:=
  (376,.rowz true 67 QAj o.M.length λi=>QA.enc (o.M.getD i (Jn.mk (0:Int) (0:Int) (0:Int) (0:Int))))
abbrev QQn(o:KD):Nat×Blk:=
  (160,.rowz true 49 kB o.x.length λi=>bif decide (i=k)then KH [vj (-1)] 0 (g ((k:Int).toNat+0))else g i)
abbrev QEW(o:KD):Nat×Blk:=
  (161,.rowz true 49 kB o.y.length λi=>QA.enc (o.y.getD i (Lay.mk (0:Int) (0:Int))))
abbrev WN(o:KD):Nat×Blk:=
  (249,.rowz true 67 QAj o.M.length λi=>QA.enc (o.M.getD i (Jn.mk (0:Int) (0:Int) (0:Int) (0:Int))))
abbrev wah(L:Rc Pt)(d:Puz)(o:KD):List AV:=[.slz 1 0 L.1 (Cap.lit L.3),.ptr 8 0 0,.slz 104 0 d.ps.n cO,.slz 128 0 L.1 cO,vi o.n,vi o.e,vi o.f,.slz 328 0 o.x.length cO,.slz 352 0 o.y.length cO,.slz 376 0 o.M.length cO]
abbrev wbN(o:KD):List AV:=[.slz 161 0 o.y.length cO,.slz 249 0 o.M.length cO]
theorem Qcz(o:KD)(g:Nat->Nat->Int)(k:Nat)(u:Nat->Value):exec (mkE prog Kq) (hnd (mkE prog Kq) 3) (QH f14 0) (JSt.inst (QAC d L o g k) u) (Q8 [] QI4) = .br (decide ((k:Int)<(o.x.length:Int))) (.need (decide ((0:Int)<=(k:Int)/\(k:Int)<(o.x.length:Int))&&decide (o.x.length<=o.x.length)) (.need (decide (k<o.x.length)) (.leaf (.tup (.nilp::.ptr 180 0 0::List.append (wah L d o) ((.slz 160 0 o.x.length cO::List.append (wbN o) ([vi (o.x.length:Int),vi (i64.wrap ((k:Int)+1))]))))) ([(XK L),(XN d),(Xd d),(XS L),(XU o),(XV o),(Xc o),(QQn g k o), (QEW o),(WN o),(0,.frz Vz d.ps.n λi=>QA.enc (d.ps.get i))])))) (.leaf (.tup (.ptr 0 0 0::.ptr 180 0 0::List.append (wah L d o) ((wbN o)))) ([(XK L),(XN d),(Xd d),(XS L),(XU o),(XV o),(Xc o),(QEW o),(WN o),(0,.frz Vz d.ps.n λi=>QA.enc (d.ps.get i))])):=by kernel_rfl
abbrev wck(o:KD):List Prop:=[0=0,o.M.length=o.M.length,cO=cO]
abbrev wch(L:Rc Pt)(d:Puz)(o:KD):List Prop:=([0=0,0=0,0=0,d.ps.n=d.ps.n,cO=cO,0=0,L.1=L.1,cO=cO,o.n=o.n,o.e=o.e,o.f=o.f,0 =
  0,o.x.length=o.x.length,cO=cO,0=0,o.y.length=o.y.length,cO=cO]++wck o)
abbrev qq(d:Puz)(o:KD):List Prop:=
  ([0=0]++wbU L++(wch L d o++[0=0]))
abbrev QC5(o:KD):List Prop:=
  [o.x.length=o.x.length,cO=cO,0=0,o.y.length=o.y.length,cO=cO]
abbrev wa3(o:KD):List Prop:=[o.M.length <=
  o.M.length,QB 4 o.M.length (λi=>QA.enc (o.M.getD i (Jn.mk (0:Int) (0:Int) (0:Int) (0:Int)))) λi=>QA.enc (o.M.getD i (Jn.mk (0:Int) (0:Int) (0:Int)
  (0:Int)))]
abbrev waq(o:KD):List Prop:=([o.y.length<=o.y.length,QB 2 o.y.length (λi=>QA.enc (o.y.getD i (Lay.mk (0:Int) (0:Int)))) λi=>QA.enc (o.y.getD i (Lay.mk (0:Int) (0:Int)))]++wa3 o)
abbrev QEF(o:KD):List Prop:=
  (waq o++[d.ps.n<=d.ps.n])
abbrev wax(o:KD):List Prop:=[o.x.length <=
  o.x.length,QB 2 o.x.length (λi=>QA.enc (o.x.getD i (Lay.mk (0:Int) (0:Int)))) λi=>QA.enc (o.x.getD i (Lay.mk (0:Int) (0:Int)))]
abbrev Wz(d:Puz)(o:KD):List Prop:=
  ((([QB 28 d.ps.n (λi=>QA.enc (d.ps.get i)) λi=>QA.enc (d.ps.get i),L.1<=L.1,QB 3 L.1 (λi=>QA.enc (L.2 i)) λi=>QA.enc (L.2 i)]++wax o)++waq o)++waa d++([cO=cO]++wad d++[L.1<=L.1,QB 3 L.1 (λi=>QA.enc (L.2 i)) λi=>QA.enc (L.2 i)]))
theorem QS2(o:KD)(g g':Nat->Nat->Int)(k k':Nat):QE 8 (List.append (wah L d o) ((.slz 160 0 o.x.length cO::List.append (wbN o) ([vi (o.x.length:Int),vi (i64.wrap ((k:Int)+1))])))) ([(XK L),(XN d),(Xd d),(XS L),(XU o),(XV o),(Xc o), (QQn g k o),(QEW o),(WN o),(0,.frz Vz d.ps.n λi=>QA.enc (d.ps.get i))]) (QAC d L o g' k')=(some ((qq L d o)++(QC5 o)++(wck o++[(o.x.length:Int)=(o.x.length:Int),i64.wrap ((k:Int)+1)=(k':Int),o.x.length<=o.x.length,QB 2 o.x.length (λi=>bif decide (i=k)then KH [vj (-1)] 0 (g ((k:Int).toNat+0))else g i) g'])++(QEF d o)++(Wz L d o))):=by kernel_rfl
theorem QUe(o:KD)(g:Nat->Nat->Int):QE 8 (List.append (wah L d o) ((wbN o))) ([(XK L),(XN d),(Xd d),(XS L),(XU o),(XV o),(Xc o),(QEW o),(WN o),(0,.frz Vz d.ps.n λi=>QA.enc (d.ps.get i))]) (QDj d L o)=(some ((qq L d o) ++ ([o.y.length=o.y.length,cO=cO]++wck o)++(QEF d o)++(Wz L d o))):=by kernel_rfl
abbrev QMz(o:KD):Nat×Blk:=
  (161,.rowz true 49 kB o.y.length λi=>bif decide (i=k)then KH [vj (-1)] 0 (g ((k:Int).toNat+0))else g i)
theorem Qfi(o:KD)(g:Nat->Nat->Int)(k:Nat)(u:Nat->Value):exec (mkE prog Kq) (hnd (mkE prog Kq) 3) (QH f14 1) (JSt.inst (QBI d L o g k) u) (Q8 [] QP6) = .br (decide ((k:Int)<(o.y.length:Int))) (.need (decide ((0:Int)<=(k:Int)/\(k:Int)<(o.y.length:Int))&&decide (o.y.length<=o.y.length)) (.need (decide (k<o.y.length)) (.leaf (.tup (.nilp::.ptr 180 0 0::List.append (wah L d o) ((List.append (wbN o) ([vi (o.y.length:Int),vi (i64.wrap ((k:Int)+1))]))))) ([(XK L),(XN d),(Xd d),(XS L),(XU o),(XV o),(Xc o),(QMz g k o),(WN o),(0,.frz Vz d.ps.n λi=>QA.enc (d.ps.get i))])))) (.leaf (.tup (.ptr 2 0 0::.ptr 180 0 0::List.append (wah L d o) ([.slz 249 0 o.M.length cO]))) ([(XK L),(XN d),(Xd d),(XS L),(XU o),(XV o),(Xc o),(WN o),(0,.frz Vz d.ps.n λi=>QA.enc (d.ps.get i))])):=by kernel_rfl
theorem QYk(o:KD)(g g':Nat->Nat->Int)(k k':Nat):QE 8 (List.append (wah L d o) ((List.append (wbN o) ([vi (o.y.length:Int),vi (i64.wrap ((k:Int)+1))])))) ([(XK L),(XN d),(Xd d),(XS L),(XU o),(XV o),(Xc o),(QMz g k o),(WN o), (0,.frz Vz d.ps.n λi=>QA.enc (d.ps.get i))]) (QBI d L o g' k')=(some ((qq L d o)++(([o.y.length=o.y.length,cO=cO]++wck o++[(o.y.length:Int)=(o.y.length:Int),i64.wrap ((k:Int)+1)=(k':Int),o.y.length<=o.y.length,QB 2 o.y.length (λi=>bif decide (i=k)then KH [vj (-1)] 0 (g ((k:Int).toNat+0))else g i) g'])++wa3 o++[d.ps.n<=d.ps.n])++(Wz L d o))):=by kernel_rfl
theorem QVE(o:KD)(g:Nat->Nat->Int):QE 8 (List.append (wah L d o) ([.slz 249 0 o.M.length cO])) ([(XK L),(XN d),(Xd d),(XS L),(XU o),(XV o),(Xc o),(WN o),(0,.frz Vz d.ps.n λi=>QA.enc (d.ps.get i))]) (QCS d L o)=(some ((qq L d o)++([o.M.length=o.M.length,cO=cO]++wa3 o++[d.ps.n<=d.ps.n])++(Wz L d o))):=by kernel_rfl
theorem QdK(o:KD)(g:Nat->Nat->Int)(k:Nat)(u:Nat->Value):exec (mkE prog Kq) (hnd (mkE prog Kq) 3) (QH f14 2) (JSt.inst (HY d L o g k) u) (Q8 [] QPe) = .br (decide ((k:Int)<(o.M.length:Int))) (.need (decide ((0:Int)<=(k:Int)/\(k:Int)<(o.M.length:Int))&&decide (o.M.length<=o.M.length)) (.need (decide (k<o.M.length)) (.leaf (.tup (.nilp::.ptr 180 0 0::List.append (wah L d o) ([.slz 249 0 o.M.length cO,vi (o.M.length:Int),vi (i64.wrap ((k:Int)+1))]))) ([(XK L),(XN d),(Xd d),(XS L),(XU o),(XV o),(Xc o),(249,.rowz true 67 QAj o.M.length λi=>bif decide (i=k)then KH [vj (-1)] 0 (g ((k:Int).toNat+0))else g i),(0,.frz Vz d.ps.n λi=>QA.enc (d.ps.get i))])))) (.leaf (.tup (.ptr 4 0 0::.ptr 180 0 0::wah L d o)) ([(XK L),(XN d),(Xd d),(XS L),(XU o),(XV o),(Xc o),(0,.frz Vz d.ps.n λi=>QA.enc (d.ps.get i))])):=by kernel_rfl
theorem Qe3(o:KD)(g g':Nat->Nat->Int)(k k':Nat):QE 8 (List.append (wah L d o) ([.slz 249 0 o.M.length cO,vi (o.M.length:Int),vi (i64.wrap ((k:Int)+1))])) ([(XK L),(XN d),(Xd d),(XS L),(XU o),(XV o),(Xc o),(249,.rowz true 67 QAj o.M.length λi=>bif decide (i=k) then KH [vj (-1)] 0 (g ((k:Int).toNat+0))else g i),(0,.frz Vz d.ps.n λi=>QA.enc (d.ps.get i))]) (HY d L o g' k')=(some ((qq L d o) ++ [o.M.length=o.M.length,cO=cO,(o.M.length:Int)=(o.M.length:Int),i64.wrap ((k:Int)+1)=(k':Int),o.M.length<=o.M.length,QB 4 o.M.length (λi=>bif decide (i=k)then KH [vj (-1)] 0 (g ((k:Int).toNat+0))else g i) g',d.ps.n<=d.ps.n]++(Wz L d o))):=by kernel_rfl
theorem QWw(o:KD)(g:Nat->Nat->Int):QE 8 (wah L d o) ([(XK L),(XN d),(Xd d),(XS L),(XU o),(XV o),(Xc o),(0,.frz Vz d.ps.n λi=>QA.enc (d.ps.get i))]) (QBe d L o)=(some (([0=0]++wbU L++[0=0,0=0,0=0,d.ps.n=d.ps.n,cO=cO,0=0,L.1=L.1,cO=cO,o.n=o.n,o.e=o.e,o.f=o.f,0=0])++(QC5 o)++(wck o++[d.ps.n<=d.ps.n])++(Wz L d o))):=by kernel_rfl
abbrev WI(d:Puz)(o:KD):List (Nat×Blk):=
  [(XK L),(XN d),(Xd d),(XS L),(XU o),(XV o),(Xc o),(1000,.rowz true 49 kB o.x.length λi=>QA.enc (o.x.getD i (Lay.mk (0:Int)
  (0:Int)))),(1001,.rowz true 49 kB o.y.length λi=>QA.enc (o.y.getD i (Lay.mk (0:Int) (0:Int)))),(1101,.rowz true 67 QAj o.M.length λi=>
  QA.enc (o.M.getD i (Jn.mk (0:Int) (0:Int) (0:Int) (0:Int)))),(0,.frz Vz d.ps.n λi=>QA.enc (d.ps.get i))]
abbrev waI(o:KD):List AV:=[.slz 1000 0 o.x.length cO,.slz 1001 0 o.y.length cO,vi o.n,vi o.e,.slz 1101 0 o.M.length cO,vi o.f]
theorem Qej(o:KD)(k:Nat)(u:Nat->Value):exec (mkE prog Kq) (hnd (mkE prog Kq) 3) (QH f14 3) (JSt.inst (Y8 119 d.ps.n d L o k) u) (Q8 [] (QCg 119)) = .br (decide ((k:Int)<(d.ps.n:Int))) (.need (decide ((0:Int)<=(k:Int)/\(k:Int)<(d.ps.n:Int))&&decide (d.ps.n<=d.ps.n)) (.need (decide (k<d.ps.n)) (.need (decide ((0:Int)<=(k:Int)/\(k:Int)<(d.ps.n:Int))&&decide (d.ps.n<=d.ps.n)) (.need (decide (k<d.ps.n)) (.br (!((d.ps.get k).up.kind==(d.ps.get k).up.kind&&((d.ps.get k).up.at_.lo==(d.ps.get k).up.at_.lo&&((d.ps.get k).up.at_.hi==(d.ps.get k).up.at_.hi&&true)&&((d.ps.get k).up.wide.lo==(d.ps.get k).up.wide.lo&&((d.ps.get k).up.wide.hi==(d.ps.get k).up.wide.hi&&true)&&((d.ps.get k).up.deep.lo==(d.ps.get k).up.deep.lo&&((d.ps.get k).up.deep.hi==(d.ps.get k).up.deep.hi&&true)&&true)))&&((d.ps.get k).right.kind==(d.ps.get k).right.kind&&((d.ps.get k).right.at_.lo==(d.ps.get k).right.at_.lo&&((d.ps.get k).right.at_.hi==(d.ps.get k).right.at_.hi&&true)&&((d.ps.get k).right.wide.lo==(d.ps.get k).right.wide.lo&&((d.ps.get k).right.wide.hi==(d.ps.get k).right.wide.hi&&true)&&((d.ps.get k).right.deep.lo==(d.ps.get k).right.deep.lo&&((d.ps.get k).right.deep.hi==(d.ps.get k).right.deep.hi&&true)&&true)))&&((d.ps.get k).down.kind==(d.ps.get k).down.kind&&((d.ps.get k).down.at_.lo==(d.ps.get k).down.at_.lo&&((d.ps.get k).down.at_.hi==(d.ps.get k).down.at_.hi&&true)&&((d.ps.get k).down.wide.lo==(d.ps.get k).down.wide.lo&&((d.ps.get k).down.wide.hi==(d.ps.get k).down.wide.hi&&true)&&((d.ps.get k).down.deep.lo==(d.ps.get k).down.deep.lo&&((d.ps.get k).down.deep.hi==(d.ps.get k).down.deep.hi&&true)&&true)))&&((d.ps.get k).left.kind==(d.ps.get k).left.kind&&((d.ps.get k).left.at_.lo==(d.ps.get k).left.at_.lo&&((d.ps.get k).left.at_.hi==(d.ps.get k).left.at_.hi&&true)&&((d.ps.get k).left.wide.lo==(d.ps.get k).left.wide.lo&&((d.ps.get k).left.wide.hi==(d.ps.get k).left.wide.hi&&true)&&((d.ps.get k).left.deep.lo==(d.ps.get k).left.deep.lo&&((d.ps.get k).left.deep.hi==(d.ps.get k).left.deep.hi&&true)&&true)))&&true)))&&true)) (.leaf (.tup [.nili,.ptr 180 0 0,.bool true false]) ([])) (.leaf (.tup (.nilp::.ptr 180 0 0::List.append (wah L d o) ((List.append (waI o) ([vi (d.ps.n:Int),vi (i64.wrap ((k:Int)+1))]))))) ((WI L d o)))))))) (.leaf (.tup (.ptr 6 0 0::.ptr 180 0 0::List.append (wah L d o) ((waI o)))) ((WI L d o))):=by kernel_rfl
theorem QYF(o:KD)(k k':Nat):QE 8 (List.append (wah L d o) ((List.append (waI o) ([vi (d.ps.n:Int),vi (i64.wrap ((k:Int)+1))])))) ((WI L d o)) (Y8 119 d.ps.n d L o k')=(some ((qq L d o)++(QC5 o)++(([o.n=o.n,o.e=o.e]++wck o++[o.f=o.f,(d.ps.n:Int)=(d.ps.n:Int),i64.wrap ((k:Int)+1)=(k':Int)])++wax o)++(QEF d o)++(Wz L d o))):=by kernel_rfl
abbrev QLa(d:Puz)(o:KD):List AV:=
  (List.append (wah L d o) ((waI o)))
abbrev QRN(d:Puz)(o:KD):List Prop:=
  ((((([0=0]++wbU L++(wch L d o++([0=0,o.x.length =
  o.x.length,cO=cO,0=0,o.y.length=o.y.length,cO=cO,o.n=o.n,o.e=o.e]++wck o++[o.f=o.f])))++wax o)++waq o)++wad d++(([L.1<=L.1,QB 3 L.1 (λi=>QA.enc (L.2 i)) λi=>QA.enc (L.2 i)]++wax o)++waq o))++waa d++([cO=cO]++wad d++[L.1<=L.1,QB 3 L.1 (λi=>QA.enc (L.2 i)) λi=>QA.enc (L.2 i)]))
theorem QWq(o:KD):QE 8 (QLa L d o) ((WI L d o)) (qC d L o)=(some (QRN L d o)):=by kernel_rfl
theorem QZ1(o:KD)(k:Nat)(u:Nat->Value):exec (mkE prog Kq) (hnd (mkE prog Kq) 3) (QH f14 4) (JSt.inst (Y8 135 L.n d L o k) u) (Q8 [] (QCg 135)) = .br (decide ((k:Int)<(L.1:Int))) (.need (decide ((0:Int)<=(k:Int)/\(k:Int)<(L.1:Int))&&decide (L.1<=L.1)) (.need (decide (k<L.1)) (.need (decide ((0:Int)<=(k:Int)/\(k:Int)<(L.1:Int))&&decide (L.1<=L.1)) (.need (decide (k<L.1)) (.br (!((L.2 ((k:Int).toNat+0)).cell==(L.2 ((k:Int).toNat+0)).cell&&((L.2 ((k:Int).toNat+0)).lay.piece==(L.2 ((k:Int).toNat+0)).lay.piece&&((L.2 ((k:Int).toNat+0)).lay.turn==(L.2 ((k:Int).toNat+0)).lay.turn&&true)&&true))) (.leaf (.tup [.nili,.ptr 180 0 0,.bool true false]) ([])) (.leaf (.tup (.nilp::.ptr 180 0 0::List.append (wah L d o) ((List.append (waI o) ([vi (L.1:Int),vi (i64.wrap ((k:Int)+1))]))))) ((WI L d o)))))))) (.leaf (.tup (.ptr 8 0 0::.ptr 180 0 0::List.append (wah L d o) ((waI o)))) ((WI L d o))):=by kernel_rfl
theorem QXi(o:KD)(k k':Nat):QE 8 (List.append (wah L d o) ((List.append (waI o) ([vi (L.1:Int),vi (i64.wrap ((k:Int)+1))])))) ((WI L d o)) (Y8 135 L.n d L o k')=(some ((qq L d o)++(QC5 o)++(([o.n=o.n,o.e=o.e]++wck o++[o.f=o.f,(L.1:Int)=(L.1:Int),i64.wrap ((k:Int)+1)=(k':Int)])++wax o)++(QEF d o)++(Wz L d o))):=by kernel_rfl
theorem QV8(o:KD):QE 8 (QLa L d o) ((WI L d o)) (qC d L o)=(some (QRN L d o)):=by kernel_rfl
set_option maxHeartbeats 1600000 in
theorem QVr(o:KD)(hn:o.x.length<=1000000):JL (λk=>QAC d L o (Yc (yG o.x) k) k) (λk=>k<=o.x.length) (λk=>o.x.length-k) (λ_ e J=>e = .exit 0/\J=QDj d L o) 8 QI4 [] (mkE prog Kq) (λ_=>hnd (mkE prog Kq) 3) (QH f14 0):=by
 refine⟨λk u hk=>Qe (Qcz d L o (Yc (yG o.x) k) k u) ?_⟩;have hk:k<=o.x.length:=hk;have wk:i64.wrap ((k:Int)+1)=((k+1:Nat):Int):=(w64 (by omega) (by omega)).trans (by omega)
 refine QF ?_ ?_<;>intro b0
 iterate 2 (refine QG ?_ ?_;rotate_left)
 have h:k<o.x.length:=by have:=qdt b0;omega
 refine⟨k+1,h,by show o.x.length-(k+1)<o.x.length-k;omega,λ_ _ r=>r,rfl,rfl,_,QS2 ..,?_⟩
 rotate_left
 refine⟨_,⟨rfl,rfl⟩,rfl,rfl,_,QUe d L o (Yc (yG o.x) k),?_⟩
 rotate_left
 all_goals first|((with_reducible show _=true);(have:=qdt b0;simp;omega))|(repeat' first|with_reducible refine QO ?_ ?_|exact tv|exact qRr|exact wk|refine aI ?_ ?_)
set_option maxHeartbeats 1600000 in
theorem QVS(o:KD)(hn:o.y.length<=1000000):JL (λk=>QBI d L o (Yc (yG o.y) k) k) (λk=>k<=o.y.length) (λk=>o.y.length-k) (λ_ e J=>e = .exit 2/\J=QCS d L o) 8 QP6 [] (mkE prog Kq) (λ_=>hnd (mkE prog Kq) 3) (QH f14 1):=by
 refine⟨λk u hk=>Qe (Qfi d L o (Yc (yG o.y) k) k u) ?_⟩;have hk:k<=o.y.length:=hk;have wk:i64.wrap ((k:Int)+1)=((k+1:Nat):Int):=(w64 (by omega) (by omega)).trans (by omega)
 refine QF ?_ ?_<;>intro b0
 iterate 2 (refine QG ?_ ?_;rotate_left)
 have h:k<o.y.length:=by have:=qdt b0;omega
 refine⟨k+1,h,by show o.y.length-(k+1)<o.y.length-k;omega,λ_ _ r=>r,rfl,rfl,_,QYk ..,?_⟩
 rotate_left
 refine⟨_,⟨rfl,rfl⟩,rfl,rfl,_,QVE d L o (Yc (yG o.y) k),?_⟩
 rotate_left
 all_goals first|((with_reducible show _=true);(have:=qdt b0;simp;omega))|(repeat' first|with_reducible refine QO ?_ ?_|exact tv|exact qRr|exact wk|refine aI ?_ ?_)
set_option maxHeartbeats 1600000 in
theorem Qbl(o:KD)(hn:o.M.length<=1000000):JL (λk=>HY d L o (Yc (jG o.M) k) k) (λk=>k<=o.M.length) (λk=>o.M.length-k) (λ_ e J=>e = .exit 4/\J=QBe d L o) 8 QPe [] (mkE prog Kq) (λ_=>hnd (mkE prog Kq) 3) (QH f14 2):=by
 refine⟨λk u hk=>Qe (QdK d L o (Yc (jG o.M) k) k u) ?_⟩;have hk:k<=o.M.length:=hk;have wk:i64.wrap ((k:Int)+1)=((k+1:Nat):Int):=(w64 (by omega) (by omega)).trans (by omega)
 refine QF ?_ ?_<;>intro b0
 iterate 2 (refine QG ?_ ?_;rotate_left)
 have h:k<o.M.length:=by have:=qdt b0;omega
 refine⟨k+1,h,by show o.M.length-(k+1)<o.M.length-k;omega,λ_ _ r=>r,rfl,rfl,_,Qe3 ..,?_⟩
 rotate_left
 refine⟨_,⟨rfl,rfl⟩,rfl,rfl,_,QWw d L o (Yc (jG o.M) k),?_⟩
 rotate_left
 all_goals first|((with_reducible show _=true);(have:=qdt b0;simp;omega))|(repeat' first|with_reducible refine QO ?_ ?_|exact tv|exact qRr|exact wk|refine aI ?_ ?_)
set_option maxHeartbeats 1600000 in
theorem QSz(o:KD)(hn:d.ps.n<=1000):JL (λk=>Y8 119 d.ps.n d L o k) (λk=>k<=d.ps.n) (λk=>d.ps.n-k) (λ_ e J=>e = .exit 6/\J=qC d L o) 8 (QCg 119) [] (mkE prog Kq) (λ_=>hnd (mkE prog Kq) 3) (QH f14 3):=by
 refine⟨λk u hk=>Qe (Qej d L o k u) ?_⟩;have hk:k<=d.ps.n:=hk;have wk:i64.wrap ((k:Int)+1)=((k+1:Nat):Int):=(w64 (by omega) (by omega)).trans (by omega)
 refine QF ?_ ?_<;>intro b0
 iterate 4 (refine QG ?_ ?_;rotate_left)
 refine QF ?_ ?_<;>intro b1
 .simp at b1
 have h:k<d.ps.n:=by have:=qdt b0;omega
 refine⟨k+1,h,by show d.ps.n-(k+1)<d.ps.n-k;omega,λ_ _ r=>r,rfl,rfl,_,QYF ..,?_⟩
 rotate_left
 refine⟨_,⟨rfl,rfl⟩,rfl,rfl,_,QWq ..,?_⟩
 rotate_left
 all_goals first|((with_reducible show _=true);(have:=qdt b0;simp;omega))|(repeat' first|with_reducible refine QO ?_ ?_|exact tv|exact qRr|exact wk|refine aI ?_ ?_)
set_option maxHeartbeats 1600000 in
theorem QYY(o:KD)(hn:L.n<=1000):JL (λk=>Y8 135 L.n d L o k) (λk=>k<=L.n) (λk=>L.n-k) (λ_ e J=>e = .exit 8/\J=qC d L o) 8 (QCg 135) [] (mkE prog Kq) (λ_=>hnd (mkE prog Kq) 3) (QH f14 4):=by
 refine⟨λk u hk=>Qe (QZ1 d L o k u) ?_⟩;have hk:k<=L.n:=hk;have wk:i64.wrap ((k:Int)+1)=((k+1:Nat):Int):=(w64 (by omega) (by omega)).trans (by omega)
 refine QF ?_ ?_<;>intro b0
 iterate 4 (refine QG ?_ ?_;rotate_left)
 refine QF ?_ ?_<;>intro b1
 .simp at b1
 have h:k<L.n:=by have:=qdt b0;omega
 refine⟨k+1,h,by show L.n-(k+1)<L.n-k;omega,λ_ _ r=>r,rfl,rfl,_,QXi ..,?_⟩
 rotate_left
 refine⟨_,⟨rfl,rfl⟩,rfl,rfl,_,QV8 ..,?_⟩
 rotate_left
 all_goals first|((with_reducible show _=true);(have:=qdt b0;simp;omega))|(repeat' first|with_reducible refine QO ?_ ?_|exact tv|exact qRr|exact wk|refine aI ?_ ?_)
def wnO:KD:=⟨(Qt d).1,(Qt d).2.1,(Kp d).2.1,(Qt d).2.2.1,(Qt d).2.2.2,(Kp d).2.2⟩
def wnP:Prop:=d.ps.n<=1000/\L.n<=1000/\(wnO d).x.length<=1000000/\(wnO d).y.length<=1000000/\(wnO d).M.length<=1000000
abbrev wnX:Code->St->(Ex->St->QC)->QC:=QQY [
 (8,Kr (wnP d L) (Q4 8 [] (QAC d L (wnO d) (yG (wnO d).x) (0:Nat)) [(True,.exit 0,QDj d L (wnO d))])),
 (13,Kr (wnP d L) (Q4 8 [] (QBI d L (wnO d) (yG (wnO d).y) (0:Nat)) [(True,.exit 2,QCS d L (wnO d))])),
 (18,Kr (wnP d L) (Q4 8 [] (HY d L (wnO d) (jG (wnO d).M) (0:Nat)) [(True,.exit 4,QBe d L (wnO d))])),
 (29,Kr (wnP d L) (Q4 8 [] (Y8 119 d.ps.n d L (wnO d) (0:Nat)) [(True,.exit 6,qC d L (wnO d))])),
 (35,Kr (wnP d L) (Q4 8 [] (Y8 135 L.n d L (wnO d) (0:Nat)) [(True,.exit 8,qC d L (wnO d))]))]
abbrev wnH(P:Program)(d:Puz)(L:Rc Pt):Hnd:={ hnd (mkS P Kq) 1 with loop:=wnX d L }
theorem QaG(G:Ctx)(hrd:G.rd=none)(hG:G.n=8):Qx (mkS prog Kq) G (wnH prog d L) (Qk f14):=by
 refine QNN (zd X4) hrd λc hc=>?_;have he:Ky (Qk f14)=[.loop (QH f14 0),.loop (QH f14 1),.loop (QH f14 2),.loop (QH f14 3),.loop (QH f14 4)]:=by kernel_rfl
 rw[he]at hc;simp only[List.mem_cons,List.not_mem_nil,or_false]at hc;rcases hc with rfl|rfl|rfl|rfl|rfl
 .have e1:wnX d L (.loop (QH f14 0))=Kr (wnP d L) (Q4 8 [] (QAC d L (wnO d) (yG (wnO d).x) (0:Nat)) [(True,.exit 0,QDj d L (wnO d))]):=by kernel_rfl
  show JA _ G _ (wnX d L (.loop (QH f14 0)));rw[e1];refine JK λhp=>?_;refine QAc (E:=mkE prog Kq) rfl (Jt (n0:=8) (QN X4) (by omega) (λs hs=>Qu (QN X4) 3 G _ hrd) (λs hs=>(by decide:8<=432)) ?_ (QVr d L (wnO d) hp.2.2.1) (s0:=0) (Nat.zero_le _) ?_)
  .rintro s e J ⟨_,rfl⟩;exact(by decide:8<=432)
  .rintro e J ⟨rfl,rfl⟩;exact⟨_,qmc,trivial,rfl,rfl⟩
 .have e1:wnX d L (.loop (QH f14 1))=Kr (wnP d L) (Q4 8 [] (QBI d L (wnO d) (yG (wnO d).y) (0:Nat)) [(True,.exit 2,QCS d L (wnO d))]):=by kernel_rfl
  show JA _ G _ (wnX d L (.loop (QH f14 1)));rw[e1];refine JK λhp=>?_;refine QAc (E:=mkE prog Kq) rfl (Jt (n0:=8) (QN X4) (by omega) (λs hs=>Qu (QN X4) 3 G _ hrd) (λs hs=>(by decide:8<=432)) ?_ (QVS d L (wnO d) hp.2.2.2.1) (s0:=0) (Nat.zero_le _) ?_)
  .rintro s e J ⟨_,rfl⟩;exact(by decide:8<=432)
  .rintro e J ⟨rfl,rfl⟩;exact⟨_,qmc,trivial,rfl,rfl⟩
 .have e1:wnX d L (.loop (QH f14 2))=Kr (wnP d L) (Q4 8 [] (HY d L (wnO d) (jG (wnO d).M) (0:Nat)) [(True,.exit 4,QBe d L (wnO d))]):=by kernel_rfl
  show JA _ G _ (wnX d L (.loop (QH f14 2)));rw[e1];refine JK λhp=>?_;refine QAc (E:=mkE prog Kq) rfl (Jt (n0:=8) (QN X4) (by omega) (λs hs=>Qu (QN X4) 3 G _ hrd) (λs hs=>(by decide:8<=432)) ?_ (Qbl d L (wnO d) hp.2.2.2.2) (s0:=0) (Nat.zero_le _) ?_)
  .rintro s e J ⟨_,rfl⟩;exact(by decide:8<=432)
  .rintro e J ⟨rfl,rfl⟩;exact⟨_,qmc,trivial,rfl,rfl⟩
 .have e1:wnX d L (.loop (QH f14 3))=Kr (wnP d L) (Q4 8 [] (Y8 119 d.ps.n d L (wnO d) (0:Nat)) [(True,.exit 6,qC d L (wnO d))]):=by kernel_rfl
  show JA _ G _ (wnX d L (.loop (QH f14 3)));rw[e1];refine JK λhp=>?_;refine QAc (E:=mkE prog Kq) rfl (Jt (n0:=8) (QN X4) (by omega) (λs hs=>Qu (QN X4) 3 G _ hrd) (λs hs=>(by decide:8<=1300)) ?_ (QSz d L (wnO d) hp.1) (s0:=0) (Nat.zero_le _) ?_)
  .rintro s e J ⟨_,rfl⟩;exact(by decide:8<=1300)
  .rintro e J ⟨rfl,rfl⟩;exact⟨_,qmc,trivial,rfl,rfl⟩
 .have e1:wnX d L (.loop (QH f14 4))=Kr (wnP d L) (Q4 8 [] (Y8 135 L.n d L (wnO d) (0:Nat)) [(True,.exit 8,qC d L (wnO d))]):=by kernel_rfl
  show JA _ G _ (wnX d L (.loop (QH f14 4)));rw[e1];refine JK λhp=>?_;refine QAc (E:=mkE prog Kq) rfl (Jt (n0:=8) (QN X4) (by omega) (λs hs=>Qu (QN X4) 3 G _ hrd) (λs hs=>(by decide:8<=1300)) ?_ (QYY d L (wnO d) hp.2.1) (s0:=0) (Nat.zero_le _) ?_)
  .rintro s e J ⟨_,rfl⟩;exact(by decide:8<=1300)
  .rintro e J ⟨rfl,rfl⟩;exact⟨_,qmc,trivial,rfl,rfl⟩
theorem Hf{m n:Nat}{f g:Nat->Nat->Int}:QB m n (KF 0 f g) g:=λi _=>by
 have e:KF 0 f g i=g i:=funext λj=>by rw[YI,if_neg (Nat.not_lt_zero _),Nat.sub_zero]
 show eqF m 0 (KF 0 f g i) (g i);rw[e];exact QA8 _ _ _
theorem QL8(a:Rw Lay):VS a a=true:=by
 unfold VS;rw[QHf (λi _ _=>by unfold lyQ;simp)];simp
theorem Qdj(a:Rw Jn):ZJ a a=true:=by
 unfold ZJ;rw[QHf (λi _ _=>by unfold sjQ;simp)];simp
theorem QAn{α:Type}(f:Nat->List α){B:Nat}(h:∀ i,(f i).length<=B):∀ k,((List.range k).flatMap f).length<=k*B
 | 0=>Nat.zero_le _
 | k+1=>by
  have h1:=QAn f h k;have h2:=h k;rw[List.range_succ,List.flatMap_append,List.length_append,Nat.succ_mul,List.flatMap_cons,List.flatMap_nil,List.append_nil];omega
theorem QZu{d:Puz}(h9:d.ps.n<=9):(XT d 1).length<=1000000:=by
 have h:(XT d 1).length<=d.ps.n*(4*(d.ps.n*(4*1))):=by
  refine QAn _ (λp=>QAn _ (λi=>QAn _ (λq=>QAn _ (λj=>?_) 4) _) 4) _;cases isJ d 1 p i q j<;>simp
 have hb:d.ps.n*(4*(d.ps.n*(4*1)))<=9*(4*(9*(4*1))):=Nat.mul_le_mul h9 (Nat.mul_le_mul (qlr _) (Nat.mul_le_mul h9 (qlr _)));omega
theorem Qcb{d:Puz}{L:Rc Pt}(hn:d.ps.n<=14)(hL:L.n<=30):wnP d L:=by
 cases ho:d.ok with
 | false=>
  have e1:Qt d=([],[],0,1):=by simp only[Qt,ho,cond_false]
  have e2:(Kp d).2.1=[]:=by unfold Kp;rw[ho];rfl
  refine⟨by omega,by omega,?_,?_,?_⟩
  .show(Qt d).1.length<=_;rw[e1];exact Nat.zero_le _
  .show(Qt d).2.1.length<=_;rw[e1];exact Nat.zero_le _
  .show(Kp d).2.1.length<=_;rw[e2];exact Nat.zero_le _
 | true=>
  obtain⟨hd,hpos,h9⟩:=qi (jb ho);have es:=QWe ho
  have hl:∀ l∈JT d (QK d),l.length<=1000000:=λl hl=>by
   have:=(Qe1.1 hl).len;omega
  have e2:(Kp d).2.1=XT d 1:=by unfold Kp;rw[ho];rfl
  refine⟨by omega,by omega,?_,?_,?_⟩
  .show(Qt d).1.length<=_;cases hs:JT d (QK d)with
   | nil=>rw[hs]at es;rw[es];exact Nat.zero_le _
   | cons a S=>rw[hs]at es hl;rw[es];exact hl a qmc
  .show(Qt d).2.1.length<=_;cases hs:JT d (QK d)with
   | nil=>rw[hs]at es;rw[es];exact Nat.zero_le _
   | cons a S=>
    rw[hs]at es hl;rw[es];cases S with
    | nil=>exact Nat.zero_le _
    | cons b S=>exact hl b (List.mem_cons_of_mem _ qmc)
  .show(Kp d).2.1.length<=_;rw[e2];exact QZu h9
def QER:WF (Puz×(Rc Pt)×Unit):=λ|(d,(L,_))=>(decide (L.n<=L.c),.bool false true,[])
abbrev wbl(d:Puz):List Prop:=[(wnO d).M.length<=(wnO d).M.length,QB 4 (wnO d).M.length (λi=>QA.enc ((wnO d).M.getD i (Jn.mk (0:Int) (0:Int) (0:Int) (0:Int)))) λi=>QA.enc ((wnO d).M.getD i (Jn.mk (0:Int) (0:Int) (0:Int) (0:Int)))]
abbrev wai(d:Puz):List Prop:=([(wnO d).x.length<=(wnO d).x.length,QB 2 (wnO d).x.length (λi=>QA.enc ((wnO d).x.getD i (Lay.mk (0:Int) (0:Int)))) λi=>QA.enc ((wnO d).x.getD i (Lay.mk (0:Int) (0:Int))),(wnO d).y.length<=(wnO d).y.length,QB 2 (wnO d).y.length (λi=>QA.enc ((wnO d).y.getD i (Lay.mk (0:Int) (0:Int)))) λi=>QA.enc ((wnO d).y.getD i (Lay.mk (0:Int) (0:Int)))]++wbl d)
abbrev waP(d:Puz):List Prop:=[(wnO d).y.length<=(Qt d).2.1.length,QB 2 (wnO d).y.length (λi=>QA.enc ((Qt d).2.1.getD i (Lay.mk (0:Int) (0:Int)))) λi=>QA.enc ((wnO d).y.getD i (Lay.mk (0:Int) (0:Int))),(wnO d).M.length<=(Kp d).2.1.length,QB 4 (wnO d).M.length (λi=>QA.enc ((Kp d).2.1.getD i (Jn.mk (0:Int) (0:Int) (0:Int) (0:Int)))) λi=>QA.enc ((wnO d).M.getD i (Jn.mk (0:Int) (0:Int) (0:Int) (0:Int)))]
abbrev wbo(L:(Rc Pt))(d:Puz):List Prop:=[0=0,L.1=L.1,Cap.lit L.3=Cap.lit L.3,0=0,0=0,0=0,d.ps.n=d.ps.n,cO=cO,0=0,L.1=L.1,cO=cO,(wnO d).n=(wnO d).n,(wnO d).e=(wnO d).e,(wnO d).f=(wnO d).f,0=0,(wnO d).x.length=(wnO d).x.length,cO=cO,0=0,(wnO d).y.length=(wnO d).y.length,cO=cO,0=0,(wnO d).M.length=(wnO d).M.length,cO=cO,0=0]
theorem Qeg(L:(Rc Pt)):Kl (mkS prog Kq) (wnH prog d L) f14 (Qd.vals 0 ((d,L,()):Puz×(Rc Pt)×Unit)) (Qd.blks 0 ((d,L,()):Puz×(Rc Pt)×Unit)) 8 = .need (decide (d.ps.n<=d.ps.n)&&(true&&true)&&true) (.need (!!V2 d (6:Int)||!V2 d (6:Int)) (.need (!!V2 d (6:Int)||!V2 d (6:Int)) (.need (V2 d (6:Int)||!V2 d (6:Int)) (.bnd (V2 d (6:Int)||decide ((L.1:Int)>30)) (λ(x0:Bool)=>.br (x0) (.leaf (.bool true true) ([])) (.need (true&&(decide (d.ps.n<=d.ps.n)&&decide ((0+d.ps.n+(0+d.ps.n) / 4+192)*224<=281474976710656/\0+d.ps.n<=9223372036854775807))) (.need (true&&(decide (L.1<=L.1)&&decide ((0+L.1+(0+L.1) / 4+192)*24<=281474976710656/\0+L.1<=9223372036854775807))) (.need (decide (d.ps.n<=d.ps.n)&&true&&decide (d.ps.n<=1000)) (.need (decide (d.ps.n<=d.ps.n)&&true&&decide (d.ps.n<=1000)) (.need (true&&(decide ((Qt d).1.length<=(Qt d).1.length)&&decide ((0+(Qt d).1.length+(0+(Qt d).1.length) / 4+192)*16<=281474976710656/\0+(Qt d).1.length<=9223372036854775807))) (.need (true&&(decide ((Qt d).2.1.length<=(Qt d).2.1.length)&&decide ((0+(Qt d).2.1.length+(0+(Qt d).2.1.length) / 4+192)*16<=281474976710656/\0+(Qt d).2.1.length<=9223372036854775807))) (.need (true&&(decide ((Kp d).2.1.length<=(Kp d).2.1.length)&&decide ((0+(Kp d).2.1.length+(0+(Kp d).2.1.length) / 4+192)*32<=281474976710656/\0+(Kp d).2.1.length<=9223372036854775807))) (.ak (([wnP d L,0=0,L.1=L.1,Cap.lit L.3=Cap.lit L.3,0=0,0=0,0=0,0+d.ps.n=d.ps.n,cO=cO,0=0,0+L.1=L.1,cO=cO,(Qt d).2.2.1=(wnO d).n,(Qt d).2.2.2=(wnO d).e,(Kp d).2.2=(wnO d).f,0=0,0+(Qt d).1.length=(wnO d).x.length,cO=cO,0=0,0+(Qt d).2.1.length=(wnO d).y.length,cO=cO,0=0,0+(Kp d).2.1.length=(wnO d).M.length,cO=cO,0=0,(Qt d).1.length=(wnO d).x.length,cO=cO,0=0,(Qt d).2.1.length=(wnO d).y.length,cO=cO,0=0,(Kp d).2.1.length=(wnO d).M.length,cO=cO,(↑(Qt d).1.length:Int)=(↑(wnO d).x.length:Int),(0:Int)=0,(wnO d).x.length<=(Qt d).1.length,QB 2 (wnO d).x.length (λi=>QA.enc ((Qt d).1.getD i (Lay.mk (0:Int) (0:Int)))) (yG (wnO d).x)]++waP d++[d.ps.n<=0+d.ps.n,QB 28 d.ps.n (KF 0 (λx x_1=>(0:Int)) λi=>QA.enc (d.ps.get i)) λi=>QA.enc (d.ps.get i),L.1<=0+L.1,QB 3 L.1 (KF 0 (λx x_1=>(0:Int)) λi=>QA.enc ((d,L,()).snd.fst.2 (i+0))) λi=>QA.enc (L.2 i),(wnO d).x.length<=0+(Qt d).1.length,QB 2 (wnO d).x.length (KF 0 (λx x_1=>(0:Int)) λi=>QA.enc ((Qt d).1.getD i (Lay.mk (0:Int) (0:Int)))) λi=>QA.enc ((wnO d).x.getD i (Lay.mk (0:Int) (0:Int))),(wnO d).y.length<=0+(Qt d).2.1.length,QB 2 (wnO d).y.length (KF 0 (λx x_1=>(0:Int)) λi=>QA.enc ((Qt d).2.1.getD i (Lay.mk (0:Int) (0:Int)))) λi=>QA.enc ((wnO d).y.getD i (Lay.mk (0:Int) (0:Int))),(wnO d).M.length<=0+(Kp d).2.1.length,QB 4 (wnO d).M.length (KF 0 (λx x_1=>(0:Int)) λi=>QA.enc ((Kp d).2.1.getD i (Jn.mk (0:Int) (0:Int) (0:Int) (0:Int)))) λi=>QA.enc ((wnO d).M.getD i (Jn.mk (0:Int) (0:Int) (0:Int) (0:Int)))])++waa d++([cO=cO]++wad d++[L.1<=L.1,QB 3 L.1 (λi=>QA.enc ((d,L,()).snd.fst.2 i)) λi=>QA.enc (L.2 i)])) (.asm (True) (.all (λ(g1:Nat->Value)=>.ak (((([wnP d L]++wbo L d++[(wnO d).y.length=(wnO d).y.length,cO=cO,0=0,(wnO d).M.length=(wnO d).M.length,cO=cO,(↑(wnO d).y.length:Int)=(↑(wnO d).y.length:Int),(0:Int)=0,(wnO d).y.length<=(wnO d).y.length,QB 2 (wnO d).y.length (λi=>QA.enc ((wnO d).y.getD i (Lay.mk (0:Int) (0:Int)))) (yG (wnO d).y)])++wbl d)++wad d++([L.1<=L.1,QB 3 L.1 (λi=>QA.enc (L.2 i)) λi=>QA.enc (L.2 i)]++wai d))++waa d++([cO=cO]++wad d++[L.1<=L.1,QB 3 L.1 (λi=>QA.enc (L.2 i)) λi=>QA.enc (L.2 i)])) (.asm (True) (.all (λ(g2:Nat->Value)=>.ak ((([wnP d L]++wbo L d++[(wnO d).M.length=(wnO d).M.length,cO=cO,(↑(wnO d).M.length:Int)=(↑(wnO d).M.length:Int),(0:Int)=0,(wnO d).M.length<=(wnO d).M.length,QB 4 (wnO d).M.length (λi=>QA.enc ((wnO d).M.getD i (Jn.mk (0:Int) (0:Int) (0:Int) (0:Int)))) (jG (wnO d).M)])++wad d++([L.1<=L.1,QB 3 L.1 (λi=>QA.enc (L.2 i)) λi=>QA.enc (L.2 i)]++wai d))++waa d++([cO=cO]++wad d++[L.1<=L.1,QB 3 L.1 (λi=>QA.enc (L.2 i)) λi=>QA.enc (L.2 i)])) (.asm (True) (.all (λ(g3:Nat->Value)=>.need (decide (d.ps.n<=d.ps.n)&&true&&decide (d.ps.n<=1000)) (.need (decide (d.ps.n<=d.ps.n)&&(true&&true)&&decide (d.ps.n<=1000)) (.need (decide (d.ps.n<=d.ps.n)&&(decide (L.1<=L.1)&&true)&&decide (d.ps.n<=1000/\L.1<=1000/\L.1<=L.3)) (.need (decide (d.ps.n<=d.ps.n)&&true&&decide (d.ps.n<=1000)) (.need (decide (d.ps.n<=d.ps.n)&&true&&decide (d.ps.n<=1000)) (.need (decide (d.ps.n<=d.ps.n)&&true&&decide (d.ps.n<=1000)) (.ak (((([wnP d L]++wbo L d++[(Qt d).1.length=(wnO d).x.length,cO=cO,0=0,(Qt d).2.1.length=(wnO d).y.length,cO=cO,(Qt d).2.2.1=(wnO d).n,(Qt d).2.2.2=(wnO d).e,0=0,(Kp d).2.1.length=(wnO d).M.length,cO=cO,(Kp d).2.2=(wnO d).f,(d.ps.n:Int)=(d.ps.n:Int),(0:Int)=0,(wnO d).x.length<=(Qt d).1.length,QB 2 (wnO d).x.length (λi=>QA.enc ((Qt d).1.getD i (Lay.mk (0:Int) (0:Int)))) λi=>QA.enc ((wnO d).x.getD i (Lay.mk (0:Int) (0:Int)))])++waP d)++wad d++([L.1<=L.1,QB 3 L.1 (λi=>QA.enc (L.2 i)) λi=>QA.enc (L.2 i)]++wai d))++waa d++([cO=cO]++wad d++[L.1<=L.1,QB 3 L.1 (λi=>QA.enc (L.2 i)) λi=>QA.enc (L.2 i)])) (.asm (True) (.all (λ(g4:Nat->Value)=>.ak (((([wnP d L]++wbo L d++[(wnO d).x.length=(wnO d).x.length,cO=cO,0=0,(wnO d).y.length=(wnO d).y.length,cO=cO,(wnO d).n=(wnO d).n,(wnO d).e=(wnO d).e,0=0,(wnO d).M.length=(wnO d).M.length,cO=cO,(wnO d).f=(wnO d).f,(L.1:Int)=(L.1:Int),(0:Int)=0])++wai d)++wad d++([L.1<=L.1,QB 3 L.1 (λi=>QA.enc (L.2 i)) λi=>QA.enc (L.2 i)]++wai d))++waa d++([cO=cO]++wad d++[L.1<=L.1,QB 3 L.1 (λi=>QA.enc (L.2 i)) λi=>QA.enc (L.2 i)])) (.asm (True) (.all (λ(g5:Nat->Value)=>.need (decide ((wnO d).x.length<=(wnO d).x.length)&&(decide ((wnO d).x.length<=(wnO d).x.length)&&true)&&decide ((wnO d).x.length<=1000000/\(wnO d).x.length<=1000000)) (.need (!VS (Rw.mk (wnO d).x.length λi=>(wnO d).x.getD i (Lay.mk (0:Int) (0:Int))) (Rw.mk (wnO d).x.length λi=>(wnO d).x.getD i (Lay.mk (0:Int) (0:Int)))||decide ((wnO d).y.length<=(wnO d).y.length)&&(decide ((wnO d).y.length<=(wnO d).y.length)&&true)&&decide ((wnO d).y.length<=1000000/\(wnO d).y.length<=1000000)&&(VS (Rw.mk (wnO d).x.length λi=>(wnO d).x.getD i (Lay.mk (0:Int) (0:Int))) (Rw.mk (wnO d).x.length λi=>(wnO d).x.getD i (Lay.mk (0:Int) (0:Int)))&&VS (Rw.mk (wnO d).x.length λi=>(wnO d).x.getD i (Lay.mk (0:Int) (0:Int))) (Rw.mk (wnO d).x.length λi=>(wnO d).x.getD i (Lay.mk (0:Int) (0:Int))))) (.need (!VS (Rw.mk (wnO d).x.length λi=>(wnO d).x.getD i (Lay.mk (0:Int) (0:Int))) (Rw.mk (wnO d).x.length λi=>(wnO d).x.getD i (Lay.mk (0:Int) (0:Int)))||VS (Rw.mk (wnO d).x.length λi=>(wnO d).x.getD i (Lay.mk (0:Int) (0:Int))) (Rw.mk (wnO d).x.length λi=>(wnO d).x.getD i (Lay.mk (0:Int) (0:Int)))) (.bnd (VS (Rw.mk (wnO d).x.length λi=>(wnO d).x.getD i (Lay.mk (0:Int) (0:Int))) (Rw.mk (wnO d).x.length λi=>(wnO d).x.getD i (Lay.mk (0:Int) (0:Int)))&&VS (Rw.mk (wnO d).y.length λi=>(wnO d).y.getD i (Lay.mk (0:Int) (0:Int))) (Rw.mk (wnO d).y.length λi=>(wnO d).y.getD i (Lay.mk (0:Int) (0:Int)))) (λ(x6:Bool)=>.need (!x6||decide ((wnO d).M.length<=(wnO d).M.length)&&(decide ((wnO d).M.length<=(wnO d).M.length)&&true)&&decide ((wnO d).M.length<=1000000/\(wnO d).M.length<=1000000)&&(x6&&x6)) (.need (!x6||x6) (.bnd (x6&&ZJ (Rw.mk (wnO d).M.length λi=>(wnO d).M.getD i (Jn.mk (0:Int) (0:Int) (0:Int) (0:Int))) (Rw.mk (wnO d).M.length λi=>(wnO d).M.getD i (Jn.mk (0:Int) (0:Int) (0:Int) (0:Int)))) (λ(x7:Bool)=>.need (!x7||x7&&x7) (.need (!x7||x7) (.bnd (x7&&(wnO d).n==(wnO d).n) (λ(x8:Bool)=>.need (!x8||x8&&x8) (.need (!x8||x8) (.bnd (x8&&(wnO d).e==(wnO d).e) (λ(x9:Bool)=>.need (!x9||x9&&x9) (.need (!x9||x9) (.bnd (x9&&(wnO d).f==(wnO d).f) (λ(x10:Bool)=>.need (!x10||x10) (.bnd (x10||false) (λ(x11:Bool)=>.leaf (.bool false x11) ([]))))))))))))))))))))))))))))))))))))))))))))))))))))):=by kernel_rfl
theorem QUI:JP (mkS prog Kq) (Qk f14) 8 QER (λx_=>(wnH prog x_.1 x_.2.1)):=by
 refine⟨?_⟩;rintro⟨d,⟨L,⟨⟩⟩⟩ hp G h1 h2;exact QaG d L G h1 h2
theorem QTU:JQ (mkS prog Kq) f14 8 QER (λx_=>(wnH prog x_.1 x_.2.1)):=by
 refine⟨?_⟩;rintro⟨d,⟨L,⟨⟩⟩⟩ hp;refine⟨⟨rfl,by simp[QER],rfl⟩,⟨?_⟩⟩
 rw[Qeg d L];simp only[QER]at hp;have hc:=qdt hp;have n1:∀ b:Bool,(!!b || !b)=true:=λb=>by cases b<;>rfl
 have n2:∀ b:Bool,(b || !b)=true:=λb=>by cases b<;>rfl
 have n7:∀ a:Bool,(!a||a)=true:=λa=>by cases a<;>rfl
 have hx:=QL8 ⟨(wnO d).x.length,λi=>(wnO d).x.getD i ⟨0,0⟩⟩;have hy:=QL8 ⟨(wnO d).y.length,λi=>(wnO d).y.getD i ⟨0,0⟩⟩;have hj:=Qdj ⟨(wnO d).M.length,λi=>(wnO d).M.getD i ⟨0,0,0,0⟩⟩
 iterate 4 (refine QG ?_ ?_;rotate_left)
 refine ZC λz0 y0=>?_;obtain rfl:z0=(V2 d 6||decide ((L.n:Int)>30)):=y0.trans (rfl)
 refine QF ?_ ?_<;>intro b0
 .exact Kd rfl rfl
 have hg:=Bool.or_eq_false_iff.1 b0
 have hn:d.ps.n<=14:=by
  have:¬ ((d.ps.n:Int)>14):=λh=>by rw[V2,qde h]at hg;cases hg.1
  omega
 have hL:L.n<=30:=by have:=qdf hg.2;omega
 have P:=Qcb hn hL;have P2:(Qt d).1.length<=1000000/\(Qt d).2.1.length<=1000000/\(Kp d).2.1.length<=1000000:=P.2.2;have P3:=P.2.2
 iterate 7 (refine QG ?_ ?_;rotate_left)
 iterate 66 refine Qp (by first|with_reducible rfl|exact P|exact qlr _|with_reducible exact qRr|exact Nat.zero_add _|exact Nat.le_of_eq (Nat.zero_add _).symm|exact Hf|exact qRr|exact trivial|exact rfl) ?_
 refine Qf λa0=>?_;refine Qh λg0=>?_
 iterate 61 refine Qp (by first|with_reducible rfl|exact P|exact qlr _|with_reducible exact qRr|exact Nat.zero_add _|exact Nat.le_of_eq (Nat.zero_add _).symm|exact Hf|exact qRr|exact trivial|exact rfl) ?_
 refine Qf λa1=>?_;refine Qh λg1=>?_
 iterate 56 refine Qp (by first|with_reducible rfl|exact P|exact qlr _|with_reducible exact qRr|exact Nat.zero_add _|exact Nat.le_of_eq (Nat.zero_add _).symm|exact Hf|exact qRr|exact trivial|exact rfl) ?_
 refine Qf λa2=>?_;refine Qh λg2=>?_
 iterate 6 (refine QG ?_ ?_;rotate_left)
 iterate 69 refine Qp (by first|with_reducible rfl|exact P|exact qlr _|with_reducible exact qRr|exact Nat.zero_add _|exact Nat.le_of_eq (Nat.zero_add _).symm|exact Hf|exact qRr|exact trivial|exact rfl) ?_
 refine Qf λa3=>?_;refine Qh λg3=>?_
 iterate 69 refine Qp (by first|with_reducible rfl|exact P|exact qlr _|with_reducible exact qRr|exact Nat.zero_add _|exact Nat.le_of_eq (Nat.zero_add _).symm|exact Hf|exact qRr|exact trivial|exact rfl) ?_
 refine Qf λa4=>?_;refine Qh λg4=>?_
 iterate 3 (refine QG ?_ ?_;rotate_left)
 refine ZC λz1 y1=>?_;obtain rfl:z1=true:=y1.trans (by rw[hx,hy];rfl)
 iterate 2 (refine QG ?_ ?_;rotate_left)
 refine ZC λz2 y2=>?_;obtain rfl:z2=true:=y2.trans (by rw[hj];rfl)
 iterate 2 (refine QG ?_ ?_;rotate_left)
 refine ZC λz3 y3=>?_;obtain rfl:z3=true:=y3.trans (by simp)
 iterate 2 (refine QG ?_ ?_;rotate_left)
 refine ZC λz4 y4=>?_;obtain rfl:z4=true:=y4.trans (by simp)
 iterate 2 (refine QG ?_ ?_;rotate_left)
 refine ZC λz5 y5=>?_;obtain rfl:z5=true:=y5.trans (by simp)
 refine QG ?_ ?_;rotate_left;refine ZC λz6 y6=>?_;obtain rfl:z6=true:=y6.trans (rfl)
 .exact Kd rfl rfl
 all_goals first|rfl|(rw[qde (qlr _)];rfl)|exact n1 _|exact n2 _|exact n7 _|(rw[hx];simp only[qlr,decide_true,Bool.and_true,Bool.true_and,Bool.not_true,Bool.false_or,qbA,qdE];omega)|(simp only[qlr,decide_true,Bool.and_true,Bool.true_and,Bool.not_true,Bool.false_or,qbA,qdE];omega)
