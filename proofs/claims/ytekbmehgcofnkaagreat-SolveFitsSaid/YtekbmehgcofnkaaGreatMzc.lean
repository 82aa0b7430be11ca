/- - -/
import Derived.Test.YtekbmehgcofnkaaGreatMzb
open Go.Proofs.Tryz
open Go.IntKind (i64)
set_option maxRecDepth 100000
namespace Go.Proofs.YtekbmehgcofnkaaGreat
open Go.SX Go.SX.Told
variable {σ:Type}(pb:List Prop->Bool)(d:Puz)(E:ECt)(ac body:Code)(l:List Lay)(u':Nat->Nat->Int)(l2:List Lay)(u:Nat->Nat->Int)(p:Nat)(u2:Nat->Nat->Int)(many:Int)(f g:List Lay)(t:Nat)(f':List Lay)(many':Int)(g':List Lay)(tn:Int)
def Q6(i:Nat):Bool:=l.any λy=>y.piece==(i:Int)
def QD(i:Nat)(_:Nat):Int:=cond (Q6 l i) 1 0
def rwY(id:Nat)(l:List Lay):Nat×Blk:=(id,.rowz true 49 kB l.length λi=>QA.enc (l.getD i ⟨0,0⟩))
def rwU(id:Nat)(d:Puz)(u:Nat->Nat->Int):Nat×Blk:=(id,.rowz true 4 [.bool] d.ps.n u)
def YB:List AV:=[.agg (KS d),.ptr 96 0 0,.ptr 104 0 0,.ptr 112 0 0,.ptr 120 0 0,.int true .i64 0,.ptr 200 0 0,.tup [],.tup [.ptr 200 0 0,.int true .i64 0],.agg (KS d),.tup [.ptr 200 0 0,.int true .i64 0],.ptr 200 0 0,.int true .i64 0,.int true .i64 0,.bool true false,.tup [],.ptr 200 0 0,.fn (.func 102) [.ptr 288 0 0,.ptr 296 0 0],.tup [],.tup [],.tup [],.tup [],.tup [],.tup [],.tup [],.tup [],.tup [],.tup [],.tup [],.tup [],.tup [],.tup [],.tup [],.tup [],.tup [],.tup [],.tup []]
def QGV:List AV:=[.ptr 288 0 0,.ptr 336 0 0,.ptr 400 0 0,.ptr 296 0 0,.ptr 416 0 0]
def QFX:List (Nat×Blk):=
 [(416,.cellsR 0 31 [.fn (.func 103) QGV]),(336,.cellsR 0 105 [.yld 329]),(296,.cellsR 0 96 [.nils]),(288,.cellsR 0 90 [.ptr 200 0 0]),(96,.cellsR 0 28 (KS d))]++Qi.blk 0 d.ps
def X5(ls:LoopState)(pe:Option Code)(d:Puz)(E:ECt)(ac body:Code)(u:Nat->Nat->Int)(l:List Lay)(a b c w:Nat)(many:Int)(f g:List Lay):List (Nat×Blk):=
 [(200,.cells 0 152 (KS d++[.map 201,.slz a 0 l.length (.of 0)])),(201,.mp E.1 E.2),rwY a l,(400,.cells 0 114 [.slz w 0 d.ps.n (.of 0)]),rwU w d u,(329,.lp ls pe (YB d) #[18] ac body),(120,.cells 0 3 [vi many]),(104,.cells 0 42 [.slz b 0 f.length (.of 0)]),rwY b f,(112,.cells 0 42 [.slz c 0 g.length (.of 0)]),rwY c g]
def QTP:List (Nat×AV):=[(0,.ptr 288 0 0),(1,.ptr 336 0 0),(2,.ptr 400 0 0),(3,.ptr 296 0 0),(4,.ptr 416 0 0)]
def HZ(l:List Lay)(many:Int)(f g:List Lay):JSt:=⟨5,QTP,X5 .ready none d E ac body u l 432 440 448 456 many f g++QFX d,464⟩
def VJ(l:List Lay)(many:Int)(f g:List Lay)(many':Int)(f' g':List Lay):UC:=
 ⟨424,HZ d E ac body u l many f g,λ_=>.bool false true,λm=>X5 .ready none d E ac body u l m (m+1) (m+2) (m+3) many' f' g'⟩
def Xa(l:List Lay)(many:Int)(f g:List Lay)(many':Int)(f' g':List Lay):UC:=
 ⟨424,HZ d E ac body u l many f g,λ_=>.bool false false,λm=>X5 .done (some (.exit 0)) d E ac body u l m (m+1) (m+2) (m+3) many' f' g'⟩
def Ze:List Nat:=[200,201,400,329,120,104,112]
def QHA(n:Nat)(p:Nat):List (Nat×AV):=QTP++[(33,.int false .i64 n),(34,.int false .i64 p)]
def QZx(n:Nat)(p:Nat)(tn:Int)(t:Nat):List (Nat×AV):=QHA n p++[(6,.int false .i64 p),(43,.int false .i64 tn),(44,.int false .i64 t)]
def Gf(l:List Lay)(many:Int)(f g:List Lay)(p:Nat):JSt:=⟨101,QHA d.ps.n p,X5 .ready none d E ac body u l 472 480 488 496 many f g++QFX d,504⟩
def HW(l:List Lay)(many:Int)(f g:List Lay)(p:Nat)(tn:Int)(t:Nat):JSt:=⟨101,QZx d.ps.n p tn t,X5 .ready none d E ac body u l 472 480 488 496 many f g++QFX d,504⟩
def zl(l:List Lay)(many:Int)(f g:List Lay):JSt:=⟨101,[],X5 .ready none d E ac body u l 472 480 488 496 many f g,504⟩
def QBN(l:List Lay)(many:Int)(f g:List Lay)(p:Nat):JSt:=⟨101,QHA d.ps.n p,X5 .ready none d E ac body u l 472 480 488 496 many f g++QFX d,504⟩
def soF(l:List Lay)(many:Int)(f g:List Lay):JSt:=⟨101,[(5,.bool false false)],X5 .done (some (.exit 0)) d E ac body u l 472 480 488 496 many f g,504⟩
def QLd:Ex->List Nat
 | .normal=>[0,1,2,3,4,33,34]
 | .exit _=>[]
 | .ret=>[5]
def QIx:Ex->List Nat
 | .normal=>[0,1,2,3,4,33,34,6,43,44]
 | .exit _=>[0,1,2,3,4,33,34]
 | .ret=>[5]
def QB8(pb1 pb2:List Prop->Bool)(d:Puz)(E:ECt)(l:List Lay)(x:Lay)(v:Bool)(U:UC):Tab:=Qa (Qa QT 105 (KM pb1 (myU d E l x v))) 103 (KM pb2 U)
noncomputable abbrev waJ:List AV:=[.ptr 288 0 0,.ptr 336 0 0,.ptr 400 0 0,.ptr 296 0 0,.ptr 416 0 0]
noncomputable abbrev wbp(d:Puz)(p:Nat):List AV:=[vi (d.ps.n:Int),vi (p:Int),vi (p:Int)]
noncomputable abbrev GV:List AV:=
  (.nilp::.ptr 101 0 0::List.append (waJ) ((List.append (wbp d p) ([.int false .i64 tn,vi (i64.wrap ((t:Int)+1))]))))
noncomputable abbrev QFh(d:Puz):Nat×Blk:=
  (329,.lp LoopState.ready none (YB d) (Array.mk [18]) ac body)
noncomputable abbrev vJ:Nat×Blk:=
  (288,.cellsR 0 90 [.ptr 200 0 0])
noncomputable abbrev QFY:Nat×Blk:=
  (416,.cellsR 0 31 [.fn (Fn.func 103) (waJ)])
noncomputable abbrev vG:Nat×Blk:=
  (0,.frz (wae) d.ps.n λi=>QA.enc (d.ps.get i))
noncomputable abbrev vV:Nat×Blk:=
  (96,.cellsR 0 28 (waf d))
noncomputable abbrev waT:List (Nat×Blk):=[(336,.cellsR 0 105 [.yld 329]),(296,.cellsR 0 96 [.nils])]
noncomputable abbrev qU(d:Puz)(f:List Lay)(g:List Lay)(l:List Lay)(many:Int)(u:Nat->Nat->Int):List (Nat×Blk):=
  ((200,.cells 0 152 (List.append (waf d) ([.map 201,.slz 472 0 l.length cO])))::(201,.mp E.1 E.2)::(400,.cells 0 114 [.slz
  496 0 d.ps.n cO])::(QFh ac body d)::(120,.cells 0 3 [vi many])::(104,.cells 0 42 [.slz 480 0 f.length cO])::(112,.cells 0 42 [.slz 488 0 g.length
  cO])::vJ::List.append (waT) ([QFY,(vG d),(472,.rowz true 49 kB l.length λi=>QA.enc (l.getD i
  (Lay.mk (0:Int) (0:Int)))),(496,.rowz true 4 [CK.bool] d.ps.n u),(vV d),(480,.rowz true 49 kB f.length λi=>QA.enc (f.getD i (Lay.mk (0:Int)
  (0:Int)))),(488,.rowz true 49 kB g.length λi=>QA.enc (g.getD i (Lay.mk (0:Int) (0:Int))))]))
abbrev wag(l:List Lay):List Prop:=[l.length<=l.length,QB 2 l.length (λi=>QA.enc (l.getD i (Lay.mk (0:Int) (0:Int)))) λi=>QA.enc (l.getD i (Lay.mk (0:Int) (0:Int)))]
abbrev QQi(d:Puz)(l:List Lay)(p:Nat)(t:Nat):List Prop:=
  ([0=0,0=0,(p:Int)=(p:Int),(t:Int)=(t:Int)]++waa d++(([cO=cO,0=0,l.length=l.length,cO
  = cO]++wag l++[E.1=E.1,E.2=E.2])++wad d))
abbrev wai:List Prop:=[LoopState.ready=LoopState.ready,(none:Option Code)=none]
abbrev waI(f:List Lay):List Prop:=[f.length<=f.length,QB 2 f.length (λi=>QA.enc (f.getD i (Lay.mk (0:Int) (0:Int)))) λi=>QA.enc (f.getD i (Lay.mk (0:Int) (0:Int)))]
abbrev wbo(d:Puz):List Prop:=[0=0,d.ps.n=d.ps.n,cO=cO,d.ps.n<=d.ps.n]
abbrev wbE:List Prop:=[0=0,0=0,(0:Int)=0,0=0,0=0,(0:Int)=0,(0:Int)=0,false=false,0=0,0=0]
abbrev wbK:List Prop:=[0=0,0=0,0=0,0=0,0=0,0=0,0=0,0=0,0=0,0=0]
abbrev wbV:List Prop:=[Fn.func 102=Fn.func 102,0=0,0=0,0=0,0=0]
abbrev wbX:List Prop:=[0=0,0=0,0=0,0=0,0=0,0=0,0=0,0 =
  0,(0:Int)=0,0=0,0=0,0=0,0=0,(0:Int)=0]
abbrev QPw(d:Puz)(f:List Lay)(g:List Lay)(l:List Lay)(l2:List Lay)(many:Int)(p:Nat)(t:Nat)(u:Nat->Nat->Int)(u2:Nat->Nat->Int):List Prop:=
  ((wbK)++waa d++(([cO=cO,0=0,l.length+1=l2.length,cO=cO,E.1=E.1,E.2=E.2,l2.length<=l.length+1,QB 2 l2.length (KT l.length (λi=>QA.enc (l.getD i (Lay.mk (0:Int) (0:Int)))) (Ke [[.int
  false .i64 (p:Int),vi (t:Int)]] 0)) λi=>QA.enc (l2.getD i (Lay.mk (0:Int) (0:Int)))]++wbo d++[QB 1 d.ps.n (λi=>bif decide (i=p)then Ki [.bool true true] 0 (u ((p:Int).toNat+0))else u i) u2])++wai++[Array.mk [18]=Array.mk [18],ac=ac,body=body])++waa d++([cO=cO]++wbX)++waa d++(([cO=cO]++wbE++(wbV++[many=many,0=0,f.length=f.length,cO=Cap.of
  0]))++waI f++([0=0,g.length =
  g.length,cO=cO,g.length<=g.length,QB 2 g.length (λi=>QA.enc (g.getD i (Lay.mk (0:Int) (0:Int)))) λi=>QA.enc (g.getD i (Lay.mk (0:Int) (0 :
  Int))),Fn.func 103=Fn.func 103]++wbK++[0=0,0=0]))++waa d++([cO =
  cO]++wad d))
noncomputable abbrev GX:Nat×Blk:=
  (200,.cells 0 152 (List.append (waf d) ([.map 201,.slz 816 0 (i64.wrap ((l2.length:Int)-1)).toNat cO])))
noncomputable abbrev zp:Nat×Blk:=
  (400,.cells 0 114 [.slz 819 0 d.ps.n cO])
noncomputable abbrev ze:Nat×Blk:=
  (120,.cells 0 3 [vi many'])
noncomputable abbrev GS:Nat×Blk:=
  (104,.cells 0 42 [.slz 817 0 f'.length cO])
noncomputable abbrev GL:Nat×Blk:=
  (112,.cells 0 42 [.slz 818 0 g'.length cO])
noncomputable abbrev HF:Nat×Blk:=
  (816,.rowz true 49 kB l2.length λi=>QA.enc (l2.getD i (Lay.mk (0:Int) (0:Int))))
noncomputable abbrev Hg:Nat×Blk:=
  (819,.rowz true 4 [CK.bool] d.ps.n λi=>bif decide (i=p)then Ki [.bool true false] 0 (u2 ((p:Int).toNat+0))else u2 i)
noncomputable abbrev GR:Nat×Blk:=
  (817,.rowz true 49 kB f'.length λi=>QA.enc (f'.getD i (Lay.mk (0:Int) (0:Int))))
noncomputable abbrev GG:Nat×Blk:=
  (818,.rowz true 49 kB g'.length λi=>QA.enc (g'.getD i (Lay.mk (0:Int) (0:Int))))
noncomputable abbrev QP2:List AV:=
  (.ptr 2 0 0::.ptr 101 0 0::List.append (waJ) ([vi (d.ps.n:Int),vi (p:Int)]))
noncomputable abbrev wbI:List AV:=[.nili,.ptr 101 0 0,.bool true false]
theorem QWu(pb1 pb2:List Prop->Bool)(d:Puz)(E:ECt)(ac body:Code)(u u2:Nat->Nat->Int)(l l2:List Lay)(v:Bool)(many:Int)(f g:List Lay)(p:Nat)(tn:Int)(t:Nat)(many':Int)(f' g':List Lay)(g0:Nat->Value):exec (mkE prog (QB8 pb1 pb2 d E l ⟨p,t⟩ v (VJ d E ac body u2 l2 many f g many' f' g'))) (hnd (mkE prog (QB8 pb1 pb2 d E l ⟨p,t⟩ v (VJ d E ac body u2 l2 many f g many' f' g'))) 0) (QU (QH f103 0)) (JSt.inst (HW d E ac body u l many f g p tn t) g0) (Q9 Ze QIx) = .br (decide ((t:Int)<tn)) (.need (true) (.br (!Qx (Rw.mk 0 λi=>Pt.mk (0:Int) (Lay.mk (0:Int) (0:Int))) (l.length:Int) (Lay.mk (p:Int) (t:Int))) (.leaf (.tup (GV d p t tn)) ((qU E ac body d f g l many u))) (.need (pb1 ((QQi E d l p t))) (.br (!v) (.leaf (.tup (GV d p t tn)) ((qU E ac body d f g l many u))) (.need (decide ((0:Int)<=(p:Int)/\(p:Int)<(d.ps.n:Int))&&decide (d.ps.n<=d.ps.n)) (.need (decide (p<d.ps.n)) (.need (decide (l.length<=l.length)&&(true&&decide ((l.length+1+(l.length+1) / 4+192)*16<=281474976710656/\l.length+1<=9223372036854775807))) (.need (pb2 ((QPw E ac body d f g l l2 many p t u u2))) (.need (decide ((0:Int)<=i64.wrap ((l2.length:Int)-1)/\(i64.wrap ((l2.length:Int)-1)).toNat<=l2.length-0)) (.need (decide ((0:Int)<=(p:Int)/\(p:Int)<(d.ps.n:Int))&&decide (d.ps.n<=d.ps.n)) (.need (decide (p<d.ps.n)) (.br (false) (.leaf (.tup (wbI)) ([(GX d l2),(201,.mp E.1 E.2),(zp d),(QFh ac body d),(ze many'),(GS f'),(GL g'), (vG d),(HF l2),(Hg d p u2),(vV d),vJ,(296,.cellsR 0 96 [.nils]),(GR f'),(GG g')])) (.leaf (.tup (GV d p t tn)) (((GX d l2)::(201,.mp E.1 E.2)::(zp d)::(QFh ac body d)::(ze many')::(GS f')::(GL g')::vJ::List.append (waT) ([QFY,(vG d),(HF l2),(Hg d p u2),(vV d),(GR f'),(GG g')])))))))))))))))) (.leaf (.tup (QP2 d p)) ((qU E ac body d f g l many u))):=by kernel_rfl
noncomputable abbrev QLN:List AV:=
  (List.append (waJ) ((List.append (wbp d p) ([vi tn,.int
  false .i64 (i64.wrap ((t:Int)+1))]))))
abbrev wat(g:List Lay):List Prop:=[g.length<=g.length,QB 2 g.length (λi=>QA.enc (g.getD i (Lay.mk (0:Int) (0:Int)))) λi=>QA.enc (g.getD i (Lay.mk (0:Int) (0:Int)))]
abbrev wbM(d:Puz)(p:Nat):List Prop:=[(d.ps.n:Int)=(d.ps.n:Int),(p:Int)=(p:Int)]
abbrev waF(d:Puz)(p:Nat):List Prop:=(wbM d p++[(p:Int)=(p:Int)])
abbrev wbL(E:ECt)(l:List Lay):List Prop:=[l.length=l.length,cO=cO,E.1=E.1,E.2=E.2]
abbrev wbO:List Prop:=[Fn.func
  (102:FuncId)=Fn.func (102:FuncId),0=0,0=0,0=0,0=0]
abbrev QVf(d:Puz)(f:List Lay)(g:List Lay)(l:List Lay)(many:Int)(p:Nat)(t:Nat)(t':Nat)(tn:Int)(u:Nat->Nat->Int):List Prop:=
  (((wbK)++waF d p++[tn=tn,i64.wrap ((t :
  Int)+1)=(t':Int)])++waa d++(([cO=cO,0=0]++wbL E l)++wag l++((wbo d++[QB 1 d.ps.n u u])++wai++[Array.mk [18]=Array.mk [(18:Tmp)],ac=ac,body=body]))++waa d++([cO=cO]++wbX)++waa d++(([cO=cO]++wbE++(wbO++[many=many,0=0,f.length=f.length,cO=cO,f.length<=f.length,QB 2 f.length (λi=>
  QA.enc (f.getD i (Lay.mk (0:Int) (0:Int)))) λi=>QA.enc (f.getD i (Lay.mk (0:Int) (0:Int))),0=0,g.length=g.length,cO=cO]))++wat g++([Fn.func 103=Fn.func (103:FuncId)]++wbK++[0=0,0=0]))++waa d++([cO=cO]++wad d))
theorem QQx(l:List Lay)(many:Int)(f g:List Lay)(p:Nat)(tn:Int)(t t':Nat):QF 464 (QLN d p t tn) ((qU E ac body d f g l many u)) (HW d E ac body u l many f g p tn t')=(some (QVf E ac body d f g l many p t t' tn u)):=by kernel_rfl
abbrev Z7:List Prop:=
  [0=0,0=0,0=0,0=0,0=0,0=0]
abbrev zM:List Prop:=
  [0=0,0=0,0=0,0=0]
abbrev Yq:List Prop:=
  ([d.pK.aK=d.pK.aK]++waC d++[0 =
  0,d.ps.n=d.ps.n,cO=cO])
abbrev waO(E:ECt)(l:List Lay)(l2:List Lay):List Prop:=[E.1=E.1,E.2=E.2,l.length<=l2.length,QB 2 l.length (λi=>QA.enc (l2.getD i
  (Lay.mk (0:Int) (0:Int)))) λi=>QA.enc (l.getD i (Lay.mk (0:Int) (0:Int)))]
abbrev QRG(d:Puz)(l:List Lay)(l2:List Lay)(p:Nat)(u2:Nat->Nat->Int)(u3:Nat->Nat->Int):List Prop:=
  ([0=0,(i64.wrap ((l2.length:Int)-1)).toNat=l.length,cO=cO]++waO E l l2++(wbo d++[QB 1 d.ps.n (λi=>bif
  decide (i=p)then Ki [.bool true false] 0 (u2 ((p:Int).toNat+0))else u2 i) u3]))
abbrev wbW(g':List Lay):List Prop:=[g'.length=g'.length,cO=cO,g'.length<=g'.length,QB 2 g'.length (λi=>QA.enc (g'.getD i (Lay.mk (0:Int) (0 :
  Int)))) λi=>QA.enc (g'.getD i (Lay.mk (0:Int) (0:Int)))]
abbrev QTW(many':Int):List Prop:=
  ([(0:Int)=0,0=0,0=0,(0:Int)=0,(0:Int)=0,false=false,0=0,0=0]++wbO++([many'=many',0=0,f'.length=f'.length,cO=cO,f'.length<=f'.length,QB 2 f'.length (λi=>QA.enc (f'.getD i (Lay.mk (0:Int) (0:Int)))) λi=>QA.enc (f'.getD
  i (Lay.mk (0:Int) (0:Int))),0=0]++wbW g'))
theorem Qi0(u u2 u3:Nat->Nat->Int)(l l2:List Lay)(p:Nat)(tn:Int)(t t':Nat)(many':Int)(f' g':List Lay):QF 464 (QLN d p t tn) (((GX d l2)::(201,.mp E.1 E.2)::(zp d)::(QFh ac body d)::(ze many')::(GS f')::(GL g')::vJ::List.append (waT) ([QFY,(vG d),(HF l2),(Hg d p u2),(vV d),(GR f'),(GG g')]))) (HW d E ac body u3 l many' f' g' p tn t')=(some (Z7++zM++(waF d p++[tn=tn,i64.wrap ((t:Int)+1)=(t':Int),d.pK.length=d.pK.length])++(Yq d)++(QRG E d l l2 p u2 u3)++(wai++[Array.mk [18]=Array.mk [(18:Tmp)],ac=ac,body=body,d.pK.length=d.pK.length]) ++ (Yq d)++Z7++[0=0,0=0,(0:Int)=0]++zM++[(0:Int)=0,d.pK.length=d.pK.length]++(Yq d)++[0=0,0=0]++(QTW f' g' many')++[Fn.func 103=Fn.func (103:FuncId)]++Z7++Z7++[d.pK.length=d.pK.length]++(Yq d)++(wad d))):=by kernel_rfl
theorem QSI(l:List Lay)(many:Int)(f g:List Lay)(p:Nat):QF 464 (List.append (waJ) ([vi (d.ps.n:Int),vi (p:Int)])) ((qU E ac body d f g l many u)) (QBN d E ac body u l many f g p)=(some (Z7++zM++(wbM d p++[d.pK.length=d.pK.length])++(Yq d)++(([0=0]++wbL E l)++wag l++((wbo d++[QB 1 d.ps.n u u])++wai++[Array.mk [18]=Array.mk [(18:Tmp)],ac=ac,body=body,d.pK.length=d.pK.length]))++(Yq d)++Z7++[0=0,0=0,(0:Int)=0]++zM++[(0:Int)=0, d.pK.length=d.pK.length]++(Yq d)++(wbE++[Fn.func (102:FuncId)=Fn.func (102:FuncId)])++zM++(([many=many,0=0,f.length=f.length,cO=cO]++waI f++[0=0,g.length=g.length,cO=cO])++wat g++[Fn.func 103=Fn.func (103:FuncId)])++Z7++Z7 ++ [d.pK.length=d.pK.length]++(Yq d)++(wad d))):=by kernel_rfl
theorem QZF(pb1 pb2:List Prop->Bool)(d:Puz)(E:ECt)(ac body:Code)(u u2:Nat->Nat->Int)(l l2:List Lay)(v:Bool)(many:Int)(f g:List Lay)(p:Nat)(tn:Int)(t:Nat)(many':Int)(f' g':List Lay)(g0:Nat->Value):exec (mkE prog (QB8 pb1 pb2 d E l ⟨p,t⟩ v (Xa d E ac body u2 l2 many f g many' f' g'))) (hnd (mkE prog (QB8 pb1 pb2 d E l ⟨p,t⟩ v (Xa d E ac body u2 l2 many f g many' f' g'))) 0) (QU (QH f103 0)) (JSt.inst (HW d E ac body u l many f g p tn t) g0) (Q9 Ze QIx) = .br (decide ((t:Int)<tn)) (.need (true) (.br (!Qx (Rw.mk 0 λi=>Pt.mk (0:Int) (Lay.mk (0:Int) (0:Int))) (l.length:Int) (Lay.mk (p:Int) (t:Int))) (.leaf (.tup (GV d p t tn)) ((qU E ac body d f g l many u))) (.need (pb1 ((QQi E d l p t))) (.br (!v) (.leaf (.tup (GV d p t tn)) ((qU E ac body d f g l many u))) (.need (decide ((0:Int)<=(p:Int)/\(p:Int)<(d.ps.n:Int))&&decide (d.ps.n<=d.ps.n)) (.need (decide (p<d.ps.n)) (.need (decide (l.length<=l.length)&&(true&&decide ((l.length+1+(l.length+1) / 4+192)*16<=281474976710656/\l.length+1<=9223372036854775807))) (.need (pb2 ((QPw E ac body d f g l l2 many p t u u2))) (.need (decide ((0:Int)<=i64.wrap ((l2.length:Int)-1)/\(i64.wrap ((l2.length:Int)-1)).toNat<=l2.length-0)) (.need (decide ((0:Int)<=(p:Int)/\(p:Int)<(d.ps.n:Int))&&decide (d.ps.n<=d.ps.n)) (.need (decide (p<d.ps.n)) (.br (true) (.leaf (.tup (wbI)) ([(GX d l2),(201,.mp E.1 E.2),(zp d),(329,.lp LoopState.done (some (Code.exit 0)) (YB d) (Array.mk [18]) ac body),(ze many'),(GS f'),(GL g'),(vG d),(HF l2),(Hg d p u2),(vV d),vJ,(296,.cellsR 0 96 [.nils]),(GR f'),(GG g')])) (.leaf (.tup (GV d p t tn)) (((GX d l2)::(201,.mp E.1 E.2)::(zp d)::(329,.lp LoopState.done (some (Code.exit 0)) (YB d) (Array.mk [18]) ac body)::(ze many')::(GS f')::(GL g')::vJ::List.append (waT) ([QFY,(vG d),(HF l2),(Hg d p u2),(vV d),(GR f'),(GG g')])))))))))))))))) (.leaf (.tup (QP2 d p)) ((qU E ac body d f g l many u))):=by kernel_rfl
abbrev waR:List Prop:=[LoopState.done=LoopState.done,some (Code.exit 0)=some (Code.exit 0)]
theorem QfN(u2 u3:Nat->Nat->Int)(l l2:List Lay)(p:Nat)(many':Int)(f' g':List Lay):QF 464 [.bool true false] ([(GX d l2),(201,.mp E.1 E.2),(zp d),(329,.lp LoopState.done (some (Code.exit 0)) (YB d) (Array.mk [18]) ac body),(ze many'),(GS f'), (GL g'),(vG d),(HF l2),(Hg d p u2),(vV d),vJ,(296,.cellsR 0 96 [.nils]),(GR f'),(GG g')]) (soF d E ac body u3 l many' f' g')=(some ([false=false, d.pK.length=d.pK.length]++(Yq d)++(QRG E d l l2 p u2 u3)++(waR++[Array.mk [18]=Array.mk [(18:Tmp)],ac=ac,body=body,d.pK.length=d.pK.length])++(Yq d)++Z7++[0=0,0=0,(0:Int)=0]++zM++[(0:Int)=0,d.pK.length=d.pK.length] ++ (Yq d)++[0=0,0=0]++(QTW f' g' many'))):=by kernel_rfl
def clU:UC:=⟨0,⟨1,[(0,.slz 5 0 l.length (.of 0))],[QAa 5 l],8⟩,λm=>.slz m 0 l.length (.of 0),λm=>[rwY m l]⟩
theorem QiB:VS (mkE prog QT) (hnd (mkE prog QT) 1) f68 (clU l)=QC.need (decide ((0:Nat)<l.length/\l.length<=l.length)) (QC.need (true&&(decide (l.length<=l.length)&&decide (((0:Nat)+l.length+((0:Nat)+l.length) / (4:Nat)+(192:Nat))*(16:Nat)<=(281474976710656:Nat)/\(0:Nat)+l.length<=(9223372036854775807:Nat)))) (QC.leaf (AV.slz (48:Nat) (0:Nat) ((0:Nat)+l.length) cO) ([((48:Nat),Blk.rowz true (49:Nat) [CK.int i64,CK.int i64] ((0:Nat)+l.length) (KT (0:Nat) (λx x_1=>(0:Int)) λi=>QA.enc (l.getD i (Lay.mk (0:Int) (0:Int)))))]))):=by kernel_rfl
theorem QcT(l l':List Lay):QF 8 [(AV.slz (48:Nat) (0:Nat) ((0:Nat)+l.length) cO)] ([((48:Nat),Blk.rowz true (49:Nat) [CK.int i64,CK.int i64] ((0:Nat)+l.length) (KT (0:Nat) (λx x_1=>(0:Int)) λi=>QA.enc (l.getD i (Lay.mk (0:Int) (0:Int)))))]) (Kf (clU l'))=( some [0=0,(0:Nat)+l.length=l'.length,cO=cO,l'.length<=(0:Nat)+l.length,QB (2:Nat) l'.length (KT (0:Nat) (λx x_1=>(0:Int)) λi=>QA.enc (l.getD i (Lay.mk (0:Int) (0:Int)))) λi=>QA.enc (l'.getD i (Lay.mk (0:Int) (0:Int)))]):=by kernel_rfl
theorem QKc(m n:Nat)(f g:Nat->Nat->Int):QB m n (KT 0 f g) g:=by
 intro i hi;have:KT 0 f g i=g i:=by funext j;rw[Yh,if_neg (Nat.not_lt_zero i),Nat.sub_zero]
 rw[this];exact QFO _ _ _
theorem Qes:(clU l).Ok:=by
 refine⟨(by decide:0<=8),rfl,rfl,?_,rfl,λnid h=>?_,λnid h=>?_⟩
 .intro q hq;simp only[UC.po,clU,rwY,List.mem_cons,List.not_mem_nil,or_false]at hq;subst hq;exact⟨rfl,rfl,rfl,λh=>absurd (show 8<0 from h) (by decide)⟩
 .have e0:=Kp 0 8 0 nid (by decide)
  simp only[UC.va,clU,AV.mapId,Nat.add_zero]at e0 ⊢;rw[e0]
 .have e0:=Kp 0 8 0 nid (by decide)
  simp only[UC.po,clU,rwY,List.map_cons,List.map_nil,Blk.mapId,Nat.add_zero]at e0 ⊢;rw[e0]
theorem QQQ(hp:0<l.length)(hl:l.length<=1000):QR prog 68 (uFC (clU l)):=by
 refine K7 (c:=Qk f68) (E:=mkE prog QT) (QO Qh) func68 (by kernel_rfl) (by kernel_rfl) (Qes l) (λG h1 _=>Qv (QO Qh) 1 G _ h1) ⟨?_⟩
 refine Qf (QiB l) ?_;refine QG (by simp;omega) (QG (by simp;omega) ⟨rfl,rfl,_,QcT l l,?_⟩)
 repeat' first|with_reducible refine QL ?_ ?_|exact tv|exact Nat.zero_add _|exact QKc _ _ _ _|omega|refine aI ?_ ?_
def Ww(n:Nat)(a:Int):Tab:=Qa QT 52 (KM pb (tnU d n a))
abbrev QCt(P:Program)(pb:List Prop->Bool)(d:Puz)(E:ECt)(ac body:Code)(u:Nat->Nat->Int)(l:List Lay)(many:Int)(f g:List Lay)(p:Nat)(X:List (Prop×Ex×JSt)):Hnd:={ hnd (mkE P (Ww pb d l.length p)) 0 with loop:=λ_=>JT (p<d.ps.n/\u p 0=0) (KC 464 Ze (HW d E ac body u l many f g p (tnV d p) (0:Nat)) X) }
noncomputable abbrev QQJ:List AV:=
  (.nilp::.ptr 101 0 0::List.append (waJ) ([vi (d.ps.n:Int),vi (i64.wrap ((p:Int)+1))]))
noncomputable abbrev YI:Nat×Blk:=
  (200,.cells 0 152 (List.append (waf d) ([.map 201,.slz 472 0 l.length cO])))
noncomputable abbrev X0:Nat×Blk:=
  (400,.cells 0 114 [.slz 496 0 d.ps.n cO])
noncomputable abbrev zW(d:Puz):Nat×Blk:=
  (329,.lp LoopState.ready none (YB d) (Array.mk [18]) ac body)
noncomputable abbrev QDq:Nat×Blk:=
  (120,.cells 0 3 [vi many])
noncomputable abbrev QCy:Nat×Blk:=
  (104,.cells 0 42 [.slz 480 0 f.length cO])
noncomputable abbrev QEs:Nat×Blk:=
  (112,.cells 0 42 [.slz 488 0 g.length cO])
noncomputable abbrev Jb:Nat×Blk:=
  (288,.cellsR 0 90 [.ptr 200 0 0])
noncomputable abbrev QEF:Nat×Blk:=
  (416,.cellsR 0 31 [.fn (Fn.func 103) (waJ)])
noncomputable abbrev Ji:Nat×Blk:=
  (0,.frz (wae) d.ps.n λi=>QA.enc (d.ps.get i))
noncomputable abbrev Xy:Nat×Blk:=
  (472,.rowz true 49 kB l.length λi=>QA.enc (l.getD i (Lay.mk (0:Int) (0:Int))))
noncomputable abbrev Jc:Nat×Blk:=
  (96,.cellsR 0 28 (waf d))
noncomputable abbrev QDt:Nat×Blk:=
  (480,.rowz true 49 kB f.length λi=>QA.enc (f.getD i (Lay.mk (0:Int) (0:Int))))
noncomputable abbrev QCE:Nat×Blk:=
  (488,.rowz true 49 kB g.length λi=>QA.enc (g.getD i (Lay.mk (0:Int) (0:Int))))
noncomputable abbrev qw:Nat×Blk:=
  (120,.cells 0 3 [vi many'])
noncomputable abbrev qH:Nat×Blk:=
  (104,.cells 0 42 [.slz 480 0 f'.length cO])
noncomputable abbrev qa:Nat×Blk:=
  (112,.cells 0 42 [.slz 488 0 g'.length cO])
noncomputable abbrev qc:Nat×Blk:=
  (480,.rowz true 49 kB f'.length λi=>QA.enc (f'.getD i (Lay.mk (0:Int) (0:Int))))
noncomputable abbrev Wi:Nat×Blk:=
  (488,.rowz true 49 kB g'.length λi=>QA.enc (g'.getD i (Lay.mk (0:Int) (0:Int))))
theorem QKh(u u':Nat->Nat->Int)(l:List Lay)(many:Int)(f g:List Lay)(p:Nat)(A B:Prop)(many':Int)(f' g':List Lay)(g0:Nat->Value):exec (mkE prog (Ww pb d l.length p)) (QCt prog pb d E ac body u l many f g p [(A,.exit 2,QBN d E ac body u' l many' f' g' p),(B,.ret,soF d E ac body u' l many' f' g')]) (QH f103 0) (JSt.inst (Gf d E ac body u l many f g p) g0) (Q9 Ze QLd) = .br (decide ((p:Int)<(d.ps.n:Int))) (.need (decide ((0:Int)<=(p:Int)/\(p:Int)<(d.ps.n:Int))&&decide (d.ps.n<=d.ps.n)) (.need (decide (p<d.ps.n)) (.br (decide (u ((p:Int).toNat+0) 0=1)) (.leaf (.tup (QQJ d p)) (((YI d l)::(201,.mp E.1 E.2)::(X0 d)::(zW ac body d)::(QDq many)::(QCy f)::(QEs g)::Jb::List.append (waT) ([QEF,(Ji d),(Xy l),(496, .rowz true 4 [CK.bool] d.ps.n u),(Jc d),(QDt f),(QCE g)])))) (.need (pb (([0=0,0=0,(p:Int)=(p:Int)]++waa d++([cO=cO,0=0,l.length=l.length,cO=cO]++wad d)))) (.ak [p<d.ps.n/\u p 0=0] (.ak (rz 10) (.ak ((waF d p++[tnV d (p:Int)=tnV d (p:Int),(0:Int)=0])++waa d++(([cO=cO,0=0]++wbL E l)++wag l++((wbo d++[QB 1 d.ps.n u u])++wai++[Array.mk [(18:Tmp)]=Array.mk [(18:Tmp)],ac=ac,body=body]))++waa d++[cO=cO]) (.ak (rz 8) (.ak ([(0:Int)=0,0=0,0=0,0=0,0=0,(0:Int)=0]++waa d++((([cO=cO]++wbE++(wbO++[many=many,0=0,f.length=f.length,cO=cO]))++waI f++[0=0,g.length=g.length,cO=cO])++wat g++[Fn.func (103:FuncId)=Fn.func (103:FuncId)])) (.ak (rz 12) (.ak (waa d++([cO=cO]++wad d)) (.both (.asm (A) (.all (λ(g0:Nat->Value)=>.leaf (.tup (QQJ d p)) (((YI d l)::(201,.mp E.1 E.2)::(X0 d)::(zW ac body d)::(qw many')::(qH f')::(qa g')::Jb::List.append (waT) ([QEF,(Ji d),(Xy l),(496,.rowz true 4 [CK.bool] d.ps.n u'),(Jc d),(qc f'),(Wi g')])))))) (.asm (B) (.all (λ(g1:Nat->Value)=>.leaf (.tup [.nili, .ptr 101 0 0,.bool false false]) ([(YI d l),(201,.mp E.1 E.2),(X0 d),(329,.lp LoopState.done (some (Code.exit 0)) (YB d) (Array.mk [18]) ac body),(qw many'),(qH f'),(qa g'),(Xy l),(496,.rowz true 4 [CK.bool] d.ps.n u'),(qc f'),(Wi g')])))))))))))))))) (.leaf (.tup [.ptr 0 0 0,.ptr 101 0 0]) ([(YI d l),(201,.mp E.1 E.2),(X0 d),(zW ac body d),(QDq many),(QCy f),(QEs g),(Ji d),(Xy l),(496,.rowz true 4 [CK.bool] d.ps.n u),(Jc d),Jb, (296,.cellsR 0 96 [.nils]),(QDt f),(QCE g)])):=by kernel_rfl
noncomputable abbrev QU3:List AV:=
  (List.append (waJ) ([vi (d.ps.n:Int),vi (i64.wrap ((p:Int)+1))]))
abbrev zO:List Prop:=
  [0=0,0=0,0=0,0=0,0=0,0=0]
abbrev ZG(d:Puz)(l:List Lay):List Prop:=
  (([d.pK.aK=d.pK.aK]++waC d++([0 =
  0,d.ps.n=d.ps.n,cO=cO,0=0]++wbL E l))++wag l++[0=0,d.ps.n=d.ps.n,cO=cO])
abbrev QJP:List Prop:=
  (wai++[Array.mk [18]=Array.mk [(18:Tmp)],ac=ac])
abbrev Xk:List Prop:=
  (waa d)
abbrev ZV:List Prop:=
  (([cO=cO]++wbX)++waa d++([cO=cO]++wbE++[Fn.func (102:FuncId)=Fn.func (102:FuncId),0
  = 0,0=0,0=0]))
abbrev QPm(many:Int):List Prop:=
  (([0=0,many=many,0=0,f.length=f.length,cO=cO]++waI f++[0=0,g.length=g.length,cO=cO])++wat g)
noncomputable abbrev wbq(d:Puz)(p:Nat)(p':Nat):List Prop:=[(d.ps.n:Int)=(d.ps.n:Int),i64.wrap ((p:Int)+1)=(p':Int),d.pK.length=d.pK.length]
theorem QTA(l:List Lay)(many:Int)(f g:List Lay)(p p':Nat):QF 464 (QU3 d p) (((YI d l)::(201,.mp E.1 E.2)::(X0 d)::(zW ac body d)::(QDq many)::(QCy f)::(QEs g)::Jb::List.append (waT) ([QEF,(Ji d),(Xy l),(496,.rowz true 4 [CK.bool] d.ps.n u),(Jc d),(QDt f),(QCE g)]))) (Gf d E ac body u l many f g p')=(some (zO++([0=0,0=0,0=0,0=0]++wbq d p p')++(ZG E d l)++[d.ps.n<=d.ps.n,QB 1 d.ps.n u u] ++ (QJP ac)++[body=body]++(Xk d)++(ZV d)++(QPm f g many)++[Fn.func 103=Fn.func (103:FuncId)]++zO++zO++(Xk d)++([cO=cO]++wad d))):=by kernel_rfl
abbrev QDI(many':Int):List Prop:=
  ([0=0,many'=many',0=0,f'.length=f'.length,cO=cO,f'.length<=f'.length,QB 2 f'.length (λi=>QA.enc (f'.getD i (Lay.mk (0:Int) (0:Int)))) fun
  i=>QA.enc (f'.getD i (Lay.mk (0:Int) (0:Int))),0=0]++wbW g')
theorem QVR(l:List Lay)(p p':Nat)(many':Int)(f' g':List Lay):QF 464 (QU3 d p) (((YI d l)::(201,.mp E.1 E.2)::(X0 d)::(zW ac body d)::(qw many')::(qH f')::(qa g')::Jb::List.append (waT) ([QEF,(Ji d),(Xy l),(496,.rowz true 4 [CK.bool] d.ps.n u'),(Jc d),(qc f'),(Wi g')]))) (Gf d E ac body u' l many' f' g' p')=(some (zO++([0=0,0=0,0=0,0=0]++wbq d p p')++(ZG E d l)++[d.ps.n<=d.ps.n,QB 1 d.ps.n u' u']++(QJP ac)++[body=body]++(Xk d)++(ZV d)++(QDI f' g' many')++[Fn.func 103=Fn.func (103:FuncId)]++zO++zO++(Xk d)++([cO=cO]++wad d))):=by kernel_rfl
theorem Qg9(l:List Lay)(many':Int)(f' g':List Lay):QF 464 [.bool false false] ([(YI d l),(201,.mp E.1 E.2),(X0 d),(329,.lp LoopState.done (some (Code.exit 0)) (YB d) (Array.mk [18]) ac body),(qw many'),(qH f'), (qa g'),(Xy l),(496,.rowz true 4 [CK.bool] d.ps.n u'),(qc f'),(Wi g')]) (soF d E ac body u' l many' f' g')=(some ([false=false,d.pK.length=d.pK.length] ++ (ZG E d l)++([d.ps.n<=d.ps.n,QB 1 d.ps.n u' u']++waR++[Array.mk [18]=Array.mk [(18:Tmp)],ac=ac,body=body])++(Xk d)++(ZV d)++(QDI f' g' many'))):=by kernel_rfl
theorem QLv(l:List Lay)(many:Int)(f g:List Lay):QF 464 [] ([(YI d l),(201,.mp E.1 E.2),(X0 d),(zW ac body d),(QDq many),(QCy f),(QEs g),(Ji d),(Xy l),(496,.rowz true 4 [CK.bool] d.ps.n u),(Jc d), Jb,(296,.cellsR 0 96 [.nils]),(QDt f),(QCE g)]) (zl d E ac body u l many f g)=(some ([d.pK.length=d.pK.length]++(ZG E d l)++[d.ps.n<=d.ps.n,QB 1 d.ps.n u u]++(QJP ac)++[body=body]++(Xk d)++(ZV d)++(QPm f g many))):=by kernel_rfl
def QN(fn:Func)(k:Nat):Code×Code:=match (K5 (Qk fn))[k]? with
 | some (.rangeFunc _ _ ac body)=>(ac,body)
 | _=>(.skip,.skip)
def QAT:Tab:=Qa QT 68 (KM pb (clU l))
abbrev soN(P : Program)(T : Tab): Hnd := { hnd (mkE P T) 2 with loop := λ_ _ _=>.fail "a loop" }
abbrev soX(P:Program)(J:JSt)(X:List (Prop×Ex×JSt)):Hnd:={ hnd (mkE P QT) 2 with loop:=λ_=>KC 464 Ze J X }
abbrev QTF:List Prop:=
  ([0=0,l.length=l.length,cO=cO]++wag l)
noncomputable abbrev Vb:Nat×Blk:=
  (200,.cells 0 152 (List.append (waf d) ([.map 201,.slz 432 0 l.length cO])))
noncomputable abbrev Vl:Nat×Blk:=
  (400,.cells 0 114 [.slz 456 0 d.ps.n cO])
noncomputable abbrev Z3:Nat×Blk:=
  (329,.lp LoopState.done (some (Code.exit 0)) (YB d) (Array.mk [18]) (QN f24 0).1 (QN f24 0).2)
noncomputable abbrev Vn:Nat×Blk:=
  (120,.cells 0 3 [vi (i64.wrap (many+1))])
noncomputable abbrev QIj:Nat×Blk:=
  (104,.cells 0 42 [.slz 672 0 l.length cO])
noncomputable abbrev Yo:Nat×Blk:=
  (112,.cells 0 42 [.slz 448 0 g.length cO])
noncomputable abbrev Vt:Nat×Blk:=
  (432,.rowz true 49 kB l.length λi=>QA.enc (l.getD i (Lay.mk (0:Int) (0:Int))))
noncomputable abbrev QJa:Nat×Blk:=
  (672,.rowz true 49 kB l.length λi=>QA.enc (l.getD i (Lay.mk (0:Int) (0:Int))))
noncomputable abbrev Ym:Nat×Blk:=
  (448,.rowz true 49 kB g.length λi=>QA.enc (g.getD i (Lay.mk (0:Int) (0:Int))))
noncomputable abbrev Yd:Nat×Blk:=
  (329,.lp LoopState.ready none (YB d) (Array.mk [18]) (QN f24 0).1 (QN f24 0).2)
noncomputable abbrev Yr:Nat×Blk:=
  (104,.cells 0 42 [.slz 440 0 f.length cO])
noncomputable abbrev QIN:Nat×Blk:=
  (112,.cells 0 42 [.slz 688 0 l.length cO])
noncomputable abbrev YY:Nat×Blk:=
  (440,.rowz true 49 kB f.length λi=>QA.enc (f.getD i (Lay.mk (0:Int) (0:Int))))
noncomputable abbrev QIE:Nat×Blk:=
  (688,.rowz true 49 kB l.length λi=>QA.enc (l.getD i (Lay.mk (0:Int) (0:Int))))
theorem QWG(l:List Lay)(many:Int)(f g:List Lay):(Vk (mkE prog (QAT pb l)) (soN prog (QAT pb l)) f103 QGV (HZ d E (QN f24 0).1 (QN f24 0).2 u l many f g).hp 464 λv h _=>Y9
  Ze v h) = .br ((l.length:Int)==(d.ps.n:Int)) (.br (i64.wrap (many+1)==1) (.need (pb ((QTF l))) (.br (i64.wrap (many+1)==100) (.leaf (.bool true
  false) ([(Vb d l),(201,.mp E.1 E.2),(Vl d),(Z3 d),(Vn many),(QIj l),(Yo g),(Ji d),(Vt l),(456,.rowz true 4 [CK.bool] d.ps.n u),(Jc d),Jb,(296,
  .cellsR 0 96 [.nils]),(QJa l),(Ym g)])) (.leaf (.bool true true) ([(Vb d l),(201,.mp E.1 E.2),(Vl d),(Yd d),(Vn many),(QIj l),(Yo g),(Ji d),(Vt l),
  (456,.rowz true 4 [CK.bool] d.ps.n u),(Jc d),Jb,(296,.cellsR 0 96 [.nils]),(QJa l),(Ym g)])))) (.br (i64.wrap (many+1)==2) (.need (pb ((QTF l))) (.br
  (i64.wrap (many+1)==100) (.leaf (.bool true false) ([(Vb d l),(201,.mp E.1 E.2),(Vl d),(Z3 d),(Vn many),(Yr f),(QIN l),(Ji d),(Vt l),(456,
  .rowz true 4 [CK.bool] d.ps.n u),(Jc d),Jb,(296,.cellsR 0 96 [.nils]),(YY f),(QIE l)])) (.leaf (.bool true true) ([(Vb d l),(201,.mp E.1 E.2),(Vl d),(Yd
  d),(Vn many),(Yr f),(QIN l),(Ji d),(Vt l),(456,.rowz true 4 [CK.bool] d.ps.n u),(Jc d),Jb,(296,.cellsR 0 96 [.nils]),(YY f),(QIE l)])))) (.br
  (i64.wrap (many+1)==100) (.leaf (.bool true false) ([(Vb d l),(201,.mp E.1 E.2),(Vl d),(Z3 d),(Vn many),(Yr f),(Yo g),(Ji d),(Vt l),(456,
  .rowz true 4 [CK.bool] d.ps.n u),(Jc d),Jb,(296,.cellsR 0 96 [.nils]),(YY f),(Ym g)])) (.leaf (.bool true true) ([(Vb d l),(201,.mp E.1 E.2),(Vl d),(Yd d),
  (Vn many),(Yr f),(Yo g),(Ji d),(Vt l),(456,.rowz true 4 [CK.bool] d.ps.n u),(Jc d),Jb,(296,.cellsR 0 96 [.nils]),(YY f),(Ym g)]))))) (.fail
  ("a loop")) := by kernel_rfl
noncomputable abbrev QPv:Nat×Blk:=
  (712,.rowz true 49 kB (0+l.length) (KT 0 (λx x_1=>(0:Int)) λi=>QA.enc (l.getD i (Lay.mk (0:Int) (0:Int)))))
noncomputable abbrev QKv:Nat×Blk:=
  (728,.rowz true 49 kB (0+l.length) (KT 0 (λx x_1=>(0:Int)) λi=>QA.enc (l.getD i (Lay.mk (0:Int) (0:Int)))))
abbrev wbz:List Prop:=[(QN f24 0).1=(QN f24 0).1,(QN f24 0).2=(QN f24 0).2]
theorem QNe(u u':Nat->Nat->Int)(l:List Lay)(many:Int)(f g:List Lay)(A B:Prop)(many':Int)(f' g':List Lay):(Vk (mkE prog QT) (soX prog (Gf d E (QN f24 0).1 (QN f24 0).2 u l many f g 0) [(A,.exit 0,zl d E (QN f24 0).1 (QN f24 0).2 u' l many' f' g'),(B,.ret,soF d E (QN f24 0).1 (QN f24 0).2 u' l many' f' g')]) f103 QGV (HZ d E (QN f24 0).1 (QN f24 0).2 u l many f g).hp 464 λv h _=>Y9 Ze v h) = .br ((l.length:Int)==(d.ps.n:Int)) (.br (i64.wrap (many+1)==1) (.need (decide (0<l.length/\l.length<=l.length)) (.need (true&&(decide (l.length<=l.length)&&decide ((0+l.length+(0+l.length) / 4+192)*16<=281474976710656/\0+l.length<=9223372036854775807))) (.br (i64.wrap (many+1)==100) (.leaf (.bool true false) ([(Vb d l),(201,.mp E.1 E.2),(Vl d),(Z3 d),(Vn many),(104,.cells 0 42 [.slz 712 0 (0+l.length) cO]),(Yo g),(Ji d),(Vt l),(456,.rowz true 4 [CK.bool] d.ps.n u),(Jc d),Jb,(296,.cellsR 0 96 [.nils]),(QPv l),(Ym g)])) (.leaf (.bool true true) ([(Vb d l),(201,.mp E.1 E.2),(Vl d),(Yd d),(Vn many),(104,.cells 0 42 [.slz 712 0 (0+l.length) cO]),(Yo g),(Ji d),(Vt l),(456,.rowz true 4 [CK.bool] d.ps.n u),(Jc d),Jb,(296,.cellsR 0 96 [.nils]),(QPv l),(Ym g)]))))) (.br (i64.wrap (many+1)==2) (.need (decide (0<l.length/\l.length<=l.length)) (.need (true&&(decide (l.length<=l.length)&&decide ((0+l.length+(0+l.length) / 4+192)*16<=281474976710656/\0+l.length<=9223372036854775807))) (.br (i64.wrap (many+1)==100) (.leaf (.bool true false) ([(Vb d l),(201,.mp E.1 E.2),(Vl d),(Z3 d),(Vn many),(Yr f),(112,.cells 0 42 [.slz 728 0 (0+l.length) cO]),(Ji d),(Vt l),(456,.rowz true 4 [CK.bool] d.ps.n u),(Jc d),Jb,(296,.cellsR 0 96 [.nils]),(YY f),(QKv l)])) (.leaf (.bool true true) ([(Vb d l),(201,.mp E.1 E.2),(Vl d),(Yd d),(Vn many),(Yr f),(112,.cells 0 42 [.slz 728 0 (0+l.length) cO]),(Ji d),(Vt l),(456,.rowz true 4 [CK.bool] d.ps.n u),(Jc d),Jb,(296,.cellsR 0 96 [.nils]),(YY f),(QKv l)]))))) (.br (i64.wrap (many+1)==100) (.leaf (.bool true false) ([(Vb d l),(201, .mp E.1 E.2),(Vl d),(Z3 d),(Vn many),(Yr f),(Yo g),(Ji d),(Vt l),(456,.rowz true 4 [CK.bool] d.ps.n u),(Jc d),Jb,(296,.cellsR 0 96 [.nils]),(YY f),(Ym g)])) (.leaf (.bool true true) ([(Vb d l),(201,.mp E.1 E.2),(Vl d),(Yd d),(Vn many),(Yr f),(Yo g),(Ji d),(Vt l),(456,.rowz true 4 [CK.bool] d.ps.n u),(Jc d),Jb,(296,.cellsR 0 96 [.nils]),(YY f),(Ym g)]))))) (.ak (rz 10) (.ak ([(d.ps.n:Int)=(d.ps.n:Int),(0:Int)=0]++waa d++(([cO=cO,0=0]++wbL E l)++wag l++((wbo d++[QB 1 d.ps.n u u])++wai++([Array.mk [(18:Tmp)]=Array.mk [(18:Tmp)]]++wbz)))++waa d++[cO=cO]) (.ak (rz 8) (.ak ([(0:Int)=0,0=0,0=0,0=0,0=0,(0:Int)=0]++waa d++((([cO=cO]++wbE++(wbO++[many=many,0=0,f.length=f.length,cO=cO]))++waI f++[0=0,g.length=g.length,cO=cO])++wat g++[Fn.func (103:FuncId)=Fn.func (103:FuncId)])) (.ak (rz 12) (.ak (waa d++([cO=cO]++wad d)) (.both (.asm (A) (.all (λ(g0:Nat->Value)=>.leaf (.bool true true) ([(YI d l),(201,.mp E.1 E.2),(X0 d),(Yd d),(qw many'),(qH f'),(qa g'),(Xy l), (496,.rowz true 4 [CK.bool] d.ps.n u'),(qc f'),(Wi g')])))) (.asm (B) (.all (λ(g1:Nat->Value)=>.leaf (.bool false false) ([(YI d l),(201,.mp E.1 E.2),(X0 d),(Z3 d),(qw many'),(qH f'),(qa g'),(Xy l),(496,.rowz true 4 [CK.bool] d.ps.n u'),(qc f'),(Wi g')]))))))))))):=by kernel_rfl
abbrev QCq:List Prop:=
  (wai++([Array.mk [18]=Array.mk [(18:Tmp)]]++wbz))
abbrev QHR:List Prop:=
  [g.length=g'.length,cO=cO,g'.length<=g.length,QB 2 g'.length (λi=>QA.enc (g.getD i (Lay.mk (0:Int) (0:Int)))) λi=>QA.enc (g'.getD i (Lay.mk
  (0:Int) (0:Int)))]
theorem QcW(l:List Lay)(many:Int)(f g:List Lay)(many':Int)(f' g':List Lay):QF 464 [(.bool true true)] ([(Vb d l),(201,.mp E.1 E.2),(Vl d),(Yd d),(Vn many),(QIj l),(Yo g),(Ji d),(Vt l),(456,.rowz true 4 [CK.bool] d.ps.n u), (Jc d),Jb,(296,.cellsR 0 96 [.nils]),(QJa l),(Ym g)]) (Kf (VJ d E (QN f24 0).1 (QN f24 0).2 u l many f g many' f' g'))=(some ([true=true, d.pK.length=d.pK.length]++(ZG E d l)++[d.ps.n<=d.ps.n,QB 1 d.ps.n u u]++QCq++(Xk d)++(ZV d)++[0=0,i64.wrap (many+1)=many',0=0, l.length=f'.length,cO=cO,f'.length<=l.length,QB 2 f'.length (λi=>QA.enc (l.getD i (Lay.mk (0:Int) (0:Int)))) λi=>QA.enc (f'.getD i (Lay.mk (0:Int) (0:Int))),0=0]++(QHR g g'))):=by kernel_rfl
abbrev QHE(many:Int)(many':Int):List Prop:=
  [0=0,i64.wrap (many+1)=many',0=0,f.length=f'.length,cO=cO,f'.length<=f.length,QB 2 f'.length (λi=>QA.enc (f.getD i (Lay.mk (0 :
  Int) (0:Int)))) λi=>QA.enc (f'.getD i (Lay.mk (0:Int) (0:Int))),0=0]
theorem QgP(l:List Lay)(many:Int)(f g:List Lay)(many':Int)(f' g':List Lay):QF 464 [(.bool true true)] ([(Vb d l),(201,.mp E.1 E.2),(Vl d),(Yd d),(Vn many),(Yr f),(QIN l),(Ji d),(Vt l),(456,.rowz true 4 [CK.bool] d.ps.n u), (Jc d),Jb,(296,.cellsR 0 96 [.nils]),(YY f),(QIE l)]) (Kf (VJ d E (QN f24 0).1 (QN f24 0).2 u l many f g many' f' g'))=(some ([true=true, d.pK.length=d.pK.length]++(ZG E d l)++[d.ps.n<=d.ps.n,QB 1 d.ps.n u u]++QCq++(Xk d)++(ZV d)++(QHE f f' many many')++[l.length=g'.length, cO=cO,g'.length<=l.length,QB 2 g'.length (λi=>QA.enc (l.getD i (Lay.mk (0:Int) (0:Int)))) λi=>QA.enc (g'.getD i (Lay.mk (0:Int) (0:Int)))])):=by kernel_rfl
abbrev QKy:List Prop:=
  (waR++([Array.mk [18]=Array.mk [(18:Tmp)]]++wbz))
theorem Qds(l:List Lay)(many:Int)(f g:List Lay)(many':Int)(f' g':List Lay):QF 464 [(.bool true false)] ([(Vb d l),(201,.mp E.1 E.2),(Vl d),(Z3 d),(Vn many),(Yr f),(Yo g),(Ji d),(Vt l),(456,.rowz true 4 [CK.bool] d.ps.n u), (Jc d),Jb,(296,.cellsR 0 96 [.nils]),(YY f),(Ym g)]) (Kf (Xa d E (QN f24 0).1 (QN f24 0).2 u l many f g many' f' g'))=(some ([false=false, d.pK.length=d.pK.length]++(ZG E d l)++[d.ps.n<=d.ps.n,QB 1 d.ps.n u u]++QKy++(Xk d)++(ZV d)++(QHE f f' many many')++(QHR g g'))):=by kernel_rfl
theorem Qcm(l:List Lay)(many:Int)(f g:List Lay)(many':Int)(f' g':List Lay):QF 464 [(.bool true true)] ([(Vb d l),(201,.mp E.1 E.2),(Vl d),(Yd d),(Vn many),(Yr f),(Yo g),(Ji d),(Vt l),(456,.rowz true 4 [CK.bool] d.ps.n u), (Jc d),Jb,(296,.cellsR 0 96 [.nils]),(YY f),(Ym g)]) (Kf (VJ d E (QN f24 0).1 (QN f24 0).2 u l many f g many' f' g'))=(some ([true=true, d.pK.length=d.pK.length]++(ZG E d l)++[d.ps.n<=d.ps.n,QB 1 d.ps.n u u]++QCq++(Xk d)++(ZV d)++(QHE f f' many many')++(QHR g g'))):=by kernel_rfl
theorem Qel(u u':Nat->Nat->Int)(l:List Lay)(many:Int)(f g:List Lay)(many':Int)(f' g':List Lay):QF 464 [(.bool true true)] ([(YI d l),(201,.mp E.1 E.2),(X0 d),(Yd d),(qw many'),(qH f'),(qa g'),(Xy l),(496,.rowz true 4 [CK.bool] d.ps.n u'),(qc f'),(Wi g')]) (Kf (VJ d E (QN f24 0).1 (QN f24 0).2 u l many f g many' f' g'))=(some ([true=true,d.pK.length=d.pK.length]++(ZG E d l) ++ [d.ps.n<=d.ps.n,QB 1 d.ps.n u' u]++QCq++(Xk d)++(ZV d)++(QDI f' g' many'))):=by kernel_rfl
theorem QV3(u u':Nat->Nat->Int)(l:List Lay)(many:Int)(f g:List Lay)(many':Int)(f' g':List Lay):QF 464 [(.bool false false)] ([(YI d l),(201,.mp E.1 E.2),(X0 d),(Z3 d),(qw many'),(qH f'),(qa g'),(Xy l),(496,.rowz true 4 [CK.bool] d.ps.n u'), (qc f'),(Wi g')]) (Kf (Xa d E (QN f24 0).1 (QN f24 0).2 u l many f g many' f' g'))=(some ([false=false,d.pK.length=d.pK.length]++(ZG E d l)++[d.ps.n<=d.ps.n,QB 1 d.ps.n u' u]++QKy++(Xk d)++(ZV d)++(QDI f' g' many'))):=by kernel_rfl
abbrev SoS:=Int×List Lay×List Lay
inductive Qd (σ:Type) where
 | go (s:σ)
 | stop (s:σ)
def Q5{σ α:Type}(f:σ->α->Qd σ):List α->σ->Qd σ
 | [],s => .go s
 | a::r,s=>match f s a with
  | .go s'=>Q5 f r s'
  | .stop s' => .stop s'
def ZI(s:SoS):Qd SoS:=cond (i64.wrap (s.1+1)==100)
 (.stop (i64.wrap (s.1+1),cond (i64.wrap (s.1+1)==1) l s.2.1,cond (i64.wrap (s.1+1)==1) s.2.2 (cond (i64.wrap (s.1+1)==2) l s.2.2)))
 (.go (i64.wrap (s.1+1),cond (i64.wrap (s.1+1)==1) l s.2.1,cond (i64.wrap (s.1+1)==1) s.2.2 (cond (i64.wrap (s.1+1)==2) l s.2.2)))
def QZ:Nat:=(tnV d p).toNat
def KK(rec:List Lay->σ->Qd σ)(l:List Lay)(p:Nat)(s:σ)(t:Nat):Qd σ:=cond (Q7 d E l ⟨p,t⟩) (rec (l++[⟨p,t⟩]) s) (.go s)
def inZ(rec:List Lay->σ->Qd σ)(l:List Lay)(p:Nat)(s:σ):Qd σ:=Q5 (KK d E rec l p) (List.range (QZ d p)) s
def K3(rec:List Lay->σ->Qd σ)(l:List Lay)(s:σ)(p:Nat):Qd σ:=cond (Q6 l p) (.go s) (inZ d E rec l p s)
def onY{σ:Type}(d:Puz)(E:ECt)(Y:List Lay->σ->Qd σ):Nat->List Lay->σ->Qd σ
 | 0,l,s=>Y l s
 | k+1,l,s=>Q5 (K3 d E (onY d E Y k) l) (List.range d.ps.n) s
def onZ:Nat->List Lay->SoS->Qd SoS:=onY d E ZI
def Jy(A:Int->Lay->Bool)(d:Puz)(E:ECt)(rec:List Lay->σ->Qd σ)(l:List Lay)(p:Nat)(s:σ)(t:Nat):Qd σ:=cond (A l.length ⟨p,t⟩) (KK d E rec l p s t) (.go s)
def inA(A:Int->Lay->Bool)(d:Puz)(E:ECt)(rec:List Lay->σ->Qd σ)(l:List Lay)(p:Nat)(s:σ):Qd σ:=Q5 (Jy A d E rec l p) (List.range (QZ d p)) s
def XZ(A:Int->Lay->Bool)(d:Puz)(E:ECt)(rec:List Lay->σ->Qd σ)(l:List Lay)(s:σ)(p:Nat):Qd σ:=cond (Q6 l p) (.go s) (inA A d E rec l p s)
def onA{σ:Type}(A:Int->Lay->Bool)(d:Puz)(E:ECt)(Y:List Lay->σ->Qd σ):Nat->List Lay->σ->Qd σ
 | 0,l,s=>Y l s
 | k+1,l,s=>Q5 (XZ A d E (onA A d E Y k) l) (List.range d.ps.n) s
theorem qL{f:σ->Nat->Qd σ}{n k:Nat}(h:k<n)(s:σ):Q5 f ((List.range n).drop k) s=match f s k with
  | .go s'=>Q5 f ((List.range n).drop (k+1)) s'
  | .stop s' => .stop s':=by
 have:(List.range n).drop k=k::(List.range n).drop (k+1):=by
  rw[List.drop_eq_getElem_cons (by simpa using h)]
  simp
 rw[this,Q5]
theorem Wp{f:σ->Nat->Qd σ}{n k:Nat}(h:n<=k)(s:σ):Q5 f ((List.range n).drop k) s = .go s:=by
 rw[List.drop_eq_nil_of_le (by simpa using h),Q5]
theorem QOB(p:Int):tnV d p=1∨tnV d p=4:=by
 unfold tnV;cases d.turn&&decide (0<p)
 .exact .inl rfl
 .exact .inr rfl
def X9(s:SoS):Qd SoS->UC
 | .go s'=>VJ d E ac body (QD l) l s.1 s.2.1 s.2.2 s'.1 s'.2.1 s'.2.2
 | .stop s'=>Xa d E ac body (QD l) l s.1 s.2.1 s.2.2 s'.1 s'.2.1 s'.2.2
open Classical in
noncomputable def Zk:List Prop->Bool:=if t<QZ d p then QQ else λ_=>false
noncomputable def vT(P:Program)(d:Puz)(E:ECt)(ac body:Code)(rec:List Lay->SoS->Qd SoS)(l:List Lay)(p:Nat)(k:Nat×SoS):Env:=
 mkE P (QB8 (Zk d p k.1) (Zk d p k.1) d E l ⟨p,k.1⟩ (Q7 d E l ⟨p,k.1⟩) (X9 d E ac body (l++[⟨p,k.1⟩]) k.2 (rec (l++[⟨p,k.1⟩]) k.2)))
def Y2(rec:List Lay->SoS->Qd SoS)(l:List Lay)(p:Nat)(k:Nat×SoS)(e:Ex)(J:JSt):Prop:=match Q5 (KK d E rec l p) ((List.range (QZ d p)).drop k.1) k.2 with
 | .go s'=>e = .exit 2/\J=QBN d E ac body (QD l) l s'.1 s'.2.1 s'.2.2 p
 | .stop s'=>e = .ret/\J=soF d E ac body (QD l) l s'.1 s'.2.1 s'.2.2
theorem Zd(x:Lay):QB 2 (l++[x]).length (KT l.length (λi=>QA.enc (l.getD i ⟨0,0⟩)) (Ke [[.int false .i64 x.piece,.int false .i64 x.turn]] 0)) λi=>QA.enc ((l++[x]).getD i ⟨0,0⟩):=by
 intro i hi;rw[List.length_append,List.length_singleton]at hi;show eqF 2 0 _ (QA.enc ((l++[x]).getD i ⟨0,0⟩))
 by_cases h:i<l.length
 .have e:(l++[x]).getD i ⟨0,0⟩=l.getD i ⟨0,0⟩:=by
   rw[List.getD_eq_getElem?_getD,List.getD_eq_getElem?_getD,List.getElem?_append_left h]
  rw[e];refine⟨?_,?_,trivial⟩<;>(rw[Yh,if_pos h])
 .obtain rfl:i=l.length:=by omega
  have e:(l++[x]).getD l.length ⟨0,0⟩=x:=by
   rw[List.getD_eq_getElem?_getD,List.getElem?_append_right (qlr _)];simp
  rw[e];refine⟨?_,?_,trivial⟩<;>(rw[Yh,if_neg h,Nat.sub_self];rfl)
theorem Wb(x:Lay):QB 2 l.length (λi=>QA.enc ((l++[x]).getD i ⟨0,0⟩)) λi=>QA.enc (l.getD i (⟨0,0⟩:Lay)):=by
 intro i hi
 have e:(l++[x]).getD i ⟨0,0⟩=l.getD i ⟨0,0⟩:=by
  rw[List.getD_eq_getElem?_getD,List.getD_eq_getElem?_getD,List.getElem?_append_left hi]
 show eqF 2 0 (QA.enc ((l++[x]).getD i ⟨0,0⟩)) _;rw[e];exact⟨rfl,rfl,trivial⟩
theorem QPT(t:Int)(i:Nat):Q6 (l++[⟨p,t⟩]) i=(Q6 l i||decide (i=p)):=by
 unfold Q6;rw[List.any_append];congr 1;simp only[List.any_cons,List.any_nil,Bool.or_false];rw[Bool.eq_iff_iff];simp only[beq_iff_eq,qdE];omega
theorem Z6(n p:Nat)(t:Int):QB 1 n (λi=>bif decide (i=p)then Ki [.bool true true] 0 (QD l ((p:Int).toNat+0))else QD l i) (QD (l++[⟨p,t⟩])):=by
 intro i _;refine⟨?_,trivial⟩;show(bif decide (i=p)then Ki [.bool true true] 0 (QD l ((p:Int).toNat+0))else QD l i) 0=QD (l++[⟨p,t⟩]) i 0
 unfold QD;rw[QPT];cases h:decide (i=p)with
 | true=>rw[Bool.or_true];rfl
 | false=>rw[Bool.or_false];rfl
theorem qk(n p:Nat)(t:Int)(hu:Q6 l p=false):QB 1 n (λi=>bif decide (i=p)then Ki [.bool true false] 0 (QD (l++[⟨p,t⟩]) ((p:Int).toNat+0))else QD (l++[⟨p,t⟩]) i) (QD l):=by
 intro i _;refine⟨?_,trivial⟩;show(bif decide (i=p)then Ki [.bool true false] 0 (QD (l++[⟨p,t⟩]) ((p:Int).toNat+0))else QD (l++[⟨p,t⟩]) i) 0=QD l i 0
 cases h:decide (i=p)with
 | true=>
  obtain rfl:i=p:=qdt h;unfold QD;rw[hu];rfl
 | false=>
  show QD (l++[⟨p,t⟩]) i 0=_;unfold QD;rw[QPT,h,Bool.or_false]
