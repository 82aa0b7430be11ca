/- - -/
import Derived.Test.YtekbmehgcofnkaaGreatKzb
set_option linter.all false
noncomputable section
open Go.Proofs.Tryz
open Go.IntKind (i64)
set_option maxRecDepth 100000
namespace Go.Proofs.YtekbmehgcofnkaaGreat
open Go.SX Go.SX.Told
variable {σ:Type}(pb:List Prop->Bool)(d:Puz)(E:ECt)(ac body:Code)(l:List Lay)(u':Nat->Nat->Int)(l2:List Lay)(u:Nat->Nat->Int)(p:Nat)(u2:Nat->Nat->Int)(many:Int)(f g:List Lay)(t:Nat)(f':List Lay)(many':Int)(g':List Lay)(tn:Int)
def KI(i:Nat):Bool:=l.any λy=>y.piece==(i:Int)
def QD(i:Nat)(_:Nat):Int:=cond (KI l i) 1 0
def rwY(id:Nat)(l:List Lay):Nat×Blk:=(id,.rowz true 49 kB l.length λi=>QA.enc (l.getD i ⟨0,0⟩))
def rwU(id:Nat)(d:Puz)(u:Nat->Nat->Int):Nat×Blk:=(id,.rowz true 4 [.bool] d.ps.n u)
def YD:List AV:=[.agg (KT d),.ptr 96 0 0,.ptr 104 0 0,.ptr 112 0 0,.ptr 120 0 0,.int true .i64 0,.ptr 200 0 0,.tup [],.tup [.ptr 200 0 0,.int true .i64 0],.agg (KT d),.tup [.ptr 200 0 0,.int true .i64 0],.ptr 200 0 0,.int true .i64 0,.int true .i64 0,.bool true false,.tup [],.ptr 200 0 0,.fn (.func 102) [.ptr 288 0 0,.ptr 296 0 0],.tup [],.tup [],.tup [],.tup [],.tup [],.tup [],.tup [],.tup [],.tup [],.tup [],.tup [],.tup [],.tup [],.tup [],.tup [],.tup [],.tup [],.tup [],.tup []]
def QHc:List AV:=[.ptr 288 0 0,.ptr 336 0 0,.ptr 400 0 0,.ptr 296 0 0,.ptr 416 0 0]
def QEJ:List (Nat×Blk):=
 [(416,.cellsR 0 31 [.fn (.func 103) QHc]),(336,.cellsR 0 105 [.yld 329]),(296,.cellsR 0 96 [.nils]),(288,.cellsR 0 90 [.ptr 200 0 0]),(96,.cellsR 0 28 (KT d))]++Qi.blk 0 d.ps
def YG(ls:LoopState)(pe:Option Code)(d:Puz)(E:ECt)(ac body:Code)(u:Nat->Nat->Int)(l:List Lay)(a b c w:Nat)(many:Int)(f g:List Lay):List (Nat×Blk):=
 [(200,.cells 0 152 (KT d++[.map 201,.slz a 0 l.length (.of 0)])),(201,.mp E.1 E.2),rwY a l,(400,.cells 0 114 [.slz w 0 d.ps.n (.of 0)]),rwU w d u,(329,.lp ls pe (YD d) #[18] ac body),(120,.cells 0 3 [vi many]),(104,.cells 0 42 [.slz b 0 f.length (.of 0)]),rwY b f,(112,.cells 0 42 [.slz c 0 g.length (.of 0)]),rwY c g]
def QJ6:List (Nat×AV):=[(0,.ptr 288 0 0),(1,.ptr 336 0 0),(2,.ptr 400 0 0),(3,.ptr 296 0 0),(4,.ptr 416 0 0)]
def Gv(l:List Lay)(many:Int)(f g:List Lay):JSt:=⟨5,QJ6,YG .ready none d E ac body u l 432 440 448 456 many f g++QEJ d,464⟩
def J5(l:List Lay)(many:Int)(f g:List Lay)(many':Int)(f' g':List Lay):UC:=
 ⟨424,Gv d E ac body u l many f g,λ_=>.bool false true,λm=>YG .ready none d E ac body u l m (m+1) (m+2) (m+3) many' f' g'⟩
def XH(l:List Lay)(many:Int)(f g:List Lay)(many':Int)(f' g':List Lay):UC:=
 ⟨424,Gv d E ac body u l many f g,λ_=>.bool false false,λm=>YG .done (some (.exit 0)) d E ac body u l m (m+1) (m+2) (m+3) many' f' g'⟩
def ZY:List Nat:=[200,201,400,329,120,104,112]
def QFN(n:Nat)(p:Nat):List (Nat×AV):=QJ6++[(33,.int false .i64 n),(34,.int false .i64 p)]
def QXo(n:Nat)(p:Nat)(tn:Int)(t:Nat):List (Nat×AV):=QFN n p++[(6,.int false .i64 p),(43,.int false .i64 tn),(44,.int false .i64 t)]
def Gb(l:List Lay)(many:Int)(f g:List Lay)(p:Nat):JSt:=⟨101,QFN d.ps.n p,YG .ready none d E ac body u l 472 480 488 496 many f g++QEJ d,504⟩
def zZ(l:List Lay)(many:Int)(f g:List Lay)(p:Nat)(tn:Int)(t:Nat):JSt:=⟨101,QXo d.ps.n p tn t,YG .ready none d E ac body u l 472 480 488 496 many f g++QEJ d,504⟩
def zH(l:List Lay)(many:Int)(f g:List Lay):JSt:=⟨101,[],YG .ready none d E ac body u l 472 480 488 496 many f g,504⟩
def QBJ(l:List Lay)(many:Int)(f g:List Lay)(p:Nat):JSt:=⟨101,QFN d.ps.n p,YG .ready none d E ac body u l 472 480 488 496 many f g++QEJ d,504⟩
def soF(l:List Lay)(many:Int)(f g:List Lay):JSt:=⟨101,[(5,.bool false false)],YG .done (some (.exit 0)) d E ac body u l 472 480 488 496 many f g,504⟩
def QSK:Ex->List Nat
 | .normal=>[0,1,2,3,4,33,34]
 | .exit _=>[]
 | .ret=>[5]
def QGv:Ex->List Nat
 | .normal=>[0,1,2,3,4,33,34,6,43,44]
 | .exit _=>[0,1,2,3,4,33,34]
 | .ret=>[5]
def QAb(pb1 pb2:List Prop->Bool)(d:Puz)(E:ECt)(l:List Lay)(x:Lay)(v:Bool)(U:UC):Tab:=Qa (Qa QS 105 (KE pb1 (myU d E l x v))) 103 (KE pb2 U)
abbrev waM:List AV:=[.ptr 288 0 0,.ptr 336 0 0,.ptr 400 0 0,.ptr 296 0 0,.ptr 416 0 0]
abbrev wbH(p:Nat)(t:Nat)(tn:Int):List AV:=[vi (p:Int),vi (p:Int),.int false .i64 tn,vi (i64.wrap ((t:Int)+1))]
abbrev HG:List AV:=
  (.nilp::.ptr 101 0 0::List.append (waM) ((vi (d.ps.n:Int)::wbH p t tn)))
abbrev QDR(d:Puz):Nat×Blk:=
  (329,.lp LoopState.ready none (YD d) (Array.mk [18]) ac body)
abbrev qn:Nat×Blk:=
  (288,.cellsR 0 90 [.ptr 200 0 0])
abbrev QCs:Nat×Blk:=
  (416,.cellsR 0 31 [.fn (Fn.func 103) (waM)])
abbrev vB:Nat×Blk:=
  (0,.frz (wae) d.ps.n λi=>QA.enc (d.ps.get i))
abbrev ji:Nat×Blk:=
  (96,.cellsR 0 28 (waf d))
abbrev waW:List (Nat×Blk):=[(336,.cellsR 0 105 [.yld 329]),(296,.cellsR 0 96 [.nils])]
abbrev Wl(d:Puz)(f:List Lay)(g:List Lay)(l:List Lay)(many:Int)(u:Nat->Nat->Int):List (Nat×Blk):=
  ((200,.cells 0 152 (List.append (waf d) ([.map 201,.slz 472 0 l.length cO])))::(201,.mp E.1 E.2)::(400,.cells 0 114 [.slz
  496 0 d.ps.n cO])::(QDR ac body d)::(120,.cells 0 3 [vi many])::(104,.cells 0 42 [.slz 480 0 f.length cO])::(112,.cells 0 42 [.slz 488 0 g.length
  cO])::qn::List.append (waW) ([QCs,(vB d),(472,.rowz true 49 kB l.length λi=>QA.enc (l.getD i
  (Lay.mk (0:Int) (0:Int)))),(496,.rowz true 4 [CK.bool] d.ps.n u),(ji d),(480,.rowz true 49 kB f.length λi=>QA.enc (f.getD i (Lay.mk (0:Int)
  (0:Int)))),(488,.rowz true 49 kB g.length λi=>QA.enc (g.getD i (Lay.mk (0:Int) (0:Int))))]))
abbrev wag(l:List Lay):List Prop:=[l.length<=l.length,QB 2 l.length (λi=>QA.enc (l.getD i (Lay.mk (0:Int) (0:Int)))) λi=>QA.enc (l.getD i (Lay.mk (0:Int) (0:Int)))]
abbrev wca(l:List Lay):List Prop:=[cO=cO,0=0,l.length=l.length,cO
  = cO]
abbrev QOi(d:Puz)(l:List Lay)(p:Nat)(t:Nat):List Prop:=
  ([0=0,0=0,(p:Int)=(p:Int),(t:Int)=(t:Int)]++waa d++(((wca l)++wag l++[E.1=E.1,E.2=E.2])++wad d))
abbrev wak:List Prop:=[LoopState.ready=LoopState.ready,(none:Option Code)=none]
abbrev waH(f:List Lay):List Prop:=[f.length<=f.length,QB 2 f.length (λi=>QA.enc (f.getD i (Lay.mk (0:Int) (0:Int)))) λi=>QA.enc (f.getD i (Lay.mk (0:Int) (0:Int)))]
abbrev wa2(E:ECt)(l:List Lay)(l2:List Lay)(p:Nat)(t:Nat):List Prop:=[E.1=E.1,E.2=E.2,l2.length<=l.length+1,QB 2 l2.length (KF l.length (λi=>QA.enc (l.getD i (Lay.mk (0:Int) (0:Int)))) (Kg [[.int
  false .i64 (p:Int),vi (t:Int)]] 0)) λi=>QA.enc (l2.getD i (Lay.mk (0:Int) (0:Int)))]
abbrev wbO(d:Puz):List Prop:=[0=0,d.ps.n=d.ps.n,cO=cO,d.ps.n<=d.ps.n]
abbrev wcl:List Prop:=[0=0,0=0,0=0,0=0,0=0,0=0,0=0,0=0]
abbrev wb1:List Prop:=(wcl++[0=0,0=0])
abbrev wcc:List Prop:=[cO=cO,0=0,0=0,(0:Int)=0,0=0,0=0]
abbrev wcd:List Prop:=[Fn.func 102=Fn.func 102,0=0,0=0,0=0,0=0]
abbrev wcf:List Prop:=(wcl++[(0:Int)=0,0=0,0=0,0=0,0=0,(0:Int)=0])
abbrev QMn(d:Puz)(f:List Lay)(g:List Lay)(l:List Lay)(l2:List Lay)(many:Int)(p:Nat)(t:Nat)(u:Nat->Nat->Int)(u2:Nat->Nat->Int):List Prop:=
  ((wb1)++waa d++(([cO=cO,0=0,l.length+1=l2.length,cO=cO]++wa2 E l l2 p t++(wbO d++[QB 1 d.ps.n (λi=>bif decide (i=p)then KH [.bool true true] 0 (u ((p:Int).toNat+0))else u i) u2]))++wak++[Array.mk [18]=Array.mk [18],ac=ac,body=body])++waa d++([cO=cO]++wcf)++waa d++((wcc++([(0:Int)=0,(0:Int)=0,false=false,0=0,0=0]++wcd++[many=many,0=0,f.length=f.length,cO=Cap.of
  0]))++waH f++([0=0,g.length =
  g.length,cO=cO,g.length<=g.length,QB 2 g.length (λi=>QA.enc (g.getD i (Lay.mk (0:Int) (0:Int)))) λi=>QA.enc (g.getD i (Lay.mk (0:Int) (0 :
  Int))),Fn.func 103=Fn.func 103]++wb1++[0=0,0=0]))++waa d++([cO =
  cO]++wad d))
abbrev GX:Nat×Blk:=
  (200,.cells 0 152 (List.append (waf d) ([.map 201,.slz 816 0 (i64.wrap ((l2.length:Int)-1)).toNat cO])))
abbrev vS:Nat×Blk:=
  (400,.cells 0 114 [.slz 819 0 d.ps.n cO])
abbrev G8:Nat×Blk:=
  (120,.cells 0 3 [vi many'])
abbrev zg:Nat×Blk:=
  (104,.cells 0 42 [.slz 817 0 f'.length cO])
abbrev GF:Nat×Blk:=
  (112,.cells 0 42 [.slz 818 0 g'.length cO])
abbrev vl:Nat×Blk:=
  (816,.rowz true 49 kB l2.length λi=>QA.enc (l2.getD i (Lay.mk (0:Int) (0:Int))))
abbrev GQ:Nat×Blk:=
  (819,.rowz true 4 [CK.bool] d.ps.n λi=>bif decide (i=p)then KH [.bool true false] 0 (u2 ((p:Int).toNat+0))else u2 i)
abbrev vm:Nat×Blk:=
  (817,.rowz true 49 kB f'.length λi=>QA.enc (f'.getD i (Lay.mk (0:Int) (0:Int))))
abbrev zC:Nat×Blk:=
  (818,.rowz true 49 kB g'.length λi=>QA.enc (g'.getD i (Lay.mk (0:Int) (0:Int))))
abbrev QI7:List AV:=
  (.ptr 2 0 0::.ptr 101 0 0::List.append (waM) ([vi (d.ps.n:Int),vi (p:Int)]))
abbrev wbR:List AV:=[.nili,.ptr 101 0 0,.bool true false]
theorem QYU(pb1 pb2:List Prop->Bool)(d:Puz)(E:ECt)(ac body:Code)(u u2:Nat->Nat->Int)(l l2:List Lay)(v:Bool)(many:Int)(f g:List Lay)(p:Nat)(tn:Int)(t:Nat)(many':Int)(f' g':List Lay)(g0:Nat->Value):exec (mkE prog (QAb pb1 pb2 d E l ⟨p,t⟩ v (J5 d E ac body u2 l2 many f g many' f' g'))) (hnd (mkE prog (QAb pb1 pb2 d E l ⟨p,t⟩ v (J5 d E ac body u2 l2 many f g many' f' g'))) 0) (QY (QH f103 0)) (JSt.inst (zZ d E ac body u l many f g p tn t) g0) (Q8 ZY QGv) = .br (decide ((t:Int)<tn)) (.need (true) (.br (!Qq (Rw.mk 0 λi=>Pt.mk (0:Int) (Lay.mk (0:Int) (0:Int))) (l.length:Int) (Lay.mk (p:Int) (t:Int))) (.leaf (.tup (HG d p t tn)) ((Wl E ac body d f g l many u))) (.need (pb1 ((QOi E d l p t))) (.br (!v) (.leaf (.tup (HG d p t tn)) ((Wl E ac body d f g l many u))) (.need (decide ((0:Int)<=(p:Int)/\(p:Int)<(d.ps.n:Int))&&decide (d.ps.n<=d.ps.n)) (.need (decide (p<d.ps.n)) (.need (decide (l.length<=l.length)&&(true&&decide ((l.length+1+(l.length+1) / 4+192)*16<=281474976710656/\l.length+1<=9223372036854775807))) (.need (pb2 ((QMn E ac body d f g l l2 many p t u u2))) (.need (decide ((0:Int)<=i64.wrap ((l2.length:Int)-1)/\(i64.wrap ((l2.length:Int)-1)).toNat<=l2.length-0)) (.need (decide ((0:Int)<=(p:Int)/\(p:Int)<(d.ps.n:Int))&&decide (d.ps.n<=d.ps.n)) (.need (decide (p<d.ps.n)) (.br (false) (.leaf (.tup (wbR)) ([(GX d l2),(201,.mp E.1 E.2),(vS d),(QDR ac body d),(G8 many'),(zg f'),(GF g'), (vB d),(vl l2),(GQ d p u2),(ji d),qn,(296,.cellsR 0 96 [.nils]),(vm f'),(zC g')])) (.leaf (.tup (HG d p t tn)) (((GX d l2)::(201,.mp E.1 E.2)::(vS d)::(QDR ac body d)::(G8 many')::(zg f')::(GF g')::qn::List.append (waW) ([QCs,(vB d),(vl l2),(GQ d p u2),(ji d),(vm f'),(zC g')])))))))))))))))) (.leaf (.tup (QI7 d p)) ((Wl E ac body d f g l many u))):=by kernel_rfl
abbrev wbT(d:Puz)(p:Nat)(t:Nat)(tn:Int):List AV:=[vi (d.ps.n:Int),vi (p:Int),vi (p:Int),vi tn,.int
  false .i64 (i64.wrap ((t:Int)+1))]
abbrev QLV:List AV:=
  (List.append (waM) ((wbT d p t tn)))
abbrev wav(g:List Lay):List Prop:=[g.length<=g.length,QB 2 g.length (λi=>QA.enc (g.getD i (Lay.mk (0:Int) (0:Int)))) λi=>QA.enc (g.getD i (Lay.mk (0:Int) (0:Int)))]
abbrev wbq(d:Puz)(p:Nat):List Prop:=[(d.ps.n:Int)=(d.ps.n:Int),(p:Int)=(p:Int)]
abbrev waK(d:Puz)(p:Nat)(t:Nat)(t':Nat)(tn:Int):List Prop:=(wbq d p++[(p:Int)=(p:Int),tn=tn,i64.wrap ((t :
  Int)+1)=(t':Int)])
abbrev wa7:List Prop:=[(0:Int)=0,(0:Int)=0,false=false]
abbrev wb2(E:ECt)(l:List Lay):List Prop:=[l.length=l.length,cO=cO,E.1=E.1,E.2=E.2]
abbrev wb5:List Prop:=[0=0,0=0,Fn.func
  (102:FuncId)=Fn.func (102:FuncId),0=0,0=0,0=0]
abbrev QaH(d:Puz)(f:List Lay)(g:List Lay)(l:List Lay)(many:Int)(p:Nat)(t:Nat)(t':Nat)(tn:Int)(u:Nat->Nat->Int):List Prop:=
  (((wb1)++waK d p t t' tn)++waa d++(([cO=cO,0=0]++wb2 E l)++wag l++((wbO d++[QB 1 d.ps.n u u])++wak++[Array.mk [18]=Array.mk [(18:Tmp)],ac=ac,body=body]))++waa d++([cO=cO]++wcf)++waa d++((((wcc)++wa7++(wb5++[0=0,many=many,0=0,f.length=f.length,cO=cO]))++waH f++[0=0,g.length=g.length,cO=cO])++wav g++([Fn.func 103=Fn.func (103:FuncId)]++wb1++[0=0,0=0]))++waa d++([cO=cO]++wad d))
theorem QPE(l:List Lay)(many:Int)(f g:List Lay)(p:Nat)(tn:Int)(t t':Nat):QE 464 (QLV d p t tn) ((Wl E ac body d f g l many u)) (zZ d E ac body u l many f g p tn t')=(some (QaH E ac body d f g l many p t t' tn u)):=by kernel_rfl
abbrev ZR:List Prop:=
  [0=0,0=0,0=0,0=0,0=0,0=0]
abbrev GL:List Prop:=
  [0=0,0=0,0=0,0=0]
abbrev Ya:List Prop:=
  ([d.pK.aK=d.pK.aK]++waC d++[0 =
  0,d.ps.n=d.ps.n,cO=cO])
abbrev waR(E:ECt)(l:List Lay)(l2:List Lay):List Prop:=[E.1=E.1,E.2=E.2,l.length<=l2.length,QB 2 l.length (λi=>QA.enc (l2.getD i
  (Lay.mk (0:Int) (0:Int)))) λi=>QA.enc (l.getD i (Lay.mk (0:Int) (0:Int)))]
abbrev QMY(d:Puz)(l:List Lay)(l2:List Lay)(p:Nat)(u2:Nat->Nat->Int)(u3:Nat->Nat->Int):List Prop:=
  ([0=0,(i64.wrap ((l2.length:Int)-1)).toNat=l.length,cO=cO]++waR E l l2++(wbO d++[QB 1 d.ps.n (λi=>bif
  decide (i=p)then KH [.bool true false] 0 (u2 ((p:Int).toNat+0))else u2 i) u3]))
abbrev wbJ(g':List Lay):List Prop:=[g'.length<=g'.length,QB 2 g'.length (λi=>QA.enc (g'.getD i (Lay.mk (0:Int) (0 :
  Int)))) λi=>QA.enc (g'.getD i (Lay.mk (0:Int) (0:Int)))]
abbrev QRX(many':Int):List Prop:=
  ([(0:Int)=0,0=0,0=0]++wa7++((wb5++[0=0,many'=many',0=0,f'.length=f'.length,cO=cO,f'.length<=f'.length,QB 2 f'.length (λi=>QA.enc (f'.getD i (Lay.mk (0:Int) (0:Int)))) λi=>QA.enc (f'.getD
  i (Lay.mk (0:Int) (0:Int))),0=0,g'.length=g'.length,cO=cO])++wbJ g'))
theorem QXO(u u2 u3:Nat->Nat->Int)(l l2:List Lay)(p:Nat)(tn:Int)(t t':Nat)(many':Int)(f' g':List Lay):QE 464 (QLV d p t tn) (((GX d l2)::(201,.mp E.1 E.2)::(vS d)::(QDR ac body d)::(G8 many')::(zg f')::(GF g')::qn::List.append (waW) ([QCs,(vB d),(vl l2),(GQ d p u2),(ji d),(vm f'),(zC g')]))) (zZ d E ac body u3 l many' f' g' p tn t')=(some (ZR++GL++(waK d p t t' tn++[d.pK.length=d.pK.length])++(Ya d)++(QMY E d l l2 p u2 u3)++(wak++[Array.mk [18]=Array.mk [(18:Tmp)],ac=ac,body=body,d.pK.length=d.pK.length]) ++ (Ya d)++ZR++[0=0,0=0,(0:Int)=0]++GL++[(0:Int)=0,d.pK.length=d.pK.length]++(Ya d)++[0=0,0=0]++(QRX f' g' many')++[Fn.func 103=Fn.func (103:FuncId)]++ZR++ZR++[d.pK.length=d.pK.length]++(Ya d)++(wad d))):=by kernel_rfl
theorem QMV(l:List Lay)(many:Int)(f g:List Lay)(p:Nat):QE 464 (List.append (waM) ([vi (d.ps.n:Int),vi (p:Int)])) ((Wl E ac body d f g l many u)) (QBJ d E ac body u l many f g p)=(some (ZR++GL++(wbq d p++[d.pK.length=d.pK.length])++(Ya d)++(([0=0]++wb2 E l)++wag l++((wbO d++[QB 1 d.ps.n u u])++wak++[Array.mk [18]=Array.mk [(18:Tmp)],ac=ac,body=body,d.pK.length=d.pK.length]))++(Ya d)++ZR++[0=0,0=0,(0:Int)=0]++GL++[(0:Int)=0, d.pK.length=d.pK.length]++(Ya d)++([0=0,0=0,(0:Int)=0,0=0,0=0]++wa7++[0=0,0=0,Fn.func (102:FuncId)=Fn.func (102:FuncId)])++GL++(([many=many,0=0,f.length=f.length,cO=cO]++waH f++[0=0,g.length=g.length,cO=cO])++wav g++[Fn.func 103=Fn.func (103:FuncId)])++ZR++ZR ++ [d.pK.length=d.pK.length]++(Ya d)++(wad d))):=by kernel_rfl
theorem QZq(pb1 pb2:List Prop->Bool)(d:Puz)(E:ECt)(ac body:Code)(u u2:Nat->Nat->Int)(l l2:List Lay)(v:Bool)(many:Int)(f g:List Lay)(p:Nat)(tn:Int)(t:Nat)(many':Int)(f' g':List Lay)(g0:Nat->Value):exec (mkE prog (QAb pb1 pb2 d E l ⟨p,t⟩ v (XH d E ac body u2 l2 many f g many' f' g'))) (hnd (mkE prog (QAb pb1 pb2 d E l ⟨p,t⟩ v (XH d E ac body u2 l2 many f g many' f' g'))) 0) (QY (QH f103 0)) (JSt.inst (zZ d E ac body u l many f g p tn t) g0) (Q8 ZY QGv) = .br (decide ((t:Int)<tn)) (.need (true) (.br (!Qq (Rw.mk 0 λi=>Pt.mk (0:Int) (Lay.mk (0:Int) (0:Int))) (l.length:Int) (Lay.mk (p:Int) (t:Int))) (.leaf (.tup (HG d p t tn)) ((Wl E ac body d f g l many u))) (.need (pb1 ((QOi E d l p t))) (.br (!v) (.leaf (.tup (HG d p t tn)) ((Wl E ac body d f g l many u))) (.need (decide ((0:Int)<=(p:Int)/\(p:Int)<(d.ps.n:Int))&&decide (d.ps.n<=d.ps.n)) (.need (decide (p<d.ps.n)) (.need (decide (l.length<=l.length)&&(true&&decide ((l.length+1+(l.length+1) / 4+192)*16<=281474976710656/\l.length+1<=9223372036854775807))) (.need (pb2 ((QMn E ac body d f g l l2 many p t u u2))) (.need (decide ((0:Int)<=i64.wrap ((l2.length:Int)-1)/\(i64.wrap ((l2.length:Int)-1)).toNat<=l2.length-0)) (.need (decide ((0:Int)<=(p:Int)/\(p:Int)<(d.ps.n:Int))&&decide (d.ps.n<=d.ps.n)) (.need (decide (p<d.ps.n)) (.br (true) (.leaf (.tup (wbR)) ([(GX d l2),(201,.mp E.1 E.2),(vS d),(329,.lp LoopState.done (some (Code.exit 0)) (YD d) (Array.mk [18]) ac body),(G8 many'),(zg f'),(GF g'),(vB d),(vl l2),(GQ d p u2),(ji d),qn,(296,.cellsR 0 96 [.nils]),(vm f'),(zC g')])) (.leaf (.tup (HG d p t tn)) (((GX d l2)::(201,.mp E.1 E.2)::(vS d)::(329,.lp LoopState.done (some (Code.exit 0)) (YD d) (Array.mk [18]) ac body)::(G8 many')::(zg f')::(GF g')::qn::List.append (waW) ([QCs,(vB d),(vl l2),(GQ d p u2),(ji d),(vm f'),(zC g')])))))))))))))))) (.leaf (.tup (QI7 d p)) ((Wl E ac body d f g l many u))):=by kernel_rfl
abbrev waU:List Prop:=[LoopState.done=LoopState.done,some (Code.exit 0)=some (Code.exit 0)]
theorem QbS(u2 u3:Nat->Nat->Int)(l l2:List Lay)(p:Nat)(many':Int)(f' g':List Lay):QE 464 [.bool true false] ([(GX d l2),(201,.mp E.1 E.2),(vS d),(329,.lp LoopState.done (some (Code.exit 0)) (YD d) (Array.mk [18]) ac body),(G8 many'),(zg f'), (GF g'),(vB d),(vl l2),(GQ d p u2),(ji d),qn,(296,.cellsR 0 96 [.nils]),(vm f'),(zC g')]) (soF d E ac body u3 l many' f' g')=(some ([false=false, d.pK.length=d.pK.length]++(Ya d)++(QMY E d l l2 p u2 u3)++(waU++[Array.mk [18]=Array.mk [(18:Tmp)],ac=ac,body=body,d.pK.length=d.pK.length])++(Ya d)++ZR++[0=0,0=0,(0:Int)=0]++GL++[(0:Int)=0,d.pK.length=d.pK.length] ++ (Ya d)++[0=0,0=0]++(QRX f' g' many'))):=by kernel_rfl
def clU:UC:=⟨0,⟨1,[(0,.slz 5 0 l.length (.of 0))],[QAB 5 l],8⟩,λm=>.slz m 0 l.length (.of 0),λm=>[rwY m l]⟩
theorem QWW:VM (mkE prog QS) (hnd (mkE prog QS) 1) f68 (clU l)=QC.need (decide ((0:Nat)<l.length/\l.length<=l.length)) (QC.need (true&&(decide (l.length<=l.length)&&decide (((0:Nat)+l.length+((0:Nat)+l.length) / (4:Nat)+(192:Nat))*(16:Nat)<=(281474976710656:Nat)/\(0:Nat)+l.length<=(9223372036854775807:Nat)))) (QC.leaf (AV.slz (48:Nat) (0:Nat) ((0:Nat)+l.length) cO) ([((48:Nat),Blk.rowz true (49:Nat) [CK.int i64,CK.int i64] ((0:Nat)+l.length) (KF (0:Nat) (λx x_1=>(0:Int)) λi=>QA.enc (l.getD i (Lay.mk (0:Int) (0:Int)))))]))):=by kernel_rfl
theorem QaN(l l':List Lay):QE 8 [(AV.slz (48:Nat) (0:Nat) ((0:Nat)+l.length) cO)] ([((48:Nat),Blk.rowz true (49:Nat) [CK.int i64,CK.int i64] ((0:Nat)+l.length) (KF (0:Nat) (λx x_1=>(0:Int)) λi=>QA.enc (l.getD i (Lay.mk (0:Int) (0:Int)))))]) (KQ (clU l'))=( some [0=0,(0:Nat)+l.length=l'.length,cO=cO,l'.length<=(0:Nat)+l.length,QB (2:Nat) l'.length (KF (0:Nat) (λx x_1=>(0:Int)) λi=>QA.enc (l.getD i (Lay.mk (0:Int) (0:Int)))) λi=>QA.enc (l'.getD i (Lay.mk (0:Int) (0:Int)))]):=by kernel_rfl
theorem QQa(m n:Nat)(f g:Nat->Nat->Int):QB m n (KF 0 f g) g:=by
 intro i hi;have:KF 0 f g i=g i:=by funext j;rw[YI,if_neg (Nat.not_lt_zero i),Nat.sub_zero]
 rw[this];exact QA8 _ _ _
theorem QbU:(clU l).Ok:=by
 refine⟨(by decide:0<=8),rfl,rfl,?_,rfl,λnid h=>?_,λnid h=>?_⟩
 .intro q hq;simp only[UC.po,clU,rwY,List.mem_cons,List.not_mem_nil,or_false]at hq;subst hq;exact⟨rfl,rfl,rfl,λh=>absurd (show 8<0 from h) (by decide)⟩
 .have e0:=KW 0 8 0 nid (by decide)
  simp only[UC.va,clU,AV.mapId,Nat.add_zero]at e0 ⊢;rw[e0]
 .have e0:=KW 0 8 0 nid (by decide)
  simp only[UC.po,clU,rwY,List.map_cons,List.map_nil,Blk.mapId,Nat.add_zero]at e0 ⊢;rw[e0]
theorem QRT(hp:0<l.length)(hl:l.length<=1000):QR prog 68 (uFC (clU l)):=by
 refine Kw (c:=Qk f68) (E:=mkE prog QS) (QN Qb) func68 (by kernel_rfl) (by kernel_rfl) (QbU l) (λG h1 _=>Qu (QN Qb) 1 G _ h1) ⟨?_⟩
 refine Qe (QWW l) ?_;refine QG (by simp;omega) (QG (by simp;omega) ⟨rfl,rfl,_,QaN l l,?_⟩)
 repeat' first|with_reducible refine QO ?_ ?_|exact tv|exact Nat.zero_add _|exact QQa _ _ _ _|omega|refine aI ?_ ?_
def W9(n:Nat)(a:Int):Tab:=Qa QS 52 (KE pb (tnU d n a))
abbrev QDs(P:Program)(pb:List Prop->Bool)(d:Puz)(E:ECt)(ac body:Code)(u:Nat->Nat->Int)(l:List Lay)(many:Int)(f g:List Lay)(p:Nat)(X:List (Prop×Ex×JSt)):Hnd:={ hnd (mkE P (W9 pb d l.length p)) 0 with loop:=λ_=>Kr (p<d.ps.n/\u p 0=0) (Q4 464 ZY (zZ d E ac body u l many f g p (tnV d p) (0:Nat)) X) }
abbrev QMf:List AV:=
  (.nilp::.ptr 101 0 0::List.append (waM) ([vi (d.ps.n:Int),vi (i64.wrap ((p:Int)+1))]))
abbrev X3:Nat×Blk:=
  (200,.cells 0 152 (List.append (waf d) ([.map 201,.slz 472 0 l.length cO])))
abbrev YL:Nat×Blk:=
  (400,.cells 0 114 [.slz 496 0 d.ps.n cO])
abbrev zz(d:Puz):Nat×Blk:=
  (329,.lp LoopState.ready none (YD d) (Array.mk [18]) ac body)
abbrev QBn:Nat×Blk:=
  (120,.cells 0 3 [vi many])
abbrev QDS:Nat×Blk:=
  (104,.cells 0 42 [.slz 480 0 f.length cO])
abbrev QBZ:Nat×Blk:=
  (112,.cells 0 42 [.slz 488 0 g.length cO])
abbrev JZ:Nat×Blk:=
  (288,.cellsR 0 90 [.ptr 200 0 0])
abbrev QBl:Nat×Blk:=
  (416,.cellsR 0 31 [.fn (Fn.func 103) (waM)])
abbrev JY:Nat×Blk:=
  (0,.frz (wae) d.ps.n λi=>QA.enc (d.ps.get i))
abbrev Xi:Nat×Blk:=
  (472,.rowz true 49 kB l.length λi=>QA.enc (l.getD i (Lay.mk (0:Int) (0:Int))))
abbrev JW:Nat×Blk:=
  (96,.cellsR 0 28 (waf d))
abbrev QEU:Nat×Blk:=
  (480,.rowz true 49 kB f.length λi=>QA.enc (f.getD i (Lay.mk (0:Int) (0:Int))))
abbrev QEh:Nat×Blk:=
  (488,.rowz true 49 kB g.length λi=>QA.enc (g.getD i (Lay.mk (0:Int) (0:Int))))
abbrev Wx:Nat×Blk:=
  (120,.cells 0 3 [vi many'])
abbrev qB:Nat×Blk:=
  (104,.cells 0 42 [.slz 480 0 f'.length cO])
abbrev WE:Nat×Blk:=
  (112,.cells 0 42 [.slz 488 0 g'.length cO])
abbrev qT:Nat×Blk:=
  (480,.rowz true 49 kB f'.length λi=>QA.enc (f'.getD i (Lay.mk (0:Int) (0:Int))))
abbrev WM:Nat×Blk:=
  (488,.rowz true 49 kB g'.length λi=>QA.enc (g'.getD i (Lay.mk (0:Int) (0:Int))))
abbrev wb3(d:Puz)(p:Nat):List Prop:=[(p:Int)=(p:Int),tnV d (p:Int)=tnV d (p:Int),(0:Int)=0]
theorem QNA(u u':Nat->Nat->Int)(l:List Lay)(many:Int)(f g:List Lay)(p:Nat)(A B:Prop)(many':Int)(f' g':List Lay)(g0:Nat->Value):exec (mkE prog (W9 pb d l.length p)) (QDs prog pb d E ac body u l many f g p [(A,.exit 2,QBJ d E ac body u' l many' f' g' p),(B,.ret,soF d E ac body u' l many' f' g')]) (QH f103 0) (JSt.inst (Gb d E ac body u l many f g p) g0) (Q8 ZY QSK) = .br (decide ((p:Int)<(d.ps.n:Int))) (.need (decide ((0:Int)<=(p:Int)/\(p:Int)<(d.ps.n:Int))&&decide (d.ps.n<=d.ps.n)) (.need (decide (p<d.ps.n)) (.br (decide (u ((p:Int).toNat+0) 0=1)) (.leaf (.tup (QMf d p)) (((X3 d l)::(201,.mp E.1 E.2)::(YL d)::(zz ac body d)::(QBn many)::(QDS f)::(QBZ g)::JZ::List.append (waW) ([QBl,(JY d),(Xi l),(496, .rowz true 4 [CK.bool] d.ps.n u),(JW d),(QEU f),(QEh g)])))) (.need (pb (([0=0,0=0,(p:Int)=(p:Int)]++waa d++((wca l)++wad d)))) (.ak [p<d.ps.n/\u p 0=0] (.ak (rz 10) (.ak ((wbq d p++(wb3 d p))++waa d++(([cO=cO,0=0]++wb2 E l)++wag l++((wbO d++[QB 1 d.ps.n u u])++wak++[Array.mk [(18:Tmp)]=Array.mk [(18:Tmp)],ac=ac,body=body]))++waa d++[cO=cO]) (.ak (rz 8) (.ak ([(0:Int)=0,0=0,0=0,0=0,0=0,(0:Int)=0]++waa d++((((wcc)++wa7++(wb5++[0=0,many=many,0=0,f.length=f.length,cO=cO]))++waH f++[0=0,g.length=g.length,cO=cO])++wav g++[Fn.func (103:FuncId)=Fn.func (103:FuncId)])) (.ak (rz 12) (.ak (waa d++([cO=cO]++wad d)) (.both (.asm (A) (.all (λ(g0:Nat->Value)=>.leaf (.tup (QMf d p)) (((X3 d l)::(201,.mp E.1 E.2)::(YL d)::(zz ac body d)::(Wx many')::(qB f')::(WE g')::JZ::List.append (waW) ([QBl,(JY d),(Xi l),(496,.rowz true 4 [CK.bool] d.ps.n u'),(JW d),(qT f'),(WM g')])))))) (.asm (B) (.all (λ(g1:Nat->Value)=>.leaf (.tup [.nili, .ptr 101 0 0,.bool false false]) ([(X3 d l),(201,.mp E.1 E.2),(YL d),(329,.lp LoopState.done (some (Code.exit 0)) (YD d) (Array.mk [18]) ac body),(Wx many'),(qB f'),(WE g'),(Xi l),(496,.rowz true 4 [CK.bool] d.ps.n u'),(qT f'),(WM g')])))))))))))))))) (.leaf (.tup [.ptr 0 0 0,.ptr 101 0 0]) ([(X3 d l),(201,.mp E.1 E.2),(YL d),(zz ac body d),(QBn many),(QDS f),(QBZ g),(JY d),(Xi l),(496,.rowz true 4 [CK.bool] d.ps.n u),(JW d),JZ, (296,.cellsR 0 96 [.nils]),(QEU f),(QEh g)])):=by kernel_rfl
abbrev QRR:List AV:=
  (List.append (waM) ([vi (d.ps.n:Int),vi (i64.wrap ((p:Int)+1))]))
abbrev zm:List Prop:=
  [0=0,0=0,0=0,0=0,0=0,0=0]
abbrev Y4(d:Puz)(l:List Lay):List Prop:=
  (([d.pK.aK=d.pK.aK]++waC d++([0 =
  0,d.ps.n=d.ps.n,cO=cO,0=0]++wb2 E l))++wag l++[0=0,d.ps.n=d.ps.n,cO=cO])
abbrev QE7:List Prop:=
  (wak++[Array.mk [18]=Array.mk [(18:Tmp)],ac=ac])
abbrev Xo:List Prop:=
  (waa d)
abbrev ZK:List Prop:=
  (([cO=cO]++wcf)++waa d++((wcc)++wa7++(wb5)))
abbrev QNW(many:Int):List Prop:=
  (([0=0,many=many,0=0,f.length=f.length,cO=cO]++waH f++[0=0,g.length=g.length,cO=cO])++wav g)
abbrev wbP(d:Puz)(p:Nat)(p':Nat):List Prop:=[(d.ps.n:Int)=(d.ps.n:Int),i64.wrap ((p:Int)+1)=(p':Int),d.pK.length=d.pK.length]
theorem QMw(l:List Lay)(many:Int)(f g:List Lay)(p p':Nat):QE 464 (QRR d p) (((X3 d l)::(201,.mp E.1 E.2)::(YL d)::(zz ac body d)::(QBn many)::(QDS f)::(QBZ g)::JZ::List.append (waW) ([QBl,(JY d),(Xi l),(496,.rowz true 4 [CK.bool] d.ps.n u),(JW d),(QEU f),(QEh g)]))) (Gb d E ac body u l many f g p')=(some (zm++([0=0,0=0,0=0,0=0]++wbP d p p')++(Y4 E d l)++[d.ps.n<=d.ps.n,QB 1 d.ps.n u u] ++ (QE7 ac)++[body=body]++(Xo d)++(ZK d)++(QNW f g many)++[Fn.func 103=Fn.func (103:FuncId)]++zm++zm++(Xo d)++([cO=cO]++wad d))):=by kernel_rfl
abbrev QEl(many':Int):List Prop:=
  ([0=0,many'=many',0=0,f'.length=f'.length,cO=cO,f'.length<=f'.length,QB 2 f'.length (λi=>QA.enc (f'.getD i (Lay.mk (0:Int) (0:Int)))) fun
  i=>QA.enc (f'.getD i (Lay.mk (0:Int) (0:Int))),0=0,g'.length=g'.length,cO=cO]++wbJ g')
theorem QTZ(l:List Lay)(p p':Nat)(many':Int)(f' g':List Lay):QE 464 (QRR d p) (((X3 d l)::(201,.mp E.1 E.2)::(YL d)::(zz ac body d)::(Wx many')::(qB f')::(WE g')::JZ::List.append (waW) ([QBl,(JY d),(Xi l),(496,.rowz true 4 [CK.bool] d.ps.n u'),(JW d),(qT f'),(WM g')]))) (Gb d E ac body u' l many' f' g' p')=(some (zm++([0=0,0=0,0=0,0=0]++wbP d p p')++(Y4 E d l)++[d.ps.n<=d.ps.n,QB 1 d.ps.n u' u']++(QE7 ac)++[body=body]++(Xo d)++(ZK d)++(QEl f' g' many')++[Fn.func 103=Fn.func (103:FuncId)]++zm++zm++(Xo d)++([cO=cO]++wad d))):=by kernel_rfl
theorem QX6(l:List Lay)(many':Int)(f' g':List Lay):QE 464 [.bool false false] ([(X3 d l),(201,.mp E.1 E.2),(YL d),(329,.lp LoopState.done (some (Code.exit 0)) (YD d) (Array.mk [18]) ac body),(Wx many'),(qB f'), (WE g'),(Xi l),(496,.rowz true 4 [CK.bool] d.ps.n u'),(qT f'),(WM g')]) (soF d E ac body u' l many' f' g')=(some ([false=false,d.pK.length=d.pK.length] ++ (Y4 E d l)++([d.ps.n<=d.ps.n,QB 1 d.ps.n u' u']++waU++[Array.mk [18]=Array.mk [(18:Tmp)],ac=ac,body=body])++(Xo d)++(ZK d)++(QEl f' g' many'))):=by kernel_rfl
theorem QRg(l:List Lay)(many:Int)(f g:List Lay):QE 464 [] ([(X3 d l),(201,.mp E.1 E.2),(YL d),(zz ac body d),(QBn many),(QDS f),(QBZ g),(JY d),(Xi l),(496,.rowz true 4 [CK.bool] d.ps.n u),(JW d), JZ,(296,.cellsR 0 96 [.nils]),(QEU f),(QEh g)]) (zH d E ac body u l many f g)=(some ([d.pK.length=d.pK.length]++(Y4 E d l)++[d.ps.n<=d.ps.n,QB 1 d.ps.n u u]++(QE7 ac)++[body=body]++(Xo d)++(ZK d)++(QNW f g many))):=by kernel_rfl
def QL(fn:Func)(k:Nat):Code×Code:=match (Ky (Qk fn))[k]? with
 | some (.rangeFunc _ _ ac body)=>(ac,body)
 | _=>(.skip,.skip)
def QAN:Tab:=Qa QS 68 (KE pb (clU l))
abbrev soN(P : Program)(T : Tab): Hnd := { hnd (mkE P T) 2 with loop := λ_ _ _=>.fail "a loop" }
abbrev soX(P:Program)(J:JSt)(X:List (Prop×Ex×JSt)):Hnd:={ hnd (mkE P QS) 2 with loop:=λ_=>Q4 464 ZY J X }
abbrev QLy:List Prop:=
  ([0=0,l.length=l.length,cO=cO]++wag l)
abbrev VY:Nat×Blk:=
  (200,.cells 0 152 (List.append (waf d) ([.map 201,.slz 432 0 l.length cO])))
abbrev VN:Nat×Blk:=
  (400,.cells 0 114 [.slz 456 0 d.ps.n cO])
abbrev ZZ:Nat×Blk:=
  (329,.lp LoopState.done (some (Code.exit 0)) (YD d) (Array.mk [18]) (QL f24 0).1 (QL f24 0).2)
abbrev Vf:Nat×Blk:=
  (120,.cells 0 3 [vi (i64.wrap (many+1))])
abbrev QHi:Nat×Blk:=
  (104,.cells 0 42 [.slz 672 0 l.length cO])
abbrev Yf:Nat×Blk:=
  (112,.cells 0 42 [.slz 448 0 g.length cO])
abbrev VW:Nat×Blk:=
  (432,.rowz true 49 kB l.length λi=>QA.enc (l.getD i (Lay.mk (0:Int) (0:Int))))
abbrev QEs:Nat×Blk:=
  (672,.rowz true 49 kB l.length λi=>QA.enc (l.getD i (Lay.mk (0:Int) (0:Int))))
abbrev YZ:Nat×Blk:=
  (448,.rowz true 49 kB g.length λi=>QA.enc (g.getD i (Lay.mk (0:Int) (0:Int))))
abbrev Ys:Nat×Blk:=
  (329,.lp LoopState.ready none (YD d) (Array.mk [18]) (QL f24 0).1 (QL f24 0).2)
abbrev Yg:Nat×Blk:=
  (104,.cells 0 42 [.slz 440 0 f.length cO])
abbrev QHs:Nat×Blk:=
  (112,.cells 0 42 [.slz 688 0 l.length cO])
abbrev Yk:Nat×Blk:=
  (440,.rowz true 49 kB f.length λi=>QA.enc (f.getD i (Lay.mk (0:Int) (0:Int))))
abbrev QFs:Nat×Blk:=
  (688,.rowz true 49 kB l.length λi=>QA.enc (l.getD i (Lay.mk (0:Int) (0:Int))))
theorem Qco(l:List Lay)(many:Int)(f g:List Lay):(Vh (mkE prog (QAN pb l)) (soN prog (QAN pb l)) f103 QHc (Gv d E (QL f24 0).1 (QL f24 0).2 u l many f g).hp 464 λv h _=>Y0
  ZY v h) = .br ((l.length:Int)==(d.ps.n:Int)) (.br (i64.wrap (many+1)==1) (.need (pb ((QLy l))) (.br (i64.wrap (many+1)==100) (.leaf (.bool true
  false) ([(VY d l),(201,.mp E.1 E.2),(VN d),(ZZ d),(Vf many),(QHi l),(Yf g),(JY d),(VW l),(456,.rowz true 4 [CK.bool] d.ps.n u),(JW d),JZ,(296,
  .cellsR 0 96 [.nils]),(QEs l),(YZ g)])) (.leaf (.bool true true) ([(VY d l),(201,.mp E.1 E.2),(VN d),(Ys d),(Vf many),(QHi l),(Yf g),(JY d),(VW l),
  (456,.rowz true 4 [CK.bool] d.ps.n u),(JW d),JZ,(296,.cellsR 0 96 [.nils]),(QEs l),(YZ g)])))) (.br (i64.wrap (many+1)==2) (.need (pb ((QLy l))) (.br
  (i64.wrap (many+1)==100) (.leaf (.bool true false) ([(VY d l),(201,.mp E.1 E.2),(VN d),(ZZ d),(Vf many),(Yg f),(QHs l),(JY d),(VW l),(456,
  .rowz true 4 [CK.bool] d.ps.n u),(JW d),JZ,(296,.cellsR 0 96 [.nils]),(Yk f),(QFs l)])) (.leaf (.bool true true) ([(VY d l),(201,.mp E.1 E.2),(VN d),(Ys
  d),(Vf many),(Yg f),(QHs l),(JY d),(VW l),(456,.rowz true 4 [CK.bool] d.ps.n u),(JW d),JZ,(296,.cellsR 0 96 [.nils]),(Yk f),(QFs l)])))) (.br
  (i64.wrap (many+1)==100) (.leaf (.bool true false) ([(VY d l),(201,.mp E.1 E.2),(VN d),(ZZ d),(Vf many),(Yg f),(Yf g),(JY d),(VW l),(456,
  .rowz true 4 [CK.bool] d.ps.n u),(JW d),JZ,(296,.cellsR 0 96 [.nils]),(Yk f),(YZ g)])) (.leaf (.bool true true) ([(VY d l),(201,.mp E.1 E.2),(VN d),(Ys d),
  (Vf many),(Yg f),(Yf g),(JY d),(VW l),(456,.rowz true 4 [CK.bool] d.ps.n u),(JW d),JZ,(296,.cellsR 0 96 [.nils]),(Yk f),(YZ g)]))))) (.fail
  ("a loop")) := by kernel_rfl
abbrev QO9:Nat×Blk:=
  (712,.rowz true 49 kB (0+l.length) (KF 0 (λx x_1=>(0:Int)) λi=>QA.enc (l.getD i (Lay.mk (0:Int) (0:Int)))))
abbrev QJi:Nat×Blk:=
  (728,.rowz true 49 kB (0+l.length) (KF 0 (λx x_1=>(0:Int)) λi=>QA.enc (l.getD i (Lay.mk (0:Int) (0:Int)))))
abbrev wbD:List Prop:=[(QL f24 0).1=(QL f24 0).1,(QL f24 0).2=(QL f24 0).2]
theorem QMe(u u':Nat->Nat->Int)(l:List Lay)(many:Int)(f g:List Lay)(A B:Prop)(many':Int)(f' g':List Lay):(Vh (mkE prog QS) (soX prog (Gb d E (QL f24 0).1 (QL f24 0).2 u l many f g 0) [(A,.exit 0,zH d E (QL f24 0).1 (QL f24 0).2 u' l many' f' g'),(B,.ret,soF d E (QL f24 0).1 (QL f24 0).2 u' l many' f' g')]) f103 QHc (Gv d E (QL f24 0).1 (QL f24 0).2 u l many f g).hp 464 λv h _=>Y0 ZY v h) = .br ((l.length:Int)==(d.ps.n:Int)) (.br (i64.wrap (many+1)==1) (.need (decide (0<l.length/\l.length<=l.length)) (.need (true&&(decide (l.length<=l.length)&&decide ((0+l.length+(0+l.length) / 4+192)*16<=281474976710656/\0+l.length<=9223372036854775807))) (.br (i64.wrap (many+1)==100) (.leaf (.bool true false) ([(VY d l),(201,.mp E.1 E.2),(VN d),(ZZ d),(Vf many),(104,.cells 0 42 [.slz 712 0 (0+l.length) cO]),(Yf g),(JY d),(VW l),(456,.rowz true 4 [CK.bool] d.ps.n u),(JW d),JZ,(296,.cellsR 0 96 [.nils]),(QO9 l),(YZ g)])) (.leaf (.bool true true) ([(VY d l),(201,.mp E.1 E.2),(VN d),(Ys d),(Vf many),(104,.cells 0 42 [.slz 712 0 (0+l.length) cO]),(Yf g),(JY d),(VW l),(456,.rowz true 4 [CK.bool] d.ps.n u),(JW d),JZ,(296,.cellsR 0 96 [.nils]),(QO9 l),(YZ g)]))))) (.br (i64.wrap (many+1)==2) (.need (decide (0<l.length/\l.length<=l.length)) (.need (true&&(decide (l.length<=l.length)&&decide ((0+l.length+(0+l.length) / 4+192)*16<=281474976710656/\0+l.length<=9223372036854775807))) (.br (i64.wrap (many+1)==100) (.leaf (.bool true false) ([(VY d l),(201,.mp E.1 E.2),(VN d),(ZZ d),(Vf many),(Yg f),(112,.cells 0 42 [.slz 728 0 (0+l.length) cO]),(JY d),(VW l),(456,.rowz true 4 [CK.bool] d.ps.n u),(JW d),JZ,(296,.cellsR 0 96 [.nils]),(Yk f),(QJi l)])) (.leaf (.bool true true) ([(VY d l),(201,.mp E.1 E.2),(VN d),(Ys d),(Vf many),(Yg f),(112,.cells 0 42 [.slz 728 0 (0+l.length) cO]),(JY d),(VW l),(456,.rowz true 4 [CK.bool] d.ps.n u),(JW d),JZ,(296,.cellsR 0 96 [.nils]),(Yk f),(QJi l)]))))) (.br (i64.wrap (many+1)==100) (.leaf (.bool true false) ([(VY d l),(201, .mp E.1 E.2),(VN d),(ZZ d),(Vf many),(Yg f),(Yf g),(JY d),(VW l),(456,.rowz true 4 [CK.bool] d.ps.n u),(JW d),JZ,(296,.cellsR 0 96 [.nils]),(Yk f),(YZ g)])) (.leaf (.bool true true) ([(VY d l),(201,.mp E.1 E.2),(VN d),(Ys d),(Vf many),(Yg f),(Yf g),(JY d),(VW l),(456,.rowz true 4 [CK.bool] d.ps.n u),(JW d),JZ,(296,.cellsR 0 96 [.nils]),(Yk f),(YZ g)]))))) (.ak (rz 10) (.ak ([(d.ps.n:Int)=(d.ps.n:Int),(0:Int)=0]++waa d++(([cO=cO,0=0]++wb2 E l)++wag l++((wbO d++[QB 1 d.ps.n u u])++wak++([Array.mk [(18:Tmp)]=Array.mk [(18:Tmp)]]++wbD)))++waa d++[cO=cO]) (.ak (rz 8) (.ak ([(0:Int)=0,0=0,0=0,0=0,0=0,(0:Int)=0]++waa d++((((wcc)++wa7++(wb5++[0=0,many=many,0=0,f.length=f.length,cO=cO]))++waH f++[0=0,g.length=g.length,cO=cO])++wav g++[Fn.func (103:FuncId)=Fn.func (103:FuncId)])) (.ak (rz 12) (.ak (waa d++([cO=cO]++wad d)) (.both (.asm (A) (.all (λ(g0:Nat->Value)=>.leaf (.bool true true) ([(X3 d l),(201,.mp E.1 E.2),(YL d),(Ys d),(Wx many'),(qB f'),(WE g'),(Xi l), (496,.rowz true 4 [CK.bool] d.ps.n u'),(qT f'),(WM g')])))) (.asm (B) (.all (λ(g1:Nat->Value)=>.leaf (.bool false false) ([(X3 d l),(201,.mp E.1 E.2),(YL d),(ZZ d),(Wx many'),(qB f'),(WE g'),(Xi l),(496,.rowz true 4 [CK.bool] d.ps.n u'),(qT f'),(WM g')]))))))))))):=by kernel_rfl
abbrev QB5:List Prop:=
  (wak++([Array.mk [18]=Array.mk [(18:Tmp)]]++wbD))
abbrev QHt:List Prop:=
  [g.length=g'.length,cO=cO,g'.length<=g.length,QB 2 g'.length (λi=>QA.enc (g.getD i (Lay.mk (0:Int) (0:Int)))) λi=>QA.enc (g'.getD i (Lay.mk
  (0:Int) (0:Int)))]
theorem Qcc(l:List Lay)(many:Int)(f g:List Lay)(many':Int)(f' g':List Lay):QE 464 [(.bool true true)] ([(VY d l),(201,.mp E.1 E.2),(VN d),(Ys d),(Vf many),(QHi l),(Yf g),(JY d),(VW l),(456,.rowz true 4 [CK.bool] d.ps.n u), (JW d),JZ,(296,.cellsR 0 96 [.nils]),(QEs l),(YZ g)]) (KQ (J5 d E (QL f24 0).1 (QL f24 0).2 u l many f g many' f' g'))=(some ([true=true, d.pK.length=d.pK.length]++(Y4 E d l)++[d.ps.n<=d.ps.n,QB 1 d.ps.n u u]++QB5++(Xo d)++(ZK d)++[0=0,i64.wrap (many+1)=many',0=0, l.length=f'.length,cO=cO,f'.length<=l.length,QB 2 f'.length (λi=>QA.enc (l.getD i (Lay.mk (0:Int) (0:Int)))) λi=>QA.enc (f'.getD i (Lay.mk (0:Int) (0:Int))),0=0]++(QHt g g'))):=by kernel_rfl
abbrev QIl(many:Int)(many':Int):List Prop:=
  [0=0,i64.wrap (many+1)=many',0=0,f.length=f'.length,cO=cO,f'.length<=f.length,QB 2 f'.length (λi=>QA.enc (f.getD i (Lay.mk (0 :
  Int) (0:Int)))) λi=>QA.enc (f'.getD i (Lay.mk (0:Int) (0:Int))),0=0]
theorem Qaz(l:List Lay)(many:Int)(f g:List Lay)(many':Int)(f' g':List Lay):QE 464 [(.bool true true)] ([(VY d l),(201,.mp E.1 E.2),(VN d),(Ys d),(Vf many),(Yg f),(QHs l),(JY d),(VW l),(456,.rowz true 4 [CK.bool] d.ps.n u), (JW d),JZ,(296,.cellsR 0 96 [.nils]),(Yk f),(QFs l)]) (KQ (J5 d E (QL f24 0).1 (QL f24 0).2 u l many f g many' f' g'))=(some ([true=true, d.pK.length=d.pK.length]++(Y4 E d l)++[d.ps.n<=d.ps.n,QB 1 d.ps.n u u]++QB5++(Xo d)++(ZK d)++(QIl f f' many many')++[l.length=g'.length, cO=cO,g'.length<=l.length,QB 2 g'.length (λi=>QA.enc (l.getD i (Lay.mk (0:Int) (0:Int)))) λi=>QA.enc (g'.getD i (Lay.mk (0:Int) (0:Int)))])):=by kernel_rfl
abbrev QRV:List Prop:=
  (waU++([Array.mk [18]=Array.mk [(18:Tmp)]]++wbD))
theorem Qb9(l:List Lay)(many:Int)(f g:List Lay)(many':Int)(f' g':List Lay):QE 464 [(.bool true false)] ([(VY d l),(201,.mp E.1 E.2),(VN d),(ZZ d),(Vf many),(Yg f),(Yf g),(JY d),(VW l),(456,.rowz true 4 [CK.bool] d.ps.n u), (JW d),JZ,(296,.cellsR 0 96 [.nils]),(Yk f),(YZ g)]) (KQ (XH d E (QL f24 0).1 (QL f24 0).2 u l many f g many' f' g'))=(some ([false=false, d.pK.length=d.pK.length]++(Y4 E d l)++[d.ps.n<=d.ps.n,QB 1 d.ps.n u u]++QRV++(Xo d)++(ZK d)++(QIl f f' many many')++(QHt g g'))):=by kernel_rfl
theorem Qa2(l:List Lay)(many:Int)(f g:List Lay)(many':Int)(f' g':List Lay):QE 464 [(.bool true true)] ([(VY d l),(201,.mp E.1 E.2),(VN d),(Ys d),(Vf many),(Yg f),(Yf g),(JY d),(VW l),(456,.rowz true 4 [CK.bool] d.ps.n u), (JW d),JZ,(296,.cellsR 0 96 [.nils]),(Yk f),(YZ g)]) (KQ (J5 d E (QL f24 0).1 (QL f24 0).2 u l many f g many' f' g'))=(some ([true=true, d.pK.length=d.pK.length]++(Y4 E d l)++[d.ps.n<=d.ps.n,QB 1 d.ps.n u u]++QB5++(Xo d)++(ZK d)++(QIl f f' many many')++(QHt g g'))):=by kernel_rfl
theorem Qe9(u u':Nat->Nat->Int)(l:List Lay)(many:Int)(f g:List Lay)(many':Int)(f' g':List Lay):QE 464 [(.bool true true)] ([(X3 d l),(201,.mp E.1 E.2),(YL d),(Ys d),(Wx many'),(qB f'),(WE g'),(Xi l),(496,.rowz true 4 [CK.bool] d.ps.n u'),(qT f'),(WM g')]) (KQ (J5 d E (QL f24 0).1 (QL f24 0).2 u l many f g many' f' g'))=(some ([true=true,d.pK.length=d.pK.length]++(Y4 E d l) ++ [d.ps.n<=d.ps.n,QB 1 d.ps.n u' u]++QB5++(Xo d)++(ZK d)++(QEl f' g' many'))):=by kernel_rfl
theorem QUo(u u':Nat->Nat->Int)(l:List Lay)(many:Int)(f g:List Lay)(many':Int)(f' g':List Lay):QE 464 [(.bool false false)] ([(X3 d l),(201,.mp E.1 E.2),(YL d),(ZZ d),(Wx many'),(qB f'),(WE g'),(Xi l),(496,.rowz true 4 [CK.bool] d.ps.n u'), (qT f'),(WM g')]) (KQ (XH d E (QL f24 0).1 (QL f24 0).2 u l many f g many' f' g'))=(some ([false=false,d.pK.length=d.pK.length]++(Y4 E d l)++[d.ps.n<=d.ps.n,QB 1 d.ps.n u' u]++QRV++(Xo d)++(ZK d)++(QEl f' g' many'))):=by kernel_rfl
abbrev SoS:=Int×List Lay×List Lay
inductive QZ (σ:Type) where
 | go (s:σ)
 | stop (s:σ)
def Qw{σ α:Type}(f:σ->α->QZ σ):List α->σ->QZ σ
 | [],s => .go s
 | a::r,s=>match f s a with
  | .go s'=>Qw f r s'
  | .stop s' => .stop s'
def Y3(s:SoS):QZ SoS:=cond (i64.wrap (s.1+1)==100)
 (.stop (i64.wrap (s.1+1),cond (i64.wrap (s.1+1)==1) l s.2.1,cond (i64.wrap (s.1+1)==1) s.2.2 (cond (i64.wrap (s.1+1)==2) l s.2.2)))
 (.go (i64.wrap (s.1+1),cond (i64.wrap (s.1+1)==1) l s.2.1,cond (i64.wrap (s.1+1)==1) s.2.2 (cond (i64.wrap (s.1+1)==2) l s.2.2)))
def QX:Nat:=(tnV d p).toNat
def KB(rec:List Lay->σ->QZ σ)(l:List Lay)(p:Nat)(s:σ)(t:Nat):QZ σ:=cond (Q0 d E l ⟨p,t⟩) (rec (l++[⟨p,t⟩]) s) (.go s)
def inZ(rec:List Lay->σ->QZ σ)(l:List Lay)(p:Nat)(s:σ):QZ σ:=Qw (KB d E rec l p) (List.range (QX d p)) s
def Km(rec:List Lay->σ->QZ σ)(l:List Lay)(s:σ)(p:Nat):QZ σ:=cond (KI l p) (.go s) (inZ d E rec l p s)
def onY{σ:Type}(d:Puz)(E:ECt)(Y:List Lay->σ->QZ σ):Nat->List Lay->σ->QZ σ
 | 0,l,s=>Y l s
 | k+1,l,s=>Qw (Km d E (onY d E Y k) l) (List.range d.ps.n) s
def onZ:Nat->List Lay->SoS->QZ SoS:=onY d E Y3
def Jm(A:Int->Lay->Bool)(d:Puz)(E:ECt)(rec:List Lay->σ->QZ σ)(l:List Lay)(p:Nat)(s:σ)(t:Nat):QZ σ:=cond (A l.length ⟨p,t⟩) (KB d E rec l p s t) (.go s)
def inA(A:Int->Lay->Bool)(d:Puz)(E:ECt)(rec:List Lay->σ->QZ σ)(l:List Lay)(p:Nat)(s:σ):QZ σ:=Qw (Jm A d E rec l p) (List.range (QX d p)) s
def XM(A:Int->Lay->Bool)(d:Puz)(E:ECt)(rec:List Lay->σ->QZ σ)(l:List Lay)(s:σ)(p:Nat):QZ σ:=cond (KI l p) (.go s) (inA A d E rec l p s)
def onA{σ:Type}(A:Int->Lay->Bool)(d:Puz)(E:ECt)(Y:List Lay->σ->QZ σ):Nat->List Lay->σ->QZ σ
 | 0,l,s=>Y l s
 | k+1,l,s=>Qw (XM A d E (onA A d E Y k) l) (List.range d.ps.n) s
theorem Wc{f:σ->Nat->QZ σ}{n k:Nat}(h:k<n)(s:σ):Qw f ((List.range n).drop k) s=match f s k with
  | .go s'=>Qw f ((List.range n).drop (k+1)) s'
  | .stop s' => .stop s':=by
 have:(List.range n).drop k=k::(List.range n).drop (k+1):=by
  rw[List.drop_eq_getElem_cons (by simpa using h)]
  simp
 rw[this,Qw]
theorem WH{f:σ->Nat->QZ σ}{n k:Nat}(h:n<=k)(s:σ):Qw f ((List.range n).drop k) s = .go s:=by
 rw[List.drop_eq_nil_of_le (by simpa using h),Qw]
theorem QNF(p:Int):tnV d p=1∨tnV d p=4:=by
 unfold tnV;cases d.turn&&decide (0<p)
 .exact .inl rfl
 .exact .inr rfl
def YJ(s:SoS):QZ SoS->UC
 | .go s'=>J5 d E ac body (QD l) l s.1 s.2.1 s.2.2 s'.1 s'.2.1 s'.2.2
 | .stop s'=>XH d E ac body (QD l) l s.1 s.2.1 s.2.2 s'.1 s'.2.1 s'.2.2
open Classical in
def ZV:List Prop->Bool:=if t<QX d p then QP else λ_=>false
def jQ(P:Program)(d:Puz)(E:ECt)(ac body:Code)(rec:List Lay->SoS->QZ SoS)(l:List Lay)(p:Nat)(k:Nat×SoS):Env:=
 mkE P (QAb (ZV d p k.1) (ZV d p k.1) d E l ⟨p,k.1⟩ (Q0 d E l ⟨p,k.1⟩) (YJ d E ac body (l++[⟨p,k.1⟩]) k.2 (rec (l++[⟨p,k.1⟩]) k.2)))
def ZB(rec:List Lay->SoS->QZ SoS)(l:List Lay)(p:Nat)(k:Nat×SoS)(e:Ex)(J:JSt):Prop:=match Qw (KB d E rec l p) ((List.range (QX d p)).drop k.1) k.2 with
 | .go s'=>e = .exit 2/\J=QBJ d E ac body (QD l) l s'.1 s'.2.1 s'.2.2 p
 | .stop s'=>e = .ret/\J=soF d E ac body (QD l) l s'.1 s'.2.1 s'.2.2
theorem qO(x:Lay):QB 2 (l++[x]).length (KF l.length (λi=>QA.enc (l.getD i ⟨0,0⟩)) (Kg [[.int false .i64 x.piece,.int false .i64 x.turn]] 0)) λi=>QA.enc ((l++[x]).getD i ⟨0,0⟩):=by
 intro i hi;rw[List.length_append,List.length_singleton]at hi;show eqF 2 0 _ (QA.enc ((l++[x]).getD i ⟨0,0⟩))
 by_cases h:i<l.length
 .have e:(l++[x]).getD i ⟨0,0⟩=l.getD i ⟨0,0⟩:=by
   rw[List.getD_eq_getElem?_getD,List.getD_eq_getElem?_getD,List.getElem?_append_left h]
  rw[e];refine⟨?_,?_,trivial⟩<;>(rw[YI,if_pos h])
 .obtain rfl:i=l.length:=by omega
  have e:(l++[x]).getD l.length ⟨0,0⟩=x:=by
   rw[List.getD_eq_getElem?_getD,List.getElem?_append_right (qlr _)];simp
  rw[e];refine⟨?_,?_,trivial⟩<;>(rw[YI,if_neg h,Nat.sub_self];rfl)
theorem qN(x:Lay):QB 2 l.length (λi=>QA.enc ((l++[x]).getD i ⟨0,0⟩)) λi=>QA.enc (l.getD i (⟨0,0⟩:Lay)):=by
 intro i hi
 have e:(l++[x]).getD i ⟨0,0⟩=l.getD i ⟨0,0⟩:=by
  rw[List.getD_eq_getElem?_getD,List.getD_eq_getElem?_getD,List.getElem?_append_left hi]
 show eqF 2 0 (QA.enc ((l++[x]).getD i ⟨0,0⟩)) _;rw[e];exact⟨rfl,rfl,trivial⟩
theorem QKE(t:Int)(i:Nat):KI (l++[⟨p,t⟩]) i=(KI l i||decide (i=p)):=by
 unfold KI;rw[List.any_append];congr 1;simp only[List.any_cons,List.any_nil,Bool.or_false];rw[Bool.eq_iff_iff];simp only[beq_iff_eq,qdE];omega
theorem Wa(n p:Nat)(t:Int):QB 1 n (λi=>bif decide (i=p)then KH [.bool true true] 0 (QD l ((p:Int).toNat+0))else QD l i) (QD (l++[⟨p,t⟩])):=by
 intro i _;refine⟨?_,trivial⟩;show(bif decide (i=p)then KH [.bool true true] 0 (QD l ((p:Int).toNat+0))else QD l i) 0=QD (l++[⟨p,t⟩]) i 0
 unfold QD;rw[QKE];cases h:decide (i=p)with
 | true=>rw[Bool.or_true];rfl
 | false=>rw[Bool.or_false];rfl
theorem qE(n p:Nat)(t:Int)(hu:KI l p=false):QB 1 n (λi=>bif decide (i=p)then KH [.bool true false] 0 (QD (l++[⟨p,t⟩]) ((p:Int).toNat+0))else QD (l++[⟨p,t⟩]) i) (QD l):=by
 intro i _;refine⟨?_,trivial⟩;show(bif decide (i=p)then KH [.bool true false] 0 (QD (l++[⟨p,t⟩]) ((p:Int).toNat+0))else QD (l++[⟨p,t⟩]) i) 0=QD l i 0
 cases h:decide (i=p)with
 | true=>
  obtain rfl:i=p:=qdt h;unfold QD;rw[hu];rfl
 | false=>
  show QD (l++[⟨p,t⟩]) i 0=_;unfold QD;rw[QKE,h,Bool.or_false]
