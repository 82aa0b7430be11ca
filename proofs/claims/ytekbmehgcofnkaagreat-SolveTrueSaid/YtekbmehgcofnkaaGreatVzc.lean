/- - -/
import Derived.Test.YtekbmehgcofnkaaGreatVzb
noncomputable section
open Go.Proofs.Tryz
open Go.IntKind (i64)
set_option maxRecDepth 100000
namespace Go.Proofs.YtekbmehgcofnkaaGreat
open Go.SX Go.SX.Told
variable {σ:Type}(pb:List Prop->Bool)(d:Puz)(E:ECt)(ac body:Code)(l:List Lay)(u':Nat->Nat->Int)(l2:List Lay)(u:Nat->Nat->Int)(p:Nat)(u2:Nat->Nat->Int)(many:Int)(f g:List Lay)(t:Nat)(f':List Lay)(many':Int)(g':List Lay)(tn:Int)
def Q6(i:Nat):Bool:=l.any λy=>y.piece==(i:Int)
def QD(i:Nat)(_:Nat):Int:=cond (Q6 l i) 1 0
def rwY(id:Nat)(l:List Lay):Nat×Blk:=(id,.rowz true 49 kB l.length λi=>QA.enc (l.getD i ⟨0,0⟩))
def rwU(id:Nat)(d:Puz)(u:Nat->Nat->Int):Nat×Blk:=(id,.rowz true 4 [.bool] d.ps.n u)
def YO:List AV:=[.agg (KZ d),.ptr 96 0 0,.ptr 104 0 0,.ptr 112 0 0,.ptr 120 0 0,.int true .i64 0,.ptr 200 0 0,.tup [],.tup [.ptr 200 0 0,.int true .i64 0],.agg (KZ d),.tup [.ptr 200 0 0,.int true .i64 0],.ptr 200 0 0,.int true .i64 0,.int true .i64 0,.bool true false,.tup [],.ptr 200 0 0,.fn (.func 102) [.ptr 288 0 0,.ptr 296 0 0],.tup [],.tup [],.tup [],.tup [],.tup [],.tup [],.tup [],.tup [],.tup [],.tup [],.tup [],.tup [],.tup [],.tup [],.tup [],.tup [],.tup [],.tup [],.tup []]
def QIk:List AV:=[.ptr 288 0 0,.ptr 336 0 0,.ptr 400 0 0,.ptr 296 0 0,.ptr 416 0 0]
def QDp:List (Nat×Blk):=
 [(416,.cellsR 0 31 [.fn (.func 103) QIk]),(336,.cellsR 0 105 [.yld 329]),(296,.cellsR 0 96 [.nils]),(288,.cellsR 0 90 [.ptr 200 0 0]),(96,.cellsR 0 28 (KZ d))]++Qg.blk 0 d.ps
def YV(ls:LoopState)(pe:Option Code)(d:Puz)(E:ECt)(ac body:Code)(u:Nat->Nat->Int)(l:List Lay)(a b c w:Nat)(many:Int)(f g:List Lay):List (Nat×Blk):=
 [(200,.cells 0 152 (KZ d++[.map 201,.slz a 0 l.length (.of 0)])),(201,.mp E.1 E.2),rwY a l,(400,.cells 0 114 [.slz w 0 d.ps.n (.of 0)]),rwU w d u,(329,.lp ls pe (YO d) #[18] ac body),(120,.cells 0 3 [vi many]),(104,.cells 0 42 [.slz b 0 f.length (.of 0)]),rwY b f,(112,.cells 0 42 [.slz c 0 g.length (.of 0)]),rwY c g]
def QRs:List (Nat×AV):=[(0,.ptr 288 0 0),(1,.ptr 336 0 0),(2,.ptr 400 0 0),(3,.ptr 296 0 0),(4,.ptr 416 0 0)]
def Gi(l:List Lay)(many:Int)(f g:List Lay):JSt:=⟨5,QRs,YV .ready none d E ac body u l 432 440 448 456 many f g++QDp d,464⟩
def VX(l:List Lay)(many:Int)(f g:List Lay)(many':Int)(f' g':List Lay):UC:=
 ⟨424,Gi d E ac body u l many f g,λ_=>.bool false true,λm=>YV .ready none d E ac body u l m (m+1) (m+2) (m+3) many' f' g'⟩
def Xq(l:List Lay)(many:Int)(f g:List Lay)(many':Int)(f' g':List Lay):UC:=
 ⟨424,Gi d E ac body u l many f g,λ_=>.bool false false,λm=>YV .done (some (.exit 0)) d E ac body u l m (m+1) (m+2) (m+3) many' f' g'⟩
def WB:List Nat:=[200,201,400,329,120,104,112]
def QJL(n:Nat)(p:Nat):List (Nat×AV):=QRs++[(33,.int false .i64 n),(34,.int false .i64 p)]
def Qhh(n:Nat)(p:Nat)(tn:Int)(t:Nat):List (Nat×AV):=QJL n p++[(6,.int false .i64 p),(43,.int false .i64 tn),(44,.int false .i64 t)]
def G5(l:List Lay)(many:Int)(f g:List Lay)(p:Nat):JSt:=⟨101,QJL d.ps.n p,YV .ready none d E ac body u l 472 480 488 496 many f g++QDp d,504⟩
def GO(l:List Lay)(many:Int)(f g:List Lay)(p:Nat)(tn:Int)(t:Nat):JSt:=⟨101,Qhh d.ps.n p tn t,YV .ready none d E ac body u l 472 480 488 496 many f g++QDp d,504⟩
def Hz(l:List Lay)(many:Int)(f g:List Lay):JSt:=⟨101,[],YV .ready none d E ac body u l 472 480 488 496 many f g,504⟩
def QBT(l:List Lay)(many:Int)(f g:List Lay)(p:Nat):JSt:=⟨101,QJL d.ps.n p,YV .ready none d E ac body u l 472 480 488 496 many f g++QDp d,504⟩
def soF(l:List Lay)(many:Int)(f g:List Lay):JSt:=⟨101,[(5,.bool false false)],YV .done (some (.exit 0)) d E ac body u l 472 480 488 496 many f g,504⟩
def QS0:Ex->List Nat
 | .normal=>[0,1,2,3,4,33,34]
 | .exit _=>[]
 | .ret=>[5]
def QKW:Ex->List Nat
 | .normal=>[0,1,2,3,4,33,34,6,43,44]
 | .exit _=>[0,1,2,3,4,33,34]
 | .ret=>[5]
def QCE(pb1 pb2:List Prop->Bool)(d:Puz)(E:ECt)(l:List Lay)(x:Lay)(v:Bool)(U:UC):Tab:=Qc (Qc QV 105 (KT pb1 (myU d E l x v))) 103 (KT pb2 U)
abbrev waL:List AV:=[.ptr 288 0 0,.ptr 336 0 0,.ptr 400 0 0,.ptr 296 0 0,.ptr 416 0 0]
abbrev wbJ(p:Nat)(t:Nat)(tn:Int):List AV:=[vi (p:Int),vi (p:Int),.int false .i64 tn,vi (i64.wrap ((t:Int)+1))]
abbrev QAO:List AV:=(.nilp::.ptr 101 0 0::List.append (waL) ((vi (d.ps.n:Int)::wbJ p t tn)))
abbrev QFQ(d:Puz):Nat×Blk:=(329,.lp LoopState.ready none (YO d) (Array.mk [18]) ac body)
abbrev vf:Nat×Blk:=(288,.cellsR 0 90 [.ptr 200 0 0])
abbrev QGg:Nat×Blk:=(416,.cellsR 0 31 [.fn (Fn.func 103) (waL)])
abbrev vX:Nat×Blk:=(0,.frz (wae) d.ps.n λi=>QA.enc (d.ps.get i))
abbrev vh:Nat×Blk:=(96,.cellsR 0 28 (waf d))
abbrev waV:List (Nat×Blk):=[(336,.cellsR 0 105 [.yld 329]),(296,.cellsR 0 96 [.nils])]
abbrev jJ(d:Puz)(f:List Lay)(g:List Lay)(l:List Lay)(many:Int)(u:Nat->Nat->Int):List (Nat×Blk):=((200,.cells 0 152 (List.append (waf d) ([.map 201,.slz 472 0 l.length cO])))::(201,.mp E.1 E.2)::(400,.cells 0 114 [.slz 496 0 d.ps.n cO])::(QFQ ac body d)::(120,.cells 0 3 [vi many])::(104,.cells 0 42 [.slz 480 0 f.length cO])::(112,.cells 0 42 [.slz 488 0 g.length cO])::vf::List.append (waV) ([QGg,(vX d),(472,.rowz true 49 kB l.length λi=>QA.enc (l.getD i (Lay.mk (0:Int) (0:Int)))),(496,.rowz true 4 [CK.bool] d.ps.n u),(vh d),(480,.rowz true 49 kB f.length λi=>QA.enc (f.getD i (Lay.mk (0:Int) (0:Int)))),(488,.rowz true 49 kB g.length λi=>QA.enc (g.getD i (Lay.mk (0:Int) (0:Int))))]))
abbrev wag(l:List Lay):List Prop:=[l.length<=l.length,QB 2 l.length (λi=>QA.enc (l.getD i (Lay.mk (0:Int) (0:Int)))) λi=>QA.enc (l.getD i (Lay.mk (0:Int) (0:Int)))]
abbrev wcd(l:List Lay):List Prop:=[cO=cO,0=0,l.length=l.length,cO=cO]
abbrev QTT(d:Puz)(l:List Lay)(p:Nat)(t:Nat):List Prop:=([0=0,0=0,(p:Int)=(p:Int),(t:Int)=(t:Int)]++waa d++(((wcd l)++wag l++[E.1=E.1,E.2=E.2])++wad d))
abbrev wai:List Prop:=[LoopState.ready=LoopState.ready,(none:Option Code)=none]
abbrev waI(f:List Lay):List Prop:=[f.length<=f.length,QB 2 f.length (λi=>QA.enc (f.getD i (Lay.mk (0:Int) (0:Int)))) λi=>QA.enc (f.getD i (Lay.mk (0:Int) (0:Int)))]
abbrev wa6:List Prop:=[(0:Int)=0,(0:Int)=0,false=false]
abbrev wbo(d:Puz):List Prop:=[0=0,d.ps.n=d.ps.n,cO=cO,d.ps.n<=d.ps.n]
abbrev wcm:List Prop:=[0=0,0=0,0=0,0=0,0=0,0=0,0=0,0=0]
abbrev wbN:List Prop:=(wcm++[0=0,0=0])
abbrev wcf:List Prop:=[cO=cO,0=0,0=0,(0:Int)=0,0=0,0=0]
abbrev wcg:List Prop:=[Fn.func 102=Fn.func 102,0=0,0=0,0=0,0=0]
abbrev wci:List Prop:=(wcm++[(0:Int)=0,0=0,0=0,0=0,0=0,(0:Int)=0])
abbrev QOD(d:Puz)(f:List Lay)(g:List Lay)(l:List Lay)(l2:List Lay)(many:Int)(p:Nat)(t:Nat)(u:Nat->Nat->Int)(u2:Nat->Nat->Int):List Prop:=((wbN)++waa d++(([cO=cO,0=0,l.length+1=l2.length,cO=cO,E.1=E.1,E.2=E.2,l2.length<=l.length+1,QB 2 l2.length (KQ l.length (λi=>QA.enc (l.getD i (Lay.mk (0:Int) (0:Int)))) (KD [[.int false .i64 (p:Int),vi (t:Int)]] 0)) λi=>QA.enc (l2.getD i (Lay.mk (0:Int) (0:Int)))]++wbo d++[QB 1 d.ps.n (λi=>bif decide (i=p)then Ki [.bool true true] 0 (u ((p:Int).toNat+0))else u i) u2])++wai++[Array.mk [18]=Array.mk [18],ac=ac,body=body])++waa d++([cO=cO]++wci)++waa d++(((wcf)++wa6++([0=0,0=0]++wcg++[many=many,0=0,f.length=f.length,cO=Cap.of 0]))++waI f++([0=0,g.length=g.length,cO=cO,g.length<=g.length,QB 2 g.length (λi=>QA.enc (g.getD i (Lay.mk (0:Int) (0:Int)))) λi=>QA.enc (g.getD i (Lay.mk (0:Int) (0:Int))),Fn.func 103=Fn.func 103]++wbN++[0=0,0=0]))++waa d++([cO=cO]++wad d))
abbrev QAN:Nat×Blk:=(200,.cells 0 152 (List.append (waf d) ([.map 201,.slz 816 0 (i64.wrap ((l2.length:Int)-1)).toNat cO])))
abbrev GV:Nat×Blk:=(400,.cells 0 114 [.slz 819 0 d.ps.n cO])
abbrev GF:Nat×Blk:=(120,.cells 0 3 [vi many'])
abbrev G3:Nat×Blk:=(104,.cells 0 42 [.slz 817 0 f'.length cO])
abbrev Hi:Nat×Blk:=(112,.cells 0 42 [.slz 818 0 g'.length cO])
abbrev Gz:Nat×Blk:=(816,.rowz true 49 kB l2.length λi=>QA.enc (l2.getD i (Lay.mk (0:Int) (0:Int))))
abbrev G6:Nat×Blk:=(819,.rowz true 4 [CK.bool] d.ps.n λi=>bif decide (i=p)then Ki [.bool true false] 0 (u2 ((p:Int).toNat+0))else u2 i)
abbrev HD:Nat×Blk:=(817,.rowz true 49 kB f'.length λi=>QA.enc (f'.getD i (Lay.mk (0:Int) (0:Int))))
abbrev GC:Nat×Blk:=(818,.rowz true 49 kB g'.length λi=>QA.enc (g'.getD i (Lay.mk (0:Int) (0:Int))))
abbrev QL9:List AV:=(.ptr 2 0 0::.ptr 101 0 0::List.append (waL) ([vi (d.ps.n:Int),vi (p:Int)]))
abbrev wbR:List AV:=[.nili,.ptr 101 0 0,.bool true false]
theorem Qhj(pb1 pb2:List Prop->Bool)(d:Puz)(E:ECt)(ac body:Code)(u u2:Nat->Nat->Int)(l l2:List Lay)(v:Bool)(many:Int)(f g:List Lay)(p:Nat)(tn:Int)(t:Nat)(many':Int)(f' g':List Lay)(g0:Nat->Value):exec (mkE prog (QCE pb1 pb2 d E l ⟨p,t⟩ v (VX d E ac body u2 l2 many f g many' f' g'))) (hnd (mkE prog (QCE pb1 pb2 d E l ⟨p,t⟩ v (VX d E ac body u2 l2 many f g many' f' g'))) 0) (QW (QI f103 0)) (JSt.inst (GO d E ac body u l many f g p tn t) g0) (Q5 WB QKW) = .br (decide ((t:Int)<tn)) (.need (true) (.br (!Qj (Rw.mk 0 λi=>Pt.mk (0:Int) (Lay.mk (0:Int) (0:Int))) (l.length:Int) (Lay.mk (p:Int) (t:Int))) (.leaf (.tup (QAO d p t tn)) ((jJ E ac body d f g l many u))) (.need (pb1 ((QTT E d l p t))) (.br (!v) (.leaf (.tup (QAO d p t tn)) ((jJ E ac body d f g l many u))) (.need (decide ((0:Int)<=(p:Int)/\(p:Int)<(d.ps.n:Int))&&decide (d.ps.n<=d.ps.n)) (.need (decide (p<d.ps.n)) (.need (decide (l.length<=l.length)&&(true&&decide ((l.length+1+(l.length+1) / 4+192)*16<=281474976710656/\l.length+1<=9223372036854775807))) (.need (pb2 ((QOD E ac body d f g l l2 many p t u u2))) (.need (decide ((0:Int)<=i64.wrap ((l2.length:Int)-1)/\(i64.wrap ((l2.length:Int)-1)).toNat<=l2.length-0)) (.need (decide ((0:Int)<=(p:Int)/\(p:Int)<(d.ps.n:Int))&&decide (d.ps.n<=d.ps.n)) (.need (decide (p<d.ps.n)) (.br (false) (.leaf (.tup (wbR)) ([(QAN d l2),(201,.mp E.1 E.2),(GV d),(QFQ ac body d),(GF many'),(G3 f'),(Hi g'), (vX d),(Gz l2),(G6 d p u2),(vh d),vf,(296,.cellsR 0 96 [.nils]),(HD f'),(GC g')])) (.leaf (.tup (QAO d p t tn)) (((QAN d l2)::(201,.mp E.1 E.2)::(GV d)::(QFQ ac body d)::(GF many')::(G3 f')::(Hi g')::vf::List.append (waV) ([QGg,(vX d),(Gz l2),(G6 d p u2),(vh d),(HD f'),(GC g')])))))))))))))))) (.leaf (.tup (QL9 d p)) ((jJ E ac body d f g l many u))):=by kernel_rfl
abbrev wbT(p:Nat)(t:Nat)(tn:Int):List AV:=[vi (p:Int),vi (p:Int),vi tn,.int false .i64 (i64.wrap ((t:Int)+1))]
abbrev QS7:List AV:=(List.append (waL) ((vi (d.ps.n:Int)::wbT p t tn)))
abbrev wat(g:List Lay):List Prop:=[g.length<=g.length,QB 2 g.length (λi=>QA.enc (g.getD i (Lay.mk (0:Int) (0:Int)))) λi=>QA.enc (g.getD i (Lay.mk (0:Int) (0:Int)))]
abbrev wb6(d:Puz)(p:Nat):List Prop:=[(d.ps.n:Int)=(d.ps.n:Int),(p:Int)=(p:Int)]
abbrev waH(d:Puz)(p:Nat):List Prop:=(wb6 d p++[(p:Int)=(p:Int)])
abbrev wb3:List Prop:=[0=0,0=0,Fn.func (102:FuncId)=Fn.func (102:FuncId),0=0,0=0,0=0]
abbrev QWy(d:Puz)(f:List Lay)(g:List Lay)(l:List Lay)(many:Int)(p:Nat)(t:Nat)(t':Nat)(tn:Int)(u:Nat->Nat->Int):List Prop:=(((wbN)++waH d p++[tn=tn,i64.wrap ((t:Int)+1)=(t':Int)])++waa d++((wcd l++[E.1=E.1,E.2=E.2])++wag l++((wbo d++[QB 1 d.ps.n u u])++wai++[Array.mk [18]=Array.mk [(18:Tmp)],ac=ac,body=body]))++waa d++([cO=cO]++wci)++waa d++(((wcf)++wa6++(wb3++[0=0,many=many,0=0,f.length=f.length,cO=cO,f.length<=f.length,QB 2 f.length (λi=> QA.enc (f.getD i (Lay.mk (0:Int) (0:Int)))) λi=>QA.enc (f.getD i (Lay.mk (0:Int) (0:Int))),0=0,g.length=g.length,cO=cO]))++wat g++([Fn.func 103=Fn.func (103:FuncId)]++wbN++[0=0,0=0]))++waa d++([cO=cO]++wad d))
theorem QPd(l:List Lay)(many:Int)(f g:List Lay)(p:Nat)(tn:Int)(t t':Nat):QF 464 (QS7 d p t tn) ((jJ E ac body d f g l many u)) (GO d E ac body u l many f g p tn t')=(some (QWy E ac body d f g l many p t t' tn u)):=by kernel_rfl
abbrev Z9:List Prop:=[0=0,0=0,0=0,0=0,0=0,0=0]
abbrev GA:List Prop:=[0=0,0=0,0=0,0=0]
abbrev ZF:List Prop:=([d.pK.aK=d.pK.aK]++waC d++[0=0,d.ps.n=d.ps.n,cO=cO])
abbrev waP(E:ECt)(l:List Lay)(l2:List Lay):List Prop:=[E.1=E.1,E.2=E.2,l.length<=l2.length,QB 2 l.length (λi=>QA.enc (l2.getD i (Lay.mk (0:Int) (0:Int)))) λi=>QA.enc (l.getD i (Lay.mk (0:Int) (0:Int)))]
abbrev QRM(d:Puz)(l:List Lay)(l2:List Lay)(p:Nat)(u2:Nat->Nat->Int)(u3:Nat->Nat->Int):List Prop:=([0=0,(i64.wrap ((l2.length:Int)-1)).toNat=l.length,cO=cO]++waP E l l2++(wbo d++[QB 1 d.ps.n (λi=>bif decide (i=p)then Ki [.bool true false] 0 (u2 ((p:Int).toNat+0))else u2 i) u3]))
abbrev wbK(g':List Lay):List Prop:=[g'.length<=g'.length,QB 2 g'.length (λi=>QA.enc (g'.getD i (Lay.mk (0:Int) (0:Int)))) λi=>QA.enc (g'.getD i (Lay.mk (0:Int) (0:Int)))]
abbrev QQ1(many':Int):List Prop:=([(0:Int)=0,0=0,0=0]++wa6++((wb3++[0=0,many'=many',0=0,f'.length=f'.length,cO=cO,f'.length<=f'.length,QB 2 f'.length (λi=>QA.enc (f'.getD i (Lay.mk (0:Int) (0:Int)))) λi=>QA.enc (f'.getD i (Lay.mk (0:Int) (0:Int))),0=0,g'.length=g'.length,cO=cO])++wbK g'))
theorem QYH(u u2 u3:Nat->Nat->Int)(l l2:List Lay)(p:Nat)(tn:Int)(t t':Nat)(many':Int)(f' g':List Lay):QF 464 (QS7 d p t tn) (((QAN d l2)::(201,.mp E.1 E.2)::(GV d)::(QFQ ac body d)::(GF many')::(G3 f')::(Hi g')::vf::List.append (waV) ([QGg,(vX d),(Gz l2),(G6 d p u2),(vh d),(HD f'),(GC g')]))) (GO d E ac body u3 l many' f' g' p tn t')=(some (Z9++GA++(waH d p++[tn=tn,i64.wrap ((t:Int)+1)=(t':Int),d.pK.length=d.pK.length])++(ZF d)++(QRM E d l l2 p u2 u3)++(wai++[Array.mk [18]=Array.mk [(18:Tmp)],ac=ac,body=body,d.pK.length=d.pK.length]) ++ (ZF d)++Z9++[0=0,0=0,(0:Int)=0]++GA++[(0:Int)=0,d.pK.length=d.pK.length]++(ZF d)++[0=0,0=0]++(QQ1 f' g' many')++[Fn.func 103=Fn.func (103:FuncId)]++Z9++Z9++[d.pK.length=d.pK.length]++(ZF d)++(wad d))):=by kernel_rfl
abbrev wb4(E:ECt)(l:List Lay):List Prop:=[l.length=l.length,cO=cO,E.1=E.1,E.2=E.2]
theorem QQy(l:List Lay)(many:Int)(f g:List Lay)(p:Nat):QF 464 (List.append (waL) ([vi (d.ps.n:Int),vi (p:Int)])) ((jJ E ac body d f g l many u)) (QBT d E ac body u l many f g p)=(some (Z9++GA++[(d.ps.n:Int)=(d.ps.n:Int),(p:Int)=(p:Int),d.pK.length=d.pK.length]++(ZF d)++(([0=0]++wb4 E l)++wag l++((wbo d++[QB 1 d.ps.n u u])++wai++[Array.mk [18]=Array.mk [(18:Tmp)],ac=ac,body=body,d.pK.length=d.pK.length]))++(ZF d)++Z9++[0=0,0=0,(0:Int)=0]++GA++[(0:Int)=0, d.pK.length=d.pK.length]++(ZF d)++([0=0,0=0,(0:Int)=0,0=0,0=0]++wa6++[0=0,0=0,Fn.func (102:FuncId)=Fn.func (102:FuncId)])++GA++(([many=many,0=0,f.length=f.length,cO=cO]++waI f++[0=0,g.length=g.length,cO=cO])++wat g++[Fn.func 103=Fn.func (103:FuncId)])++Z9++Z9 ++ [d.pK.length=d.pK.length]++(ZF d)++(wad d))):=by kernel_rfl
theorem QjO(pb1 pb2:List Prop->Bool)(d:Puz)(E:ECt)(ac body:Code)(u u2:Nat->Nat->Int)(l l2:List Lay)(v:Bool)(many:Int)(f g:List Lay)(p:Nat)(tn:Int)(t:Nat)(many':Int)(f' g':List Lay)(g0:Nat->Value):exec (mkE prog (QCE pb1 pb2 d E l ⟨p,t⟩ v (Xq d E ac body u2 l2 many f g many' f' g'))) (hnd (mkE prog (QCE pb1 pb2 d E l ⟨p,t⟩ v (Xq d E ac body u2 l2 many f g many' f' g'))) 0) (QW (QI f103 0)) (JSt.inst (GO d E ac body u l many f g p tn t) g0) (Q5 WB QKW) = .br (decide ((t:Int)<tn)) (.need (true) (.br (!Qj (Rw.mk 0 λi=>Pt.mk (0:Int) (Lay.mk (0:Int) (0:Int))) (l.length:Int) (Lay.mk (p:Int) (t:Int))) (.leaf (.tup (QAO d p t tn)) ((jJ E ac body d f g l many u))) (.need (pb1 ((QTT E d l p t))) (.br (!v) (.leaf (.tup (QAO d p t tn)) ((jJ E ac body d f g l many u))) (.need (decide ((0:Int)<=(p:Int)/\(p:Int)<(d.ps.n:Int))&&decide (d.ps.n<=d.ps.n)) (.need (decide (p<d.ps.n)) (.need (decide (l.length<=l.length)&&(true&&decide ((l.length+1+(l.length+1) / 4+192)*16<=281474976710656/\l.length+1<=9223372036854775807))) (.need (pb2 ((QOD E ac body d f g l l2 many p t u u2))) (.need (decide ((0:Int)<=i64.wrap ((l2.length:Int)-1)/\(i64.wrap ((l2.length:Int)-1)).toNat<=l2.length-0)) (.need (decide ((0:Int)<=(p:Int)/\(p:Int)<(d.ps.n:Int))&&decide (d.ps.n<=d.ps.n)) (.need (decide (p<d.ps.n)) (.br (true) (.leaf (.tup (wbR)) ([(QAN d l2),(201,.mp E.1 E.2),(GV d),(329,.lp LoopState.done (some (Code.exit 0)) (YO d) (Array.mk [18]) ac body),(GF many'),(G3 f'),(Hi g'),(vX d),(Gz l2),(G6 d p u2),(vh d),vf,(296,.cellsR 0 96 [.nils]),(HD f'),(GC g')])) (.leaf (.tup (QAO d p t tn)) (((QAN d l2)::(201,.mp E.1 E.2)::(GV d)::(329,.lp LoopState.done (some (Code.exit 0)) (YO d) (Array.mk [18]) ac body)::(GF many')::(G3 f')::(Hi g')::vf::List.append (waV) ([QGg,(vX d),(Gz l2),(G6 d p u2),(vh d),(HD f'),(GC g')])))))))))))))))) (.leaf (.tup (QL9 d p)) ((jJ E ac body d f g l many u))):=by kernel_rfl
abbrev waT:List Prop:=[LoopState.done=LoopState.done,some (Code.exit 0)=some (Code.exit 0)]
theorem Qib(u2 u3:Nat->Nat->Int)(l l2:List Lay)(p:Nat)(many':Int)(f' g':List Lay):QF 464 [.bool true false] ([(QAN d l2),(201,.mp E.1 E.2),(GV d),(329,.lp LoopState.done (some (Code.exit 0)) (YO d) (Array.mk [18]) ac body),(GF many'),(G3 f'), (Hi g'),(vX d),(Gz l2),(G6 d p u2),(vh d),vf,(296,.cellsR 0 96 [.nils]),(HD f'),(GC g')]) (soF d E ac body u3 l many' f' g')=(some ([false=false, d.pK.length=d.pK.length]++(ZF d)++(QRM E d l l2 p u2 u3)++(waT++[Array.mk [18]=Array.mk [(18:Tmp)],ac=ac,body=body,d.pK.length=d.pK.length])++(ZF d)++Z9++[0=0,0=0,(0:Int)=0]++GA++[(0:Int)=0,d.pK.length=d.pK.length] ++ (ZF d)++[0=0,0=0]++(QQ1 f' g' many'))):=by kernel_rfl
def clU:UC:=⟨0,⟨1,[(0,.slz 5 0 l.length (.of 0))],[QCl 5 l],8⟩,λm=>.slz m 0 l.length (.of 0),λm=>[rwY m l]⟩
theorem QXP:VK (mkE prog QV) (hnd (mkE prog QV) 1) f68 (clU l)=QC.need (decide ((0:Nat)<l.length/\l.length<=l.length)) (QC.need (true&&(decide (l.length<=l.length)&&decide (((0:Nat)+l.length+((0:Nat)+l.length) / (4:Nat)+(192:Nat))*(16:Nat)<=(281474976710656:Nat)/\(0:Nat)+l.length<=(9223372036854775807:Nat)))) (QC.leaf (AV.slz (48:Nat) (0:Nat) ((0:Nat)+l.length) cO) ([((48:Nat),Blk.rowz true (49:Nat) [CK.int i64,CK.int i64] ((0:Nat)+l.length) (KQ (0:Nat) (λx x_1=>(0:Int)) λi=>QA.enc (l.getD i (Lay.mk (0:Int) (0:Int)))))]))):=by kernel_rfl
theorem QZX(l l':List Lay):QF 8 [(AV.slz (48:Nat) (0:Nat) ((0:Nat)+l.length) cO)] ([((48:Nat),Blk.rowz true (49:Nat) [CK.int i64,CK.int i64] ((0:Nat)+l.length) (KQ (0:Nat) (λx x_1=>(0:Int)) λi=>QA.enc (l.getD i (Lay.mk (0:Int) (0:Int)))))]) (KX (clU l'))=( some [0=0,(0:Nat)+l.length=l'.length,cO=cO,l'.length<=(0:Nat)+l.length,QB (2:Nat) l'.length (KQ (0:Nat) (λx x_1=>(0:Int)) λi=>QA.enc (l.getD i (Lay.mk (0:Int) (0:Int)))) λi=>QA.enc (l'.getD i (Lay.mk (0:Int) (0:Int)))]):=by kernel_rfl
theorem QMQ(m n:Nat)(f g:Nat->Nat->Int):QB m n (KQ 0 f g) g:=by
 intro i hi;have:KQ 0 f g i=g i:=by funext j;rw[X4,if_neg (Nat.not_lt_zero i),Nat.sub_zero]
 rw[this];exact QGO _ _ _
theorem QlM:(clU l).Ok:=by
 refine⟨(by decide:0<=8),rfl,rfl,?_,rfl,λnid h=>?_,λnid h=>?_⟩
 .intro q hq;simp only[UC.po,clU,rwY,List.mem_cons,List.not_mem_nil,or_false]at hq;subst hq;exact⟨rfl,rfl,rfl,λh=>absurd (show 8<0 from h) (by decide)⟩
 .have e0:=Km 0 8 0 nid (by decide)
  simp only[UC.va,clU,AV.mapId,Nat.add_zero]at e0 ⊢;rw[e0]
 .have e0:=Km 0 8 0 nid (by decide)
  simp only[UC.po,clU,rwY,List.map_cons,List.map_nil,Blk.mapId,Nat.add_zero]at e0 ⊢;rw[e0]
theorem QWK(hp:0<l.length)(hl:l.length<=1000):QS prog 68 (uFC (clU l)):=by
 refine K0 (c:=Qn f68) (E:=mkE prog QV) (QP Qm) func68 (by kernel_rfl) (by kernel_rfl) (QlM l) (λG h1 _=>Qz (QP Qm) 1 G _ h1) ⟨?_⟩
 refine Qh (QXP l) ?_;refine QG (by simp;omega) (QG (by simp;omega) ⟨rfl,rfl,_,QZX l l,?_⟩)
 repeat' first|with_reducible refine QM ?_ ?_|exact tv|exact Nat.zero_add _|exact QMQ _ _ _ _|omega|refine aI ?_ ?_
def jk(n:Nat)(a:Int):Tab:=Qc QV 52 (KT pb (tnU d n a))
abbrev QED(P:Program)(pb:List Prop->Bool)(d:Puz)(E:ECt)(ac body:Code)(u:Nat->Nat->Int)(l:List Lay)(many:Int)(f g:List Lay)(p:Nat)(X:List (Prop×Ex×JSt)):Hnd:={ hnd (mkE P (jk pb d l.length p)) 0 with loop:=λ_=>Ks (p<d.ps.n/\u p 0=0) (KF 464 WB (GO d E ac body u l many f g p (tnV d p) (0:Nat)) X) }
abbrev QLz:List AV:=(.nilp::.ptr 101 0 0::List.append (waL) ([vi (d.ps.n:Int),vi (i64.wrap ((p:Int)+1))]))
abbrev Yh:Nat×Blk:=(200,.cells 0 152 (List.append (waf d) ([.map 201,.slz 472 0 l.length cO])))
abbrev YU:Nat×Blk:=(400,.cells 0 114 [.slz 496 0 d.ps.n cO])
abbrev Hl(d:Puz):Nat×Blk:=(329,.lp LoopState.ready none (YO d) (Array.mk [18]) ac body)
abbrev QGZ:Nat×Blk:=(120,.cells 0 3 [vi many])
abbrev QGT:Nat×Blk:=(104,.cells 0 42 [.slz 480 0 f.length cO])
abbrev QEW:Nat×Blk:=(112,.cells 0 42 [.slz 488 0 g.length cO])
abbrev Jj:Nat×Blk:=(288,.cellsR 0 90 [.ptr 200 0 0])
abbrev QGf:Nat×Blk:=(416,.cellsR 0 31 [.fn (Fn.func 103) (waL)])
abbrev Js:Nat×Blk:=(0,.frz (wae) d.ps.n λi=>QA.enc (d.ps.get i))
abbrev Yq:Nat×Blk:=(472,.rowz true 49 kB l.length λi=>QA.enc (l.getD i (Lay.mk (0:Int) (0:Int))))
abbrev Jm:Nat×Blk:=(96,.cellsR 0 28 (waf d))
abbrev QF3:Nat×Blk:=(480,.rowz true 49 kB f.length λi=>QA.enc (f.getD i (Lay.mk (0:Int) (0:Int))))
abbrev QFI:Nat×Blk:=(488,.rowz true 49 kB g.length λi=>QA.enc (g.getD i (Lay.mk (0:Int) (0:Int))))
abbrev jg:Nat×Blk:=(120,.cells 0 3 [vi many'])
abbrev jj:Nat×Blk:=(104,.cells 0 42 [.slz 480 0 f'.length cO])
abbrev qX:Nat×Blk:=(112,.cells 0 42 [.slz 488 0 g'.length cO])
abbrev qV:Nat×Blk:=(480,.rowz true 49 kB f'.length λi=>QA.enc (f'.getD i (Lay.mk (0:Int) (0:Int))))
abbrev jo:Nat×Blk:=(488,.rowz true 49 kB g'.length λi=>QA.enc (g'.getD i (Lay.mk (0:Int) (0:Int))))
theorem QRE(u u':Nat->Nat->Int)(l:List Lay)(many:Int)(f g:List Lay)(p:Nat)(A B:Prop)(many':Int)(f' g':List Lay)(g0:Nat->Value):exec (mkE prog (jk pb d l.length p)) (QED prog pb d E ac body u l many f g p [(A,.exit 2,QBT d E ac body u' l many' f' g' p),(B,.ret,soF d E ac body u' l many' f' g')]) (QI f103 0) (JSt.inst (G5 d E ac body u l many f g p) g0) (Q5 WB QS0) = .br (decide ((p:Int)<(d.ps.n:Int))) (.need (decide ((0:Int)<=(p:Int)/\(p:Int)<(d.ps.n:Int))&&decide (d.ps.n<=d.ps.n)) (.need (decide (p<d.ps.n)) (.br (decide (u ((p:Int).toNat+0) 0=1)) (.leaf (.tup (QLz d p)) (((Yh d l)::(201,.mp E.1 E.2)::(YU d)::(Hl ac body d)::(QGZ many)::(QGT f)::(QEW g)::Jj::List.append (waV) ([QGf,(Js d),(Yq l),(496, .rowz true 4 [CK.bool] d.ps.n u),(Jm d),(QF3 f),(QFI g)])))) (.need (pb (([0=0,0=0,(p:Int)=(p:Int)]++waa d++((wcd l)++wad d)))) (.ak [p<d.ps.n/\u p 0=0] (.ak (rz 10) (.ak ((waH d p++[tnV d (p:Int)=tnV d (p:Int),(0:Int)=0])++waa d++(([cO=cO,0=0]++wb4 E l)++wag l++((wbo d++[QB 1 d.ps.n u u])++wai++[Array.mk [(18:Tmp)]=Array.mk [(18:Tmp)],ac=ac,body=body]))++waa d++[cO=cO]) (.ak (rz 8) (.ak ([(0:Int)=0,0=0,0=0,0=0,0=0,(0:Int)=0]++waa d++((((wcf)++wa6++(wb3++[0=0,many=many,0=0,f.length=f.length,cO=cO]))++waI f++[0=0,g.length=g.length,cO=cO])++wat g++[Fn.func (103:FuncId)=Fn.func (103:FuncId)])) (.ak (rz 12) (.ak (waa d++([cO=cO]++wad d)) (.both (.asm (A) (.all (λ(g0:Nat->Value)=>.leaf (.tup (QLz d p)) (((Yh d l)::(201,.mp E.1 E.2)::(YU d)::(Hl ac body d)::(jg many')::(jj f')::(qX g')::Jj::List.append (waV) ([QGf,(Js d),(Yq l),(496,.rowz true 4 [CK.bool] d.ps.n u'),(Jm d),(qV f'),(jo g')])))))) (.asm (B) (.all (λ(g1:Nat->Value)=>.leaf (.tup [.nili, .ptr 101 0 0,.bool false false]) ([(Yh d l),(201,.mp E.1 E.2),(YU d),(329,.lp LoopState.done (some (Code.exit 0)) (YO d) (Array.mk [18]) ac body),(jg many'),(jj f'),(qX g'),(Yq l),(496,.rowz true 4 [CK.bool] d.ps.n u'),(qV f'),(jo g')])))))))))))))))) (.leaf (.tup [.ptr 0 0 0,.ptr 101 0 0]) ([(Yh d l),(201,.mp E.1 E.2),(YU d),(Hl ac body d),(QGZ many),(QGT f),(QEW g),(Js d),(Yq l),(496,.rowz true 4 [CK.bool] d.ps.n u),(Jm d),Jj, (296,.cellsR 0 96 [.nils]),(QF3 f),(QFI g)])):=by kernel_rfl
abbrev QUU:List AV:=(List.append (waL) ([vi (d.ps.n:Int),vi (i64.wrap ((p:Int)+1))]))
abbrev zs:List Prop:=[0=0,0=0,0=0,0=0,0=0,0=0]
abbrev Zk(d:Puz)(l:List Lay):List Prop:=(([d.pK.aK=d.pK.aK]++waC d++([0=0,d.ps.n=d.ps.n,cO=cO,0=0]++wb4 E l))++wag l++[0=0,d.ps.n=d.ps.n,cO=cO])
abbrev QJl:List Prop:=(wai++[Array.mk [18]=Array.mk [(18:Tmp)],ac=ac])
abbrev YD:List Prop:=(waa d)
abbrev Z2:List Prop:=(([cO=cO]++wci)++waa d++((wcf)++wa6++(wb3)))
abbrev QMv(many:Int):List Prop:=(([0=0,many=many,0=0,f.length=f.length,cO=cO]++waI f++[0=0,g.length=g.length,cO=cO])++wat g)
abbrev wbq(d:Puz)(p:Nat)(p':Nat):List Prop:=[(d.ps.n:Int)=(d.ps.n:Int),i64.wrap ((p:Int)+1)=(p':Int),d.pK.length=d.pK.length]
theorem QT0(l:List Lay)(many:Int)(f g:List Lay)(p p':Nat):QF 464 (QUU d p) (((Yh d l)::(201,.mp E.1 E.2)::(YU d)::(Hl ac body d)::(QGZ many)::(QGT f)::(QEW g)::Jj::List.append (waV) ([QGf,(Js d),(Yq l),(496,.rowz true 4 [CK.bool] d.ps.n u),(Jm d),(QF3 f),(QFI g)]))) (G5 d E ac body u l many f g p')=(some (zs++([0=0,0=0,0=0,0=0]++wbq d p p')++(Zk E d l)++[d.ps.n<=d.ps.n,QB 1 d.ps.n u u] ++ (QJl ac)++[body=body]++(YD d)++(Z2 d)++(QMv f g many)++[Fn.func 103=Fn.func (103:FuncId)]++zs++zs++(YD d)++([cO=cO]++wad d))):=by kernel_rfl
abbrev QDO(many':Int):List Prop:=
  ([0=0,many'=many',0=0,f'.length=f'.length,cO=cO,f'.length<=f'.length,QB 2 f'.length (λi=>QA.enc (f'.getD i (Lay.mk (0:Int) (0:Int)))) fun
  i=>QA.enc (f'.getD i (Lay.mk (0:Int) (0:Int))),0=0,g'.length=g'.length,cO=cO]++wbK g')
theorem QcR(l:List Lay)(p p':Nat)(many':Int)(f' g':List Lay):QF 464 (QUU d p) (((Yh d l)::(201,.mp E.1 E.2)::(YU d)::(Hl ac body d)::(jg many')::(jj f')::(qX g')::Jj::List.append (waV) ([QGf,(Js d),(Yq l),(496,.rowz true 4 [CK.bool] d.ps.n u'),(Jm d),(qV f'),(jo g')]))) (G5 d E ac body u' l many' f' g' p')=(some (zs++([0=0,0=0,0=0,0=0]++wbq d p p')++(Zk E d l)++[d.ps.n<=d.ps.n,QB 1 d.ps.n u' u']++(QJl ac)++[body=body]++(YD d)++(Z2 d)++(QDO f' g' many')++[Fn.func 103=Fn.func (103:FuncId)]++zs++zs++(YD d)++([cO=cO]++wad d))):=by kernel_rfl
theorem Qg8(l:List Lay)(many':Int)(f' g':List Lay):QF 464 [.bool false false] ([(Yh d l),(201,.mp E.1 E.2),(YU d),(329,.lp LoopState.done (some (Code.exit 0)) (YO d) (Array.mk [18]) ac body),(jg many'),(jj f'), (qX g'),(Yq l),(496,.rowz true 4 [CK.bool] d.ps.n u'),(qV f'),(jo g')]) (soF d E ac body u' l many' f' g')=(some ([false=false,d.pK.length=d.pK.length] ++ (Zk E d l)++([d.ps.n<=d.ps.n,QB 1 d.ps.n u' u']++waT++[Array.mk [18]=Array.mk [(18:Tmp)],ac=ac,body=body])++(YD d)++(Z2 d)++(QDO f' g' many'))):=by kernel_rfl
theorem QVI(l:List Lay)(many:Int)(f g:List Lay):QF 464 [] ([(Yh d l),(201,.mp E.1 E.2),(YU d),(Hl ac body d),(QGZ many),(QGT f),(QEW g),(Js d),(Yq l),(496,.rowz true 4 [CK.bool] d.ps.n u),(Jm d), Jj,(296,.cellsR 0 96 [.nils]),(QF3 f),(QFI g)]) (Hz d E ac body u l many f g)=(some ([d.pK.length=d.pK.length]++(Zk E d l)++[d.ps.n<=d.ps.n,QB 1 d.ps.n u u]++(QJl ac)++[body=body]++(YD d)++(Z2 d)++(QMv f g many))):=by kernel_rfl
def QQ(fn:Func)(k:Nat):Code×Code:=match (JA (Qn fn))[k]? with
 | some (.rangeFunc _ _ ac body)=>(ac,body)
 | _=>(.skip,.skip)
def QCC:Tab:=Qc QV 68 (KT pb (clU l))
abbrev soN(P : Program)(T : Tab): Hnd := { hnd (mkE P T) 2 with loop := λ_ _ _=>.fail "a loop" }
abbrev soX(P:Program)(J:JSt)(X:List (Prop×Ex×JSt)):Hnd:={ hnd (mkE P QV) 2 with loop:=λ_=>KF 464 WB J X }
abbrev QVL:List Prop:=([0=0,l.length=l.length,cO=cO]++wag l)
abbrev V2:Nat×Blk:=(200,.cells 0 152 (List.append (waf d) ([.map 201,.slz 432 0 l.length cO])))
abbrev V5:Nat×Blk:=(400,.cells 0 114 [.slz 456 0 d.ps.n cO])
abbrev WX:Nat×Blk:=(329,.lp LoopState.done (some (Code.exit 0)) (YO d) (Array.mk [18]) (QQ f24 0).1 (QQ f24 0).2)
abbrev Vt:Nat×Blk:=(120,.cells 0 3 [vi (i64.wrap (many+1))])
abbrev QHR:Nat×Blk:=(104,.cells 0 42 [.slz 672 0 l.length cO])
abbrev ZK:Nat×Blk:=(112,.cells 0 42 [.slz 448 0 g.length cO])
abbrev Vy:Nat×Blk:=(432,.rowz true 49 kB l.length λi=>QA.enc (l.getD i (Lay.mk (0:Int) (0:Int))))
abbrev QH6:Nat×Blk:=(672,.rowz true 49 kB l.length λi=>QA.enc (l.getD i (Lay.mk (0:Int) (0:Int))))
abbrev ZI:Nat×Blk:=(448,.rowz true 49 kB g.length λi=>QA.enc (g.getD i (Lay.mk (0:Int) (0:Int))))
abbrev ZG:Nat×Blk:=(329,.lp LoopState.ready none (YO d) (Array.mk [18]) (QQ f24 0).1 (QQ f24 0).2)
abbrev ZL:Nat×Blk:=(104,.cells 0 42 [.slz 440 0 f.length cO])
abbrev QHG:Nat×Blk:=(112,.cells 0 42 [.slz 688 0 l.length cO])
abbrev ZN:Nat×Blk:=(440,.rowz true 49 kB f.length λi=>QA.enc (f.getD i (Lay.mk (0:Int) (0:Int))))
abbrev QKB:Nat×Blk:=(688,.rowz true 49 kB l.length λi=>QA.enc (l.getD i (Lay.mk (0:Int) (0:Int))))
theorem Qhu(l:List Lay)(many:Int)(f g:List Lay):(Vv (mkE prog (QCC pb l)) (soN prog (QCC pb l)) f103 QIk (Gi d E (QQ f24 0).1 (QQ f24 0).2 u l many f g).hp 464 λv h _=>Z4
  WB v h) = .br ((l.length:Int)==(d.ps.n:Int)) (.br (i64.wrap (many+1)==1) (.need (pb ((QVL l))) (.br (i64.wrap (many+1)==100) (.leaf (.bool true
  false) ([(V2 d l),(201,.mp E.1 E.2),(V5 d),(WX d),(Vt many),(QHR l),(ZK g),(Js d),(Vy l),(456,.rowz true 4 [CK.bool] d.ps.n u),(Jm d),Jj,(296,
  .cellsR 0 96 [.nils]),(QH6 l),(ZI g)])) (.leaf (.bool true true) ([(V2 d l),(201,.mp E.1 E.2),(V5 d),(ZG d),(Vt many),(QHR l),(ZK g),(Js d),(Vy l),
  (456,.rowz true 4 [CK.bool] d.ps.n u),(Jm d),Jj,(296,.cellsR 0 96 [.nils]),(QH6 l),(ZI g)])))) (.br (i64.wrap (many+1)==2) (.need (pb ((QVL l))) (.br
  (i64.wrap (many+1)==100) (.leaf (.bool true false) ([(V2 d l),(201,.mp E.1 E.2),(V5 d),(WX d),(Vt many),(ZL f),(QHG l),(Js d),(Vy l),(456,
  .rowz true 4 [CK.bool] d.ps.n u),(Jm d),Jj,(296,.cellsR 0 96 [.nils]),(ZN f),(QKB l)])) (.leaf (.bool true true) ([(V2 d l),(201,.mp E.1 E.2),(V5 d),(ZG
  d),(Vt many),(ZL f),(QHG l),(Js d),(Vy l),(456,.rowz true 4 [CK.bool] d.ps.n u),(Jm d),Jj,(296,.cellsR 0 96 [.nils]),(ZN f),(QKB l)])))) (.br
  (i64.wrap (many+1)==100) (.leaf (.bool true false) ([(V2 d l),(201,.mp E.1 E.2),(V5 d),(WX d),(Vt many),(ZL f),(ZK g),(Js d),(Vy l),(456,
  .rowz true 4 [CK.bool] d.ps.n u),(Jm d),Jj,(296,.cellsR 0 96 [.nils]),(ZN f),(ZI g)])) (.leaf (.bool true true) ([(V2 d l),(201,.mp E.1 E.2),(V5 d),(ZG d),
  (Vt many),(ZL f),(ZK g),(Js d),(Vy l),(456,.rowz true 4 [CK.bool] d.ps.n u),(Jm d),Jj,(296,.cellsR 0 96 [.nils]),(ZN f),(ZI g)]))))) (.fail
  ("a loop")) := by kernel_rfl
abbrev QUd:Nat×Blk:=(712,.rowz true 49 kB (0+l.length) (KQ 0 (λx x_1=>(0:Int)) λi=>QA.enc (l.getD i (Lay.mk (0:Int) (0:Int)))))
abbrev QSG:Nat×Blk:=(728,.rowz true 49 kB (0+l.length) (KQ 0 (λx x_1=>(0:Int)) λi=>QA.enc (l.getD i (Lay.mk (0:Int) (0:Int)))))
abbrev wbF:List Prop:=[(QQ f24 0).1=(QQ f24 0).1,(QQ f24 0).2=(QQ f24 0).2]
theorem QPH(u u':Nat->Nat->Int)(l:List Lay)(many:Int)(f g:List Lay)(A B:Prop)(many':Int)(f' g':List Lay):(Vv (mkE prog QV) (soX prog (G5 d E (QQ f24 0).1 (QQ f24 0).2 u l many f g 0) [(A,.exit 0,Hz d E (QQ f24 0).1 (QQ f24 0).2 u' l many' f' g'),(B,.ret,soF d E (QQ f24 0).1 (QQ f24 0).2 u' l many' f' g')]) f103 QIk (Gi d E (QQ f24 0).1 (QQ f24 0).2 u l many f g).hp 464 λv h _=>Z4 WB v h) = .br ((l.length:Int)==(d.ps.n:Int)) (.br (i64.wrap (many+1)==1) (.need (decide (0<l.length/\l.length<=l.length)) (.need (true&&(decide (l.length<=l.length)&&decide ((0+l.length+(0+l.length) / 4+192)*16<=281474976710656/\0+l.length<=9223372036854775807))) (.br (i64.wrap (many+1)==100) (.leaf (.bool true false) ([(V2 d l),(201,.mp E.1 E.2),(V5 d),(WX d),(Vt many),(104,.cells 0 42 [.slz 712 0 (0+l.length) cO]),(ZK g),(Js d),(Vy l),(456,.rowz true 4 [CK.bool] d.ps.n u),(Jm d),Jj,(296,.cellsR 0 96 [.nils]),(QUd l),(ZI g)])) (.leaf (.bool true true) ([(V2 d l),(201,.mp E.1 E.2),(V5 d),(ZG d),(Vt many),(104,.cells 0 42 [.slz 712 0 (0+l.length) cO]),(ZK g),(Js d),(Vy l),(456,.rowz true 4 [CK.bool] d.ps.n u),(Jm d),Jj,(296,.cellsR 0 96 [.nils]),(QUd l),(ZI g)]))))) (.br (i64.wrap (many+1)==2) (.need (decide (0<l.length/\l.length<=l.length)) (.need (true&&(decide (l.length<=l.length)&&decide ((0+l.length+(0+l.length) / 4+192)*16<=281474976710656/\0+l.length<=9223372036854775807))) (.br (i64.wrap (many+1)==100) (.leaf (.bool true false) ([(V2 d l),(201,.mp E.1 E.2),(V5 d),(WX d),(Vt many),(ZL f),(112,.cells 0 42 [.slz 728 0 (0+l.length) cO]),(Js d),(Vy l),(456,.rowz true 4 [CK.bool] d.ps.n u),(Jm d),Jj,(296,.cellsR 0 96 [.nils]),(ZN f),(QSG l)])) (.leaf (.bool true true) ([(V2 d l),(201,.mp E.1 E.2),(V5 d),(ZG d),(Vt many),(ZL f),(112,.cells 0 42 [.slz 728 0 (0+l.length) cO]),(Js d),(Vy l),(456,.rowz true 4 [CK.bool] d.ps.n u),(Jm d),Jj,(296,.cellsR 0 96 [.nils]),(ZN f),(QSG l)]))))) (.br (i64.wrap (many+1)==100) (.leaf (.bool true false) ([(V2 d l),(201, .mp E.1 E.2),(V5 d),(WX d),(Vt many),(ZL f),(ZK g),(Js d),(Vy l),(456,.rowz true 4 [CK.bool] d.ps.n u),(Jm d),Jj,(296,.cellsR 0 96 [.nils]),(ZN f),(ZI g)])) (.leaf (.bool true true) ([(V2 d l),(201,.mp E.1 E.2),(V5 d),(ZG d),(Vt many),(ZL f),(ZK g),(Js d),(Vy l),(456,.rowz true 4 [CK.bool] d.ps.n u),(Jm d),Jj,(296,.cellsR 0 96 [.nils]),(ZN f),(ZI g)]))))) (.ak (rz 10) (.ak ([(d.ps.n:Int)=(d.ps.n:Int),(0:Int)=0]++waa d++(([cO=cO,0=0]++wb4 E l)++wag l++((wbo d++[QB 1 d.ps.n u u])++wai++([Array.mk [(18:Tmp)]=Array.mk [(18:Tmp)]]++wbF)))++waa d++[cO=cO]) (.ak (rz 8) (.ak ([(0:Int)=0,0=0,0=0,0=0,0=0,(0:Int)=0]++waa d++((((wcf)++wa6++(wb3++[0=0,many=many,0=0,f.length=f.length,cO=cO]))++waI f++[0=0,g.length=g.length,cO=cO])++wat g++[Fn.func (103:FuncId)=Fn.func (103:FuncId)])) (.ak (rz 12) (.ak (waa d++([cO=cO]++wad d)) (.both (.asm (A) (.all (λ(g0:Nat->Value)=>.leaf (.bool true true) ([(Yh d l),(201,.mp E.1 E.2),(YU d),(ZG d),(jg many'),(jj f'),(qX g'),(Yq l), (496,.rowz true 4 [CK.bool] d.ps.n u'),(qV f'),(jo g')])))) (.asm (B) (.all (λ(g1:Nat->Value)=>.leaf (.bool false false) ([(Yh d l),(201,.mp E.1 E.2),(YU d),(WX d),(jg many'),(jj f'),(qX g'),(Yq l),(496,.rowz true 4 [CK.bool] d.ps.n u'),(qV f'),(jo g')]))))))))))):=by kernel_rfl
abbrev QFa:List Prop:=(wai++([Array.mk [18]=Array.mk [(18:Tmp)]]++wbF))
abbrev QIn:List Prop:=[g.length=g'.length,cO=cO,g'.length<=g.length,QB 2 g'.length (λi=>QA.enc (g.getD i (Lay.mk (0:Int) (0:Int)))) λi=>QA.enc (g'.getD i (Lay.mk (0:Int) (0:Int)))]
theorem QeX(l:List Lay)(many:Int)(f g:List Lay)(many':Int)(f' g':List Lay):QF 464 [(.bool true true)] ([(V2 d l),(201,.mp E.1 E.2),(V5 d),(ZG d),(Vt many),(QHR l),(ZK g),(Js d),(Vy l),(456,.rowz true 4 [CK.bool] d.ps.n u), (Jm d),Jj,(296,.cellsR 0 96 [.nils]),(QH6 l),(ZI g)]) (KX (VX d E (QQ f24 0).1 (QQ f24 0).2 u l many f g many' f' g'))=(some ([true=true, d.pK.length=d.pK.length]++(Zk E d l)++[d.ps.n<=d.ps.n,QB 1 d.ps.n u u]++QFa++(YD d)++(Z2 d)++[0=0,i64.wrap (many+1)=many',0=0, l.length=f'.length,cO=cO,f'.length<=l.length,QB 2 f'.length (λi=>QA.enc (l.getD i (Lay.mk (0:Int) (0:Int)))) λi=>QA.enc (f'.getD i (Lay.mk (0:Int) (0:Int))),0=0]++(QIn g g'))):=by kernel_rfl
abbrev QIj(many:Int)(many':Int):List Prop:=[0=0,i64.wrap (many+1)=many',0=0,f.length=f'.length,cO=cO,f'.length<=f.length,QB 2 f'.length (λi=>QA.enc (f.getD i (Lay.mk (0:Int) (0:Int)))) λi=>QA.enc (f'.getD i (Lay.mk (0:Int) (0:Int))),0=0]
theorem Qfa(l:List Lay)(many:Int)(f g:List Lay)(many':Int)(f' g':List Lay):QF 464 [(.bool true true)] ([(V2 d l),(201,.mp E.1 E.2),(V5 d),(ZG d),(Vt many),(ZL f),(QHG l),(Js d),(Vy l),(456,.rowz true 4 [CK.bool] d.ps.n u), (Jm d),Jj,(296,.cellsR 0 96 [.nils]),(ZN f),(QKB l)]) (KX (VX d E (QQ f24 0).1 (QQ f24 0).2 u l many f g many' f' g'))=(some ([true=true, d.pK.length=d.pK.length]++(Zk E d l)++[d.ps.n<=d.ps.n,QB 1 d.ps.n u u]++QFa++(YD d)++(Z2 d)++(QIj f f' many many')++[l.length=g'.length, cO=cO,g'.length<=l.length,QB 2 g'.length (λi=>QA.enc (l.getD i (Lay.mk (0:Int) (0:Int)))) λi=>QA.enc (g'.getD i (Lay.mk (0:Int) (0:Int)))])):=by kernel_rfl
abbrev QRJ:List Prop:=(waT++([Array.mk [18]=Array.mk [(18:Tmp)]]++wbF))
theorem Qdz(l:List Lay)(many:Int)(f g:List Lay)(many':Int)(f' g':List Lay):QF 464 [(.bool true false)] ([(V2 d l),(201,.mp E.1 E.2),(V5 d),(WX d),(Vt many),(ZL f),(ZK g),(Js d),(Vy l),(456,.rowz true 4 [CK.bool] d.ps.n u), (Jm d),Jj,(296,.cellsR 0 96 [.nils]),(ZN f),(ZI g)]) (KX (Xq d E (QQ f24 0).1 (QQ f24 0).2 u l many f g many' f' g'))=(some ([false=false, d.pK.length=d.pK.length]++(Zk E d l)++[d.ps.n<=d.ps.n,QB 1 d.ps.n u u]++QRJ++(YD d)++(Z2 d)++(QIj f f' many many')++(QIn g g'))):=by kernel_rfl
theorem Qg3(l:List Lay)(many:Int)(f g:List Lay)(many':Int)(f' g':List Lay):QF 464 [(.bool true true)] ([(V2 d l),(201,.mp E.1 E.2),(V5 d),(ZG d),(Vt many),(ZL f),(ZK g),(Js d),(Vy l),(456,.rowz true 4 [CK.bool] d.ps.n u), (Jm d),Jj,(296,.cellsR 0 96 [.nils]),(ZN f),(ZI g)]) (KX (VX d E (QQ f24 0).1 (QQ f24 0).2 u l many f g many' f' g'))=(some ([true=true, d.pK.length=d.pK.length]++(Zk E d l)++[d.ps.n<=d.ps.n,QB 1 d.ps.n u u]++QFa++(YD d)++(Z2 d)++(QIj f f' many many')++(QIn g g'))):=by kernel_rfl
theorem Qd0(u u':Nat->Nat->Int)(l:List Lay)(many:Int)(f g:List Lay)(many':Int)(f' g':List Lay):QF 464 [(.bool true true)] ([(Yh d l),(201,.mp E.1 E.2),(YU d),(ZG d),(jg many'),(jj f'),(qX g'),(Yq l),(496,.rowz true 4 [CK.bool] d.ps.n u'),(qV f'),(jo g')]) (KX (VX d E (QQ f24 0).1 (QQ f24 0).2 u l many f g many' f' g'))=(some ([true=true,d.pK.length=d.pK.length]++(Zk E d l) ++ [d.ps.n<=d.ps.n,QB 1 d.ps.n u' u]++QFa++(YD d)++(Z2 d)++(QDO f' g' many'))):=by kernel_rfl
theorem Qf7(u u':Nat->Nat->Int)(l:List Lay)(many:Int)(f g:List Lay)(many':Int)(f' g':List Lay):QF 464 [(.bool false false)] ([(Yh d l),(201,.mp E.1 E.2),(YU d),(WX d),(jg many'),(jj f'),(qX g'),(Yq l),(496,.rowz true 4 [CK.bool] d.ps.n u'), (qV f'),(jo g')]) (KX (Xq d E (QQ f24 0).1 (QQ f24 0).2 u l many f g many' f' g'))=(some ([false=false,d.pK.length=d.pK.length]++(Zk E d l)++[d.ps.n<=d.ps.n,QB 1 d.ps.n u' u]++QRJ++(YD d)++(Z2 d)++(QDO f' g' many'))):=by kernel_rfl
abbrev SoS:=Int×List Lay×List Lay
inductive Qi (σ:Type) where
 | go (s:σ)
 | stop (s:σ)
def KC{σ α:Type}(f:σ->α->Qi σ):List α->σ->Qi σ
 | [],s => .go s
 | a::r,s=>match f s a with
  | .go s'=>KC f r s'
  | .stop s' => .stop s'
def Zt(s:SoS):Qi SoS:=cond (i64.wrap (s.1+1)==100)
 (.stop (i64.wrap (s.1+1),cond (i64.wrap (s.1+1)==1) l s.2.1,cond (i64.wrap (s.1+1)==1) s.2.2 (cond (i64.wrap (s.1+1)==2) l s.2.2)))
 (.go (i64.wrap (s.1+1),cond (i64.wrap (s.1+1)==1) l s.2.1,cond (i64.wrap (s.1+1)==1) s.2.2 (cond (i64.wrap (s.1+1)==2) l s.2.2)))
def Qe:Nat:=(tnV d p).toNat
def KP(rec:List Lay->σ->Qi σ)(l:List Lay)(p:Nat)(s:σ)(t:Nat):Qi σ:=cond (KA d E l ⟨p,t⟩) (rec (l++[⟨p,t⟩]) s) (.go s)
def inZ(rec:List Lay->σ->Qi σ)(l:List Lay)(p:Nat)(s:σ):Qi σ:=KC (KP d E rec l p) (List.range (Qe d p)) s
def K3(rec:List Lay->σ->Qi σ)(l:List Lay)(s:σ)(p:Nat):Qi σ:=cond (Q6 l p) (.go s) (inZ d E rec l p s)
def onY{σ:Type}(d:Puz)(E:ECt)(Y:List Lay->σ->Qi σ):Nat->List Lay->σ->Qi σ
 | 0,l,s=>Y l s
 | k+1,l,s=>KC (K3 d E (onY d E Y k) l) (List.range d.ps.n) s
def onZ:Nat->List Lay->SoS->Qi SoS:=onY d E Zt
def J9(A:Int->Lay->Bool)(d:Puz)(E:ECt)(rec:List Lay->σ->Qi σ)(l:List Lay)(p:Nat)(s:σ)(t:Nat):Qi σ:=cond (A l.length ⟨p,t⟩) (KP d E rec l p s t) (.go s)
def inA(A:Int->Lay->Bool)(d:Puz)(E:ECt)(rec:List Lay->σ->Qi σ)(l:List Lay)(p:Nat)(s:σ):Qi σ:=KC (J9 A d E rec l p) (List.range (Qe d p)) s
def X6(A:Int->Lay->Bool)(d:Puz)(E:ECt)(rec:List Lay->σ->Qi σ)(l:List Lay)(s:σ)(p:Nat):Qi σ:=cond (Q6 l p) (.go s) (inA A d E rec l p s)
def onA{σ:Type}(A:Int->Lay->Bool)(d:Puz)(E:ECt)(Y:List Lay->σ->Qi σ):Nat->List Lay->σ->Qi σ
 | 0,l,s=>Y l s
 | k+1,l,s=>KC (X6 A d E (onA A d E Y k) l) (List.range d.ps.n) s
theorem jF{f:σ->Nat->Qi σ}{n k:Nat}(h:k<n)(s:σ):KC f ((List.range n).drop k) s=match f s k with
  | .go s'=>KC f ((List.range n).drop (k+1)) s'
  | .stop s' => .stop s':=by
 have:(List.range n).drop k=k::(List.range n).drop (k+1):=by
  rw[List.drop_eq_getElem_cons (by simpa using h)]
  simp
 rw[this,KC]
theorem W9{f:σ->Nat->Qi σ}{n k:Nat}(h:n<=k)(s:σ):KC f ((List.range n).drop k) s = .go s:=by
 rw[List.drop_eq_nil_of_le (by simpa using h),KC]
theorem QNb(p:Int):tnV d p=1∨tnV d p=4:=by
 unfold tnV;cases d.turn&&decide (0<p)
 .exact .inl rfl
 .exact .inr rfl
def Ye(s:SoS):Qi SoS->UC
 | .go s'=>VX d E ac body (QD l) l s.1 s.2.1 s.2.2 s'.1 s'.2.1 s'.2.2
 | .stop s'=>Xq d E ac body (QD l) l s.1 s.2.1 s.2.2 s'.1 s'.2.1 s'.2.2
open Classical in
def Wl:List Prop->Bool:=if t<Qe d p then QK else λ_=>false
def vW(P:Program)(d:Puz)(E:ECt)(ac body:Code)(rec:List Lay->SoS->Qi SoS)(l:List Lay)(p:Nat)(k:Nat×SoS):Env:=
 mkE P (QCE (Wl d p k.1) (Wl d p k.1) d E l ⟨p,k.1⟩ (KA d E l ⟨p,k.1⟩) (Ye d E ac body (l++[⟨p,k.1⟩]) k.2 (rec (l++[⟨p,k.1⟩]) k.2)))
def ZV(rec:List Lay->SoS->Qi SoS)(l:List Lay)(p:Nat)(k:Nat×SoS)(e:Ex)(J:JSt):Prop:=match KC (KP d E rec l p) ((List.range (Qe d p)).drop k.1) k.2 with
 | .go s'=>e = .exit 2/\J=QBT d E ac body (QD l) l s'.1 s'.2.1 s'.2.2 p
 | .stop s'=>e = .ret/\J=soF d E ac body (QD l) l s'.1 s'.2.1 s'.2.2
theorem Z8(x:Lay):QB 2 (l++[x]).length (KQ l.length (λi=>QA.enc (l.getD i ⟨0,0⟩)) (KD [[.int false .i64 x.piece,.int false .i64 x.turn]] 0)) λi=>QA.enc ((l++[x]).getD i ⟨0,0⟩):=by
 intro i hi;rw[List.length_append,List.length_singleton]at hi;show eqF 2 0 _ (QA.enc ((l++[x]).getD i ⟨0,0⟩))
 by_cases h:i<l.length
 .have e:(l++[x]).getD i ⟨0,0⟩=l.getD i ⟨0,0⟩:=by
   rw[List.getD_eq_getElem?_getD,List.getD_eq_getElem?_getD,List.getElem?_append_left h]
  rw[e];refine⟨?_,?_,trivial⟩<;>(rw[X4,if_pos h])
 .obtain rfl:i=l.length:=by omega
  have e:(l++[x]).getD l.length ⟨0,0⟩=x:=by
   rw[List.getD_eq_getElem?_getD,List.getElem?_append_right (qlr _)];simp
  rw[e];refine⟨?_,?_,trivial⟩<;>(rw[X4,if_neg h,Nat.sub_self];rfl)
theorem jV(x:Lay):QB 2 l.length (λi=>QA.enc ((l++[x]).getD i ⟨0,0⟩)) λi=>QA.enc (l.getD i (⟨0,0⟩:Lay)):=by
 intro i hi
 have e:(l++[x]).getD i ⟨0,0⟩=l.getD i ⟨0,0⟩:=by
  rw[List.getD_eq_getElem?_getD,List.getD_eq_getElem?_getD,List.getElem?_append_left hi]
 show eqF 2 0 (QA.enc ((l++[x]).getD i ⟨0,0⟩)) _;rw[e];exact⟨rfl,rfl,trivial⟩
theorem QST(t:Int)(i:Nat):Q6 (l++[⟨p,t⟩]) i=(Q6 l i||decide (i=p)):=by
 unfold Q6;rw[List.any_append];congr 1;simp only[List.any_cons,List.any_nil,Bool.or_false];rw[Bool.eq_iff_iff];simp only[beq_iff_eq,qdE];omega
theorem WP(n p:Nat)(t:Int):QB 1 n (λi=>bif decide (i=p)then Ki [.bool true true] 0 (QD l ((p:Int).toNat+0))else QD l i) (QD (l++[⟨p,t⟩])):=by
 intro i _;refine⟨?_,trivial⟩;show(bif decide (i=p)then Ki [.bool true true] 0 (QD l ((p:Int).toNat+0))else QD l i) 0=QD (l++[⟨p,t⟩]) i 0
 unfold QD;rw[QST];cases h:decide (i=p)with
 | true=>rw[Bool.or_true];rfl
 | false=>rw[Bool.or_false];rfl
theorem jB(n p:Nat)(t:Int)(hu:Q6 l p=false):QB 1 n (λi=>bif decide (i=p)then Ki [.bool true false] 0 (QD (l++[⟨p,t⟩]) ((p:Int).toNat+0))else QD (l++[⟨p,t⟩]) i) (QD l):=by
 intro i _;refine⟨?_,trivial⟩;show(bif decide (i=p)then Ki [.bool true false] 0 (QD (l++[⟨p,t⟩]) ((p:Int).toNat+0))else QD (l++[⟨p,t⟩]) i) 0=QD l i 0
 cases h:decide (i=p)with
 | true=>
  obtain rfl:i=p:=qdt h;unfold QD;rw[hu];rfl
 | false=>
  show QD (l++[⟨p,t⟩]) i 0=_;unfold QD;rw[QST,h,Bool.or_false]
