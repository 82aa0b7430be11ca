/- - -/
import Derived.Test.YtekbmehgcofnkaaGreatJzb
set_option linter.all false
noncomputable section
open Go.Proofs.Tryz
open Go.IntKind (i64)
set_option maxRecDepth 100000
namespace Go.Proofs.YtekbmehgcofnkaaGreat
open Go.SX Go.SX.Told
variable {σ:Type}(pb:List Prop->Bool)(d:Puz)(E:ECt)(ac body:Code)(l:List Lay)(u':Nat->Nat->Int)(l2:List Lay)(u:Nat->Nat->Int)(p:Nat)(u2:Nat->Nat->Int)(many:Int)(f g:List Lay)(t:Nat)(f':List Lay)(many':Int)(g':List Lay)(tn:Int)
def KM(i:Nat):Bool:=l.any λy=>y.piece==(i:Int)
def QD(i:Nat)(_:Nat):Int:=cond (KM l i) 1 0
def rwY(id:Nat)(l:List Lay):Nat×Blk:=(id,.rowz true 49 kB l.length λi=>QA.enc (l.getD i ⟨0,0⟩))
def rwU(id:Nat)(d:Puz)(u:Nat->Nat->Int):Nat×Blk:=(id,.rowz true 4 [.bool] d.ps.n u)
def Xy:List AV:=[.agg (Kb d),.ptr 96 0 0,.ptr 104 0 0,.ptr 112 0 0,.ptr 120 0 0,.int true .i64 0,.ptr 200 0 0,.tup [],.tup [.ptr 200 0 0,.int true .i64 0],.agg (Kb d),.tup [.ptr 200 0 0,.int true .i64 0],.ptr 200 0 0,.int true .i64 0,.int true .i64 0,.bool true false,.tup [],.ptr 200 0 0,.fn (.func 102) [.ptr 288 0 0,.ptr 296 0 0],.tup [],.tup [],.tup [],.tup [],.tup [],.tup [],.tup [],.tup [],.tup [],.tup [],.tup [],.tup [],.tup [],.tup [],.tup [],.tup [],.tup [],.tup [],.tup []]
def QJE:List AV:=[.ptr 288 0 0,.ptr 336 0 0,.ptr 400 0 0,.ptr 296 0 0,.ptr 416 0 0]
def QDQ:List (Nat×Blk):=
 [(416,.cellsR 0 31 [.fn (.func 103) QJE]),(336,.cellsR 0 105 [.yld 329]),(296,.cellsR 0 96 [.nils]),(288,.cellsR 0 90 [.ptr 200 0 0]),(96,.cellsR 0 28 (Kb d))]++Qo.blk 0 d.ps
def YN(ls:LoopState)(pe:Option Code)(d:Puz)(E:ECt)(ac body:Code)(u:Nat->Nat->Int)(l:List Lay)(a b c w:Nat)(many:Int)(f g:List Lay):List (Nat×Blk):=
 [(200,.cells 0 152 (Kb d++[.map 201,.slz a 0 l.length (.of 0)])),(201,.mp E.1 E.2),rwY a l,(400,.cells 0 114 [.slz w 0 d.ps.n (.of 0)]),rwU w d u,(329,.lp ls pe (Xy d) #[18] ac body),(120,.cells 0 3 [vi many]),(104,.cells 0 42 [.slz b 0 f.length (.of 0)]),rwY b f,(112,.cells 0 42 [.slz c 0 g.length (.of 0)]),rwY c g]
def QP2:List (Nat×AV):=[(0,.ptr 288 0 0),(1,.ptr 336 0 0),(2,.ptr 400 0 0),(3,.ptr 296 0 0),(4,.ptr 416 0 0)]
def vl(l:List Lay)(many:Int)(f g:List Lay):JSt:=⟨5,QP2,YN .ready none d E ac body u l 432 440 448 456 many f g++QDQ d,464⟩
def VD(l:List Lay)(many:Int)(f g:List Lay)(many':Int)(f' g':List Lay):UC:=
 ⟨424,vl d E ac body u l many f g,λ_=>.bool false true,λm=>YN .ready none d E ac body u l m (m+1) (m+2) (m+3) many' f' g'⟩
def Xe(l:List Lay)(many:Int)(f g:List Lay)(many':Int)(f' g':List Lay):UC:=
 ⟨424,vl d E ac body u l many f g,λ_=>.bool false false,λm=>YN .done (some (.exit 0)) d E ac body u l m (m+1) (m+2) (m+3) many' f' g'⟩
def WV:List Nat:=[200,201,400,329,120,104,112]
def QIs(n:Nat)(p:Nat):List (Nat×AV):=QP2++[(33,.int false .i64 n),(34,.int false .i64 p)]
def QXj(n:Nat)(p:Nat)(tn:Int)(t:Nat):List (Nat×AV):=QIs n p++[(6,.int false .i64 p),(43,.int false .i64 tn),(44,.int false .i64 t)]
def GO(l:List Lay)(many:Int)(f g:List Lay)(p:Nat):JSt:=⟨101,QIs d.ps.n p,YN .ready none d E ac body u l 472 480 488 496 many f g++QDQ d,504⟩
def zt(l:List Lay)(many:Int)(f g:List Lay)(p:Nat)(tn:Int)(t:Nat):JSt:=⟨101,QXj d.ps.n p tn t,YN .ready none d E ac body u l 472 480 488 496 many f g++QDQ d,504⟩
def GR(l:List Lay)(many:Int)(f g:List Lay):JSt:=⟨101,[],YN .ready none d E ac body u l 472 480 488 496 many f g,504⟩
def Hk(l:List Lay)(many:Int)(f g:List Lay)(p:Nat):JSt:=⟨101,QIs d.ps.n p,YN .ready none d E ac body u l 472 480 488 496 many f g++QDQ d,504⟩
def soF(l:List Lay)(many:Int)(f g:List Lay):JSt:=⟨101,[(5,.bool false false)],YN .done (some (.exit 0)) d E ac body u l 472 480 488 496 many f g,504⟩
def QKF:Ex->List Nat
 | .normal=>[0,1,2,3,4,33,34]
 | .exit _=>[]
 | .ret=>[5]
def QJz:Ex->List Nat
 | .normal=>[0,1,2,3,4,33,34,6,43,44]
 | .exit _=>[0,1,2,3,4,33,34]
 | .ret=>[5]
def QBT(pb1 pb2:List Prop->Bool)(d:Puz)(E:ECt)(l:List Lay)(x:Lay)(v:Bool)(U:UC):Tab:=QZ (QZ QU 105 (KI pb1 (myU d E l x v))) 103 (KI pb2 U)
abbrev waz:List AV:=[.ptr 288 0 0,.ptr 336 0 0,.ptr 400 0 0,.ptr 296 0 0,.ptr 416 0 0]
abbrev wbC(p:Nat)(t:Nat)(tn:Int):List AV:=[vi (p:Int),vi (p:Int),.int false .i64 tn,vi (i64.wrap ((t:Int)+1))]
abbrev zW:List AV:=(.nilp::.ptr 101 0 0::List.append (waz) ((vi (d.ps.n:Int)::wbC p t tn)))
abbrev QDi(d:Puz):Nat×Blk:=(329,.lp LoopState.ready none (Xy d) (Array.mk [18]) ac body)
abbrev jA:Nat×Blk:=(288,.cellsR 0 90 [.ptr 200 0 0])
abbrev QDv:Nat×Blk:=(416,.cellsR 0 31 [.fn (Fn.func 103) (waz)])
abbrev vS:Nat×Blk:=(0,.frz (wae) d.ps.n λi=>QA.enc (d.ps.get i))
abbrev vA:Nat×Blk:=(96,.cellsR 0 28 (waf d))
abbrev waR:List (Nat×Blk):=[(336,.cellsR 0 105 [.yld 329]),(296,.cellsR 0 96 [.nils])]
abbrev W5(d:Puz)(f:List Lay)(g:List Lay)(l:List Lay)(many:Int)(u:Nat->Nat->Int):List (Nat×Blk):=((200,.cells 0 152 (List.append (waf d) ([.map 201,.slz 472 0 l.length cO])))::(201,.mp E.1 E.2)::(400,.cells 0 114 [.slz 496 0 d.ps.n cO])::(QDi ac body d)::(120,.cells 0 3 [vi many])::(104,.cells 0 42 [.slz 480 0 f.length cO])::(112,.cells 0 42 [.slz 488 0 g.length cO])::jA::List.append (waR) ([QDv,(vS d),(472,.rowz true 49 kB l.length λi=>QA.enc (l.getD i (Lay.mk (0:Int) (0:Int)))),(496,.rowz true 4 [CK.bool] d.ps.n u),(vA d),(480,.rowz true 49 kB f.length λi=>QA.enc (f.getD i (Lay.mk (0:Int) (0:Int)))),(488,.rowz true 49 kB g.length λi=>QA.enc (g.getD i (Lay.mk (0:Int) (0:Int))))]))
abbrev wag(l:List Lay):List Prop:=[l.length<=l.length,QB 2 l.length (λi=>QA.enc (l.getD i (Lay.mk (0:Int) (0:Int)))) λi=>QA.enc (l.getD i (Lay.mk (0:Int) (0:Int)))]
abbrev wb3(l:List Lay):List Prop:=[cO=cO,0=0,l.length=l.length,cO=cO]
abbrev QPK(d:Puz)(l:List Lay)(p:Nat)(t:Nat):List Prop:=([0=0,0=0,(p:Int)=(p:Int),(t:Int)=(t:Int)]++waa d++(((wb3 l)++wag l++[E.1=E.1,E.2=E.2])++wad d))
abbrev wai:List Prop:=[LoopState.ready=LoopState.ready,(none:Option Code)=none]
abbrev waF(f:List Lay):List Prop:=[f.length<=f.length,QB 2 f.length (λi=>QA.enc (f.getD i (Lay.mk (0:Int) (0:Int)))) λi=>QA.enc (f.getD i (Lay.mk (0:Int) (0:Int)))]
abbrev wa2:List Prop:=[(0:Int)=0,(0:Int)=0,false=false]
abbrev wbo(d:Puz):List Prop:=[0=0,d.ps.n=d.ps.n,cO=cO,d.ps.n<=d.ps.n]
abbrev wcc:List Prop:=[0=0,0=0,0=0,0=0,0=0,0=0,0=0,0=0]
abbrev wbN:List Prop:=(wcc++[0=0,0=0])
abbrev wb5:List Prop:=[cO=cO,0=0,0=0,(0:Int)=0,0=0,0=0]
abbrev wb6:List Prop:=[Fn.func 102=Fn.func 102,0=0,0=0,0=0,0=0]
abbrev wb8:List Prop:=(wcc++[(0:Int)=0,0=0,0=0,0=0,0=0,(0:Int)=0])
abbrev QKU(d:Puz)(f:List Lay)(g:List Lay)(l:List Lay)(l2:List Lay)(many:Int)(p:Nat)(t:Nat)(u:Nat->Nat->Int)(u2:Nat->Nat->Int):List Prop:=((wbN)++waa d++(([cO=cO,0=0,l.length+1=l2.length,cO=cO,E.1=E.1,E.2=E.2,l2.length<=l.length+1,QB 2 l2.length (KH l.length (λi=>QA.enc (l.getD i (Lay.mk (0:Int) (0:Int)))) (Kt [[.int false .i64 (p:Int),vi (t:Int)]] 0)) λi=>QA.enc (l2.getD i (Lay.mk (0:Int) (0:Int)))]++wbo d++[QB 1 d.ps.n (λi=>bif decide (i=p)then KL [.bool true true] 0 (u ((p:Int).toNat+0))else u i) u2])++wai++[Array.mk [18]=Array.mk [18],ac=ac,body=body])++waa d++([cO=cO]++wb8)++waa d++(((wb5)++wa2++([0=0,0=0]++wb6++[many=many,0=0,f.length=f.length,cO=Cap.of 0]))++waF f++([0=0,g.length=g.length,cO=cO,g.length<=g.length,QB 2 g.length (λi=>QA.enc (g.getD i (Lay.mk (0:Int) (0:Int)))) λi=>QA.enc (g.getD i (Lay.mk (0:Int) (0:Int))),Fn.func 103=Fn.func 103]++wbN++[0=0,0=0]))++waa d++([cO=cO]++wad d))
abbrev ze:Nat×Blk:=(200,.cells 0 152 (List.append (waf d) ([.map 201,.slz 816 0 (i64.wrap ((l2.length:Int)-1)).toNat cO])))
abbrev GP:Nat×Blk:=(400,.cells 0 114 [.slz 819 0 d.ps.n cO])
abbrev zT:Nat×Blk:=(120,.cells 0 3 [vi many'])
abbrev zF:Nat×Blk:=(104,.cells 0 42 [.slz 817 0 f'.length cO])
abbrev zJ:Nat×Blk:=(112,.cells 0 42 [.slz 818 0 g'.length cO])
abbrev Gg:Nat×Blk:=(816,.rowz true 49 kB l2.length λi=>QA.enc (l2.getD i (Lay.mk (0:Int) (0:Int))))
abbrev zz:Nat×Blk:=(819,.rowz true 4 [CK.bool] d.ps.n λi=>bif decide (i=p)then KL [.bool true false] 0 (u2 ((p:Int).toNat+0))else u2 i)
abbrev Gc:Nat×Blk:=(817,.rowz true 49 kB f'.length λi=>QA.enc (f'.getD i (Lay.mk (0:Int) (0:Int))))
abbrev Hf:Nat×Blk:=(818,.rowz true 49 kB g'.length λi=>QA.enc (g'.getD i (Lay.mk (0:Int) (0:Int))))
abbrev QSm:List AV:=(.ptr 2 0 0::.ptr 101 0 0::List.append (waz) ([vi (d.ps.n:Int),vi (p:Int)]))
abbrev wbs:List AV:=[.nili,.ptr 101 0 0,.bool true false]
theorem QVy(pb1 pb2:List Prop->Bool)(d:Puz)(E:ECt)(ac body:Code)(u u2:Nat->Nat->Int)(l l2:List Lay)(v:Bool)(many:Int)(f g:List Lay)(p:Nat)(tn:Int)(t:Nat)(many':Int)(f' g':List Lay)(g0:Nat->Value):exec (mkE prog (QBT pb1 pb2 d E l ⟨p,t⟩ v (VD d E ac body u2 l2 many f g many' f' g'))) (hnd (mkE prog (QBT pb1 pb2 d E l ⟨p,t⟩ v (VD d E ac body u2 l2 many f g many' f' g'))) 0) (Qa (QJ f103 0)) (JSt.inst (zt d E ac body u l many f g p tn t) g0) (KD WV QJz) = .br (decide ((t:Int)<tn)) (.need (true) (.br (!Qs (Rw.mk 0 λi=>Pt.mk (0:Int) (Lay.mk (0:Int) (0:Int))) (l.length:Int) (Lay.mk (p:Int) (t:Int))) (.leaf (.tup (zW d p t tn)) ((W5 E ac body d f g l many u))) (.need (pb1 ((QPK E d l p t))) (.br (!v) (.leaf (.tup (zW d p t tn)) ((W5 E ac body d f g l many u))) (.need (decide ((0:Int)<=(p:Int)/\(p:Int)<(d.ps.n:Int))&&decide (d.ps.n<=d.ps.n)) (.need (decide (p<d.ps.n)) (.need (decide (l.length<=l.length)&&(true&&decide ((l.length+1+(l.length+1) / 4+192)*16<=281474976710656/\l.length+1<=9223372036854775807))) (.need (pb2 ((QKU E ac body d f g l l2 many p t u u2))) (.need (decide ((0:Int)<=i64.wrap ((l2.length:Int)-1)/\(i64.wrap ((l2.length:Int)-1)).toNat<=l2.length-0)) (.need (decide ((0:Int)<=(p:Int)/\(p:Int)<(d.ps.n:Int))&&decide (d.ps.n<=d.ps.n)) (.need (decide (p<d.ps.n)) (.br (false) (.leaf (.tup (wbs)) ([(ze d l2),(201,.mp E.1 E.2),(GP d),(QDi ac body d),(zT many'),(zF f'),(zJ g'), (vS d),(Gg l2),(zz d p u2),(vA d),jA,(296,.cellsR 0 96 [.nils]),(Gc f'),(Hf g')])) (.leaf (.tup (zW d p t tn)) (((ze d l2)::(201,.mp E.1 E.2)::(GP d)::(QDi ac body d)::(zT many')::(zF f')::(zJ g')::jA::List.append (waR) ([QDv,(vS d),(Gg l2),(zz d p u2),(vA d),(Gc f'),(Hf g')])))))))))))))))) (.leaf (.tup (QSm d p)) ((W5 E ac body d f g l many u))):=by kernel_rfl
abbrev wbR(d:Puz)(p:Nat)(t:Nat)(tn:Int):List AV:=[vi (d.ps.n:Int),vi (p:Int),vi (p:Int),vi tn,.int false .i64 (i64.wrap ((t:Int)+1))]
abbrev QLV:List AV:=(List.append (waz) ((wbR d p t tn)))
abbrev was(g:List Lay):List Prop:=[g.length<=g.length,QB 2 g.length (λi=>QA.enc (g.getD i (Lay.mk (0:Int) (0:Int)))) λi=>QA.enc (g.getD i (Lay.mk (0:Int) (0:Int)))]
abbrev wbp(d:Puz)(p:Nat):List Prop:=[(d.ps.n:Int)=(d.ps.n:Int),(p:Int)=(p:Int)]
abbrev waH(d:Puz)(p:Nat)(t:Nat)(t':Nat)(tn:Int):List Prop:=(wbp d p++[(p:Int)=(p:Int),tn=tn,i64.wrap ((t:Int)+1)=(t':Int)])
abbrev wbO(E:ECt)(l:List Lay):List Prop:=[l.length=l.length,cO=cO,E.1=E.1,E.2=E.2]
abbrev wbY:List Prop:=[0=0,0=0,Fn.func (102:FuncId)=Fn.func (102:FuncId),0=0,0=0,0=0]
abbrev Qd3(d:Puz)(f:List Lay)(g:List Lay)(l:List Lay)(many:Int)(p:Nat)(t:Nat)(t':Nat)(tn:Int)(u:Nat->Nat->Int):List Prop:=(((wbN)++waH d p t t' tn)++waa d++(([cO=cO,0=0]++wbO E l)++wag l++((wbo d++[QB 1 d.ps.n u u])++wai++[Array.mk [18]=Array.mk [(18:Tmp)],ac=ac,body=body]))++waa d++([cO=cO]++wb8)++waa d++((((wb5)++wa2++(wbY++[0=0,many=many,0=0,f.length=f.length,cO=cO]))++waF f++[0=0,g.length=g.length,cO=cO])++was g++([Fn.func 103=Fn.func (103:FuncId)]++wbN++[0=0,0=0]))++waa d++([cO=cO]++wad d))
theorem QNE(l:List Lay)(many:Int)(f g:List Lay)(p:Nat)(tn:Int)(t t':Nat):QF 464 (QLV d p t tn) ((W5 E ac body d f g l many u)) (zt d E ac body u l many f g p tn t')=(some (Qd3 E ac body d f g l many p t t' tn u)):=by kernel_rfl
abbrev WE:List Prop:=[0=0,0=0,0=0,0=0,0=0,0=0]
abbrev GG:List Prop:=[0=0,0=0,0=0,0=0]
abbrev Y7:List Prop:=([d.pK.aK=d.pK.aK]++waD d++[0=0,d.ps.n=d.ps.n,cO=cO])
abbrev waM(E:ECt)(l:List Lay)(l2:List Lay):List Prop:=[E.1=E.1,E.2=E.2,l.length<=l2.length,QB 2 l.length (λi=>QA.enc (l2.getD i (Lay.mk (0:Int) (0:Int)))) λi=>QA.enc (l.getD i (Lay.mk (0:Int) (0:Int)))]
abbrev QP1(d:Puz)(l:List Lay)(l2:List Lay)(p:Nat)(u2:Nat->Nat->Int)(u3:Nat->Nat->Int):List Prop:=([0=0,(i64.wrap ((l2.length:Int)-1)).toNat=l.length,cO=cO]++waM E l l2++(wbo d++[QB 1 d.ps.n (λi=>bif decide (i=p)then KL [.bool true false] 0 (u2 ((p:Int).toNat+0))else u2 i) u3]))
abbrev wbE(g':List Lay):List Prop:=[g'.length<=g'.length,QB 2 g'.length (λi=>QA.enc (g'.getD i (Lay.mk (0:Int) (0:Int)))) λi=>QA.enc (g'.getD i (Lay.mk (0:Int) (0:Int)))]
abbrev QQ7(many':Int):List Prop:=([(0:Int)=0,0=0,0=0]++wa2++((wbY++[0=0,many'=many',0=0,f'.length=f'.length,cO=cO,f'.length<=f'.length,QB 2 f'.length (λi=>QA.enc (f'.getD i (Lay.mk (0:Int) (0:Int)))) λi=>QA.enc (f'.getD i (Lay.mk (0:Int) (0:Int))),0=0,g'.length=g'.length,cO=cO])++wbE g'))
theorem QZ2(u u2 u3:Nat->Nat->Int)(l l2:List Lay)(p:Nat)(tn:Int)(t t':Nat)(many':Int)(f' g':List Lay):QF 464 (QLV d p t tn) (((ze d l2)::(201,.mp E.1 E.2)::(GP d)::(QDi ac body d)::(zT many')::(zF f')::(zJ g')::jA::List.append (waR) ([QDv,(vS d),(Gg l2),(zz d p u2),(vA d),(Gc f'),(Hf g')]))) (zt d E ac body u3 l many' f' g' p tn t')=(some (WE++GG++(waH d p t t' tn++[d.pK.length=d.pK.length])++(Y7 d)++(QP1 E d l l2 p u2 u3)++(wai++[Array.mk [18]=Array.mk [(18:Tmp)],ac=ac,body=body,d.pK.length=d.pK.length]) ++ (Y7 d)++WE++[0=0,0=0,(0:Int)=0]++GG++[(0:Int)=0,d.pK.length=d.pK.length]++(Y7 d)++[0=0,0=0]++(QQ7 f' g' many')++[Fn.func 103=Fn.func (103:FuncId)]++WE++WE++[d.pK.length=d.pK.length]++(Y7 d)++(wad d))):=by kernel_rfl
theorem QQs(l:List Lay)(many:Int)(f g:List Lay)(p:Nat):QF 464 (List.append (waz) ([vi (d.ps.n:Int),vi (p:Int)])) ((W5 E ac body d f g l many u)) (Hk d E ac body u l many f g p)=(some (WE++GG++(wbp d p++[d.pK.length=d.pK.length])++(Y7 d)++(([0=0]++wbO E l)++wag l++((wbo d++[QB 1 d.ps.n u u])++wai++[Array.mk [18]=Array.mk [(18:Tmp)],ac=ac,body=body,d.pK.length=d.pK.length]))++(Y7 d)++WE++[0=0,0=0,(0:Int)=0]++GG++[(0:Int)=0, d.pK.length=d.pK.length]++(Y7 d)++([0=0,0=0,(0:Int)=0,0=0,0=0]++wa2++[0=0,0=0,Fn.func (102:FuncId)=Fn.func (102:FuncId)])++GG++(([many=many,0=0,f.length=f.length,cO=cO]++waF f++[0=0,g.length=g.length,cO=cO])++was g++[Fn.func 103=Fn.func (103:FuncId)])++WE++WE ++ [d.pK.length=d.pK.length]++(Y7 d)++(wad d))):=by kernel_rfl
theorem QVH(pb1 pb2:List Prop->Bool)(d:Puz)(E:ECt)(ac body:Code)(u u2:Nat->Nat->Int)(l l2:List Lay)(v:Bool)(many:Int)(f g:List Lay)(p:Nat)(tn:Int)(t:Nat)(many':Int)(f' g':List Lay)(g0:Nat->Value):exec (mkE prog (QBT pb1 pb2 d E l ⟨p,t⟩ v (Xe d E ac body u2 l2 many f g many' f' g'))) (hnd (mkE prog (QBT pb1 pb2 d E l ⟨p,t⟩ v (Xe d E ac body u2 l2 many f g many' f' g'))) 0) (Qa (QJ f103 0)) (JSt.inst (zt d E ac body u l many f g p tn t) g0) (KD WV QJz) = .br (decide ((t:Int)<tn)) (.need (true) (.br (!Qs (Rw.mk 0 λi=>Pt.mk (0:Int) (Lay.mk (0:Int) (0:Int))) (l.length:Int) (Lay.mk (p:Int) (t:Int))) (.leaf (.tup (zW d p t tn)) ((W5 E ac body d f g l many u))) (.need (pb1 ((QPK E d l p t))) (.br (!v) (.leaf (.tup (zW d p t tn)) ((W5 E ac body d f g l many u))) (.need (decide ((0:Int)<=(p:Int)/\(p:Int)<(d.ps.n:Int))&&decide (d.ps.n<=d.ps.n)) (.need (decide (p<d.ps.n)) (.need (decide (l.length<=l.length)&&(true&&decide ((l.length+1+(l.length+1) / 4+192)*16<=281474976710656/\l.length+1<=9223372036854775807))) (.need (pb2 ((QKU E ac body d f g l l2 many p t u u2))) (.need (decide ((0:Int)<=i64.wrap ((l2.length:Int)-1)/\(i64.wrap ((l2.length:Int)-1)).toNat<=l2.length-0)) (.need (decide ((0:Int)<=(p:Int)/\(p:Int)<(d.ps.n:Int))&&decide (d.ps.n<=d.ps.n)) (.need (decide (p<d.ps.n)) (.br (true) (.leaf (.tup (wbs)) ([(ze d l2),(201,.mp E.1 E.2),(GP d),(329,.lp LoopState.done (some (Code.exit 0)) (Xy d) (Array.mk [18]) ac body),(zT many'),(zF f'),(zJ g'),(vS d),(Gg l2),(zz d p u2),(vA d),jA,(296,.cellsR 0 96 [.nils]),(Gc f'),(Hf g')])) (.leaf (.tup (zW d p t tn)) (((ze d l2)::(201,.mp E.1 E.2)::(GP d)::(329,.lp LoopState.done (some (Code.exit 0)) (Xy d) (Array.mk [18]) ac body)::(zT many')::(zF f')::(zJ g')::jA::List.append (waR) ([QDv,(vS d),(Gg l2),(zz d p u2),(vA d),(Gc f'),(Hf g')])))))))))))))))) (.leaf (.tup (QSm d p)) ((W5 E ac body d f g l many u))):=by kernel_rfl
abbrev waP:List Prop:=[LoopState.done=LoopState.done,some (Code.exit 0)=some (Code.exit 0)]
theorem QWL(u2 u3:Nat->Nat->Int)(l l2:List Lay)(p:Nat)(many':Int)(f' g':List Lay):QF 464 [.bool true false] ([(ze d l2),(201,.mp E.1 E.2),(GP d),(329,.lp LoopState.done (some (Code.exit 0)) (Xy d) (Array.mk [18]) ac body),(zT many'),(zF f'), (zJ g'),(vS d),(Gg l2),(zz d p u2),(vA d),jA,(296,.cellsR 0 96 [.nils]),(Gc f'),(Hf g')]) (soF d E ac body u3 l many' f' g')=(some ([false=false, d.pK.length=d.pK.length]++(Y7 d)++(QP1 E d l l2 p u2 u3)++(waP++[Array.mk [18]=Array.mk [(18:Tmp)],ac=ac,body=body,d.pK.length=d.pK.length])++(Y7 d)++WE++[0=0,0=0,(0:Int)=0]++GG++[(0:Int)=0,d.pK.length=d.pK.length] ++ (Y7 d)++[0=0,0=0]++(QQ7 f' g' many'))):=by kernel_rfl
def clU:UC:=⟨0,⟨1,[(0,.slz 5 0 l.length (.of 0))],[QAj 5 l],8⟩,λm=>.slz m 0 l.length (.of 0),λm=>[rwY m l]⟩
theorem Qhg:VZ (mkE prog QU) (hnd (mkE prog QU) 1) f68 (clU l)=QC.need (decide ((0:Nat)<l.length/\l.length<=l.length)) (QC.need (true&&(decide (l.length<=l.length)&&decide (((0:Nat)+l.length+((0:Nat)+l.length) / (4:Nat)+(192:Nat))*(16:Nat)<=(281474976710656:Nat)/\(0:Nat)+l.length<=(9223372036854775807:Nat)))) (QC.leaf (AV.slz (48:Nat) (0:Nat) ((0:Nat)+l.length) cO) ([((48:Nat),Blk.rowz true (49:Nat) [CK.int i64,CK.int i64] ((0:Nat)+l.length) (KH (0:Nat) (λx x_1=>(0:Int)) λi=>QA.enc (l.getD i (Lay.mk (0:Int) (0:Int)))))]))):=by kernel_rfl
theorem QeH(l l':List Lay):QF 8 [(AV.slz (48:Nat) (0:Nat) ((0:Nat)+l.length) cO)] ([((48:Nat),Blk.rowz true (49:Nat) [CK.int i64,CK.int i64] ((0:Nat)+l.length) (KH (0:Nat) (λx x_1=>(0:Int)) λi=>QA.enc (l.getD i (Lay.mk (0:Int) (0:Int)))))]) (KX (clU l'))=( some [0=0,(0:Nat)+l.length=l'.length,cO=cO,l'.length<=(0:Nat)+l.length,QB (2:Nat) l'.length (KH (0:Nat) (λx x_1=>(0:Int)) λi=>QA.enc (l.getD i (Lay.mk (0:Int) (0:Int)))) λi=>QA.enc (l'.getD i (Lay.mk (0:Int) (0:Int)))]):=by kernel_rfl
theorem QPG(m n:Nat)(f g:Nat->Nat->Int):QB m n (KH 0 f g) g:=by
 intro i hi;have:KH 0 f g i=g i:=by funext j;rw[Xw,if_neg (Nat.not_lt_zero i),Nat.sub_zero]
 rw[this];exact QEv _ _ _
theorem QdD:(clU l).Ok:=by
 refine⟨(by decide:0<=8),rfl,rfl,?_,rfl,λnid h=>?_,λnid h=>?_⟩
 .intro q hq;simp only[UC.po,clU,rwY,List.mem_cons,List.not_mem_nil,or_false]at hq;subst hq;exact⟨rfl,rfl,rfl,λh=>absurd (show 8<0 from h) (by decide)⟩
 .have e0:=Kj 0 8 0 nid (by decide)
  simp only[UC.va,clU,AV.mapId,Nat.add_zero]at e0 ⊢;rw[e0]
 .have e0:=Kj 0 8 0 nid (by decide)
  simp only[UC.po,clU,rwY,List.map_cons,List.map_nil,Blk.mapId,Nat.add_zero]at e0 ⊢;rw[e0]
theorem QPu(hp:0<l.length)(hl:l.length<=1000):QQ prog 68 (uFC (clU l)):=by
 refine K4 (c:=Qk f68) (E:=mkE prog QU) (QP Qd) func68 (by kernel_rfl) (by kernel_rfl) (QdD l) (λG h1 _=>Qw (QP Qd) 1 G _ h1) ⟨?_⟩
 refine Qe (Qhg l) ?_;refine QG (by simp;omega) (QG (by simp;omega) ⟨rfl,rfl,_,QeH l l,?_⟩)
 repeat' first|with_reducible refine QN ?_ ?_|exact tv|exact Nat.zero_add _|exact QPG _ _ _ _|omega|refine aI ?_ ?_
def qn(n:Nat)(a:Int):Tab:=QZ QU 52 (KI pb (tnU d n a))
abbrev QCe(P:Program)(pb:List Prop->Bool)(d:Puz)(E:ECt)(ac body:Code)(u:Nat->Nat->Int)(l:List Lay)(many:Int)(f g:List Lay)(p:Nat)(X:List (Prop×Ex×JSt)):Hnd:={ hnd (mkE P (qn pb d l.length p)) 0 with loop:=λ_=>J9 (p<d.ps.n/\u p 0=0) (KJ 464 WV (zt d E ac body u l many f g p (tnV d p) (0:Nat)) X) }
abbrev QTi:List AV:=(.nilp::.ptr 101 0 0::List.append (waz) ([vi (d.ps.n:Int),vi (i64.wrap ((p:Int)+1))]))
abbrev YS:Nat×Blk:=(200,.cells 0 152 (List.append (waf d) ([.map 201,.slz 472 0 l.length cO])))
abbrev YO:Nat×Blk:=(400,.cells 0 114 [.slz 496 0 d.ps.n cO])
abbrev HD(d:Puz):Nat×Blk:=(329,.lp LoopState.ready none (Xy d) (Array.mk [18]) ac body)
abbrev QD2:Nat×Blk:=(120,.cells 0 3 [vi many])
abbrev QDa:Nat×Blk:=(104,.cells 0 42 [.slz 480 0 f.length cO])
abbrev QB3:Nat×Blk:=(112,.cells 0 42 [.slz 488 0 g.length cO])
abbrev JY:Nat×Blk:=(288,.cellsR 0 90 [.ptr 200 0 0])
abbrev QEt:Nat×Blk:=(416,.cellsR 0 31 [.fn (Fn.func 103) (waz)])
abbrev Ja:Nat×Blk:=(0,.frz (wae) d.ps.n λi=>QA.enc (d.ps.get i))
abbrev X9:Nat×Blk:=(472,.rowz true 49 kB l.length λi=>QA.enc (l.getD i (Lay.mk (0:Int) (0:Int))))
abbrev JZ:Nat×Blk:=(96,.cellsR 0 28 (waf d))
abbrev QB7:Nat×Blk:=(480,.rowz true 49 kB f.length λi=>QA.enc (f.getD i (Lay.mk (0:Int) (0:Int))))
abbrev QD9:Nat×Blk:=(488,.rowz true 49 kB g.length λi=>QA.enc (g.getD i (Lay.mk (0:Int) (0:Int))))
abbrev Wk:Nat×Blk:=(120,.cells 0 3 [vi many'])
abbrev qQ:Nat×Blk:=(104,.cells 0 42 [.slz 480 0 f'.length cO])
abbrev qp:Nat×Blk:=(112,.cells 0 42 [.slz 488 0 g'.length cO])
abbrev qa:Nat×Blk:=(480,.rowz true 49 kB f'.length λi=>QA.enc (f'.getD i (Lay.mk (0:Int) (0:Int))))
abbrev qZ:Nat×Blk:=(488,.rowz true 49 kB g'.length λi=>QA.enc (g'.getD i (Lay.mk (0:Int) (0:Int))))
abbrev wbU(d:Puz)(p:Nat):List Prop:=[(p:Int)=(p:Int),tnV d (p:Int)=tnV d (p:Int),(0:Int)=0]
theorem QQc(u u':Nat->Nat->Int)(l:List Lay)(many:Int)(f g:List Lay)(p:Nat)(A B:Prop)(many':Int)(f' g':List Lay)(g0:Nat->Value):exec (mkE prog (qn pb d l.length p)) (QCe prog pb d E ac body u l many f g p [(A,.exit 2,Hk d E ac body u' l many' f' g' p),(B,.ret,soF d E ac body u' l many' f' g')]) (QJ f103 0) (JSt.inst (GO d E ac body u l many f g p) g0) (KD WV QKF) = .br (decide ((p:Int)<(d.ps.n:Int))) (.need (decide ((0:Int)<=(p:Int)/\(p:Int)<(d.ps.n:Int))&&decide (d.ps.n<=d.ps.n)) (.need (decide (p<d.ps.n)) (.br (decide (u ((p:Int).toNat+0) 0=1)) (.leaf (.tup (QTi d p)) (((YS d l)::(201,.mp E.1 E.2)::(YO d)::(HD ac body d)::(QD2 many)::(QDa f)::(QB3 g)::JY::List.append (waR) ([QEt,(Ja d),(X9 l),(496, .rowz true 4 [CK.bool] d.ps.n u),(JZ d),(QB7 f),(QD9 g)])))) (.need (pb (([0=0,0=0,(p:Int)=(p:Int)]++waa d++((wb3 l)++wad d)))) (.ak [p<d.ps.n/\u p 0=0] (.ak (rz 10) (.ak ((wbp d p++(wbU d p))++waa d++(([cO=cO,0=0]++wbO E l)++wag l++((wbo d++[QB 1 d.ps.n u u])++wai++[Array.mk [(18:Tmp)]=Array.mk [(18:Tmp)],ac=ac,body=body]))++waa d++[cO=cO]) (.ak (rz 8) (.ak ([(0:Int)=0,0=0,0=0,0=0,0=0,(0:Int)=0]++waa d++((((wb5)++wa2++(wbY++[0=0,many=many,0=0,f.length=f.length,cO=cO]))++waF f++[0=0,g.length=g.length,cO=cO])++was g++[Fn.func (103:FuncId)=Fn.func (103:FuncId)])) (.ak (rz 12) (.ak (waa d++([cO=cO]++wad d)) (.both (.asm (A) (.all (λ(g0:Nat->Value)=>.leaf (.tup (QTi d p)) (((YS d l)::(201,.mp E.1 E.2)::(YO d)::(HD ac body d)::(Wk many')::(qQ f')::(qp g')::JY::List.append (waR) ([QEt,(Ja d),(X9 l),(496,.rowz true 4 [CK.bool] d.ps.n u'),(JZ d),(qa f'),(qZ g')])))))) (.asm (B) (.all (λ(g1:Nat->Value)=>.leaf (.tup [.nili, .ptr 101 0 0,.bool false false]) ([(YS d l),(201,.mp E.1 E.2),(YO d),(329,.lp LoopState.done (some (Code.exit 0)) (Xy d) (Array.mk [18]) ac body),(Wk many'),(qQ f'),(qp g'),(X9 l),(496,.rowz true 4 [CK.bool] d.ps.n u'),(qa f'),(qZ g')])))))))))))))))) (.leaf (.tup [.ptr 0 0 0,.ptr 101 0 0]) ([(YS d l),(201,.mp E.1 E.2),(YO d),(HD ac body d),(QD2 many),(QDa f),(QB3 g),(Ja d),(X9 l),(496,.rowz true 4 [CK.bool] d.ps.n u),(JZ d),JY, (296,.cellsR 0 96 [.nils]),(QB7 f),(QD9 g)])):=by kernel_rfl
abbrev QSC:List AV:=(List.append (waz) ([vi (d.ps.n:Int),vi (i64.wrap ((p:Int)+1))]))
abbrev G6:List Prop:=[0=0,0=0,0=0,0=0,0=0,0=0]
abbrev ZH(d:Puz)(l:List Lay):List Prop:=(([d.pK.aK=d.pK.aK]++waD d++([0=0,d.ps.n=d.ps.n,cO=cO,0=0]++wbO E l))++wag l++[0=0,d.ps.n=d.ps.n,cO=cO])
abbrev QH1:List Prop:=(wai++[Array.mk [18]=Array.mk [(18:Tmp)],ac=ac])
abbrev Yb:List Prop:=(waa d)
abbrev Ze:List Prop:=(([cO=cO]++wb8)++waa d++((wb5)++wa2++(wbY)))
abbrev QLt(many:Int):List Prop:=(([0=0,many=many,0=0,f.length=f.length,cO=cO]++waF f++[0=0,g.length=g.length,cO=cO])++was g)
abbrev wbP(d:Puz)(p:Nat)(p':Nat):List Prop:=[(d.ps.n:Int)=(d.ps.n:Int),i64.wrap ((p:Int)+1)=(p':Int),d.pK.length=d.pK.length]
theorem QKM(l:List Lay)(many:Int)(f g:List Lay)(p p':Nat):QF 464 (QSC d p) (((YS d l)::(201,.mp E.1 E.2)::(YO d)::(HD ac body d)::(QD2 many)::(QDa f)::(QB3 g)::JY::List.append (waR) ([QEt,(Ja d),(X9 l),(496,.rowz true 4 [CK.bool] d.ps.n u),(JZ d),(QB7 f),(QD9 g)]))) (GO d E ac body u l many f g p')=(some (G6++([0=0,0=0,0=0,0=0]++wbP d p p')++(ZH E d l)++[d.ps.n<=d.ps.n,QB 1 d.ps.n u u] ++ (QH1 ac)++[body=body]++(Yb d)++(Ze d)++(QLt f g many)++[Fn.func 103=Fn.func (103:FuncId)]++G6++G6++(Yb d)++([cO=cO]++wad d))):=by kernel_rfl
abbrev QDL(many':Int):List Prop:=
  ([0=0,many'=many',0=0,f'.length=f'.length,cO=cO,f'.length<=f'.length,QB 2 f'.length (λi=>QA.enc (f'.getD i (Lay.mk (0:Int) (0:Int)))) fun
  i=>QA.enc (f'.getD i (Lay.mk (0:Int) (0:Int))),0=0,g'.length=g'.length,cO=cO]++wbE g')
theorem QYd(l:List Lay)(p p':Nat)(many':Int)(f' g':List Lay):QF 464 (QSC d p) (((YS d l)::(201,.mp E.1 E.2)::(YO d)::(HD ac body d)::(Wk many')::(qQ f')::(qp g')::JY::List.append (waR) ([QEt,(Ja d),(X9 l),(496,.rowz true 4 [CK.bool] d.ps.n u'),(JZ d),(qa f'),(qZ g')]))) (GO d E ac body u' l many' f' g' p')=(some (G6++([0=0,0=0,0=0,0=0]++wbP d p p')++(ZH E d l)++[d.ps.n<=d.ps.n,QB 1 d.ps.n u' u']++(QH1 ac)++[body=body]++(Yb d)++(Ze d)++(QDL f' g' many')++[Fn.func 103=Fn.func (103:FuncId)]++G6++G6++(Yb d)++([cO=cO]++wad d))):=by kernel_rfl
theorem Qgd(l:List Lay)(many':Int)(f' g':List Lay):QF 464 [.bool false false] ([(YS d l),(201,.mp E.1 E.2),(YO d),(329,.lp LoopState.done (some (Code.exit 0)) (Xy d) (Array.mk [18]) ac body),(Wk many'),(qQ f'), (qp g'),(X9 l),(496,.rowz true 4 [CK.bool] d.ps.n u'),(qa f'),(qZ g')]) (soF d E ac body u' l many' f' g')=(some ([false=false,d.pK.length=d.pK.length] ++ (ZH E d l)++([d.ps.n<=d.ps.n,QB 1 d.ps.n u' u']++waP++[Array.mk [18]=Array.mk [(18:Tmp)],ac=ac,body=body])++(Yb d)++(Ze d)++(QDL f' g' many'))):=by kernel_rfl
theorem QPW(l:List Lay)(many:Int)(f g:List Lay):QF 464 [] ([(YS d l),(201,.mp E.1 E.2),(YO d),(HD ac body d),(QD2 many),(QDa f),(QB3 g),(Ja d),(X9 l),(496,.rowz true 4 [CK.bool] d.ps.n u),(JZ d), JY,(296,.cellsR 0 96 [.nils]),(QB7 f),(QD9 g)]) (GR d E ac body u l many f g)=(some ([d.pK.length=d.pK.length]++(ZH E d l)++[d.ps.n<=d.ps.n,QB 1 d.ps.n u u]++(QH1 ac)++[body=body]++(Yb d)++(Ze d)++(QLt f g many))):=by kernel_rfl
def QM(fn:Func)(k:Nat):Code×Code:=match (K5 (Qk fn))[k]? with
 | some (.rangeFunc _ _ ac body)=>(ac,body)
 | _=>(.skip,.skip)
def QA0:Tab:=QZ QU 68 (KI pb (clU l))
abbrev soN(P : Program)(T : Tab): Hnd := { hnd (mkE P T) 2 with loop := λ_ _ _=>.fail "a loop" }
abbrev soX(P:Program)(J:JSt)(X:List (Prop×Ex×JSt)):Hnd:={ hnd (mkE P QU) 2 with loop:=λ_=>KJ 464 WV J X }
abbrev QLK:List Prop:=([0=0,l.length=l.length,cO=cO]++wag l)
abbrev Vv:Nat×Blk:=(200,.cells 0 152 (List.append (waf d) ([.map 201,.slz 432 0 l.length cO])))
abbrev Vs:Nat×Blk:=(400,.cells 0 114 [.slz 456 0 d.ps.n cO])
abbrev Z1:Nat×Blk:=(329,.lp LoopState.done (some (Code.exit 0)) (Xy d) (Array.mk [18]) (QM f24 0).1 (QM f24 0).2)
abbrev Vr:Nat×Blk:=(120,.cells 0 3 [vi (i64.wrap (many+1))])
abbrev QGZ:Nat×Blk:=(104,.cells 0 42 [.slz 672 0 l.length cO])
abbrev Y4:Nat×Blk:=(112,.cells 0 42 [.slz 448 0 g.length cO])
abbrev Vd:Nat×Blk:=(432,.rowz true 49 kB l.length λi=>QA.enc (l.getD i (Lay.mk (0:Int) (0:Int))))
abbrev QF3:Nat×Blk:=(672,.rowz true 49 kB l.length λi=>QA.enc (l.getD i (Lay.mk (0:Int) (0:Int))))
abbrev Y5:Nat×Blk:=(448,.rowz true 49 kB g.length λi=>QA.enc (g.getD i (Lay.mk (0:Int) (0:Int))))
abbrev Yo:Nat×Blk:=(329,.lp LoopState.ready none (Xy d) (Array.mk [18]) (QM f24 0).1 (QM f24 0).2)
abbrev Yt:Nat×Blk:=(104,.cells 0 42 [.slz 440 0 f.length cO])
abbrev QJ6:Nat×Blk:=(112,.cells 0 42 [.slz 688 0 l.length cO])
abbrev Yl:Nat×Blk:=(440,.rowz true 49 kB f.length λi=>QA.enc (f.getD i (Lay.mk (0:Int) (0:Int))))
abbrev QHY:Nat×Blk:=(688,.rowz true 49 kB l.length λi=>QA.enc (l.getD i (Lay.mk (0:Int) (0:Int))))
theorem QVG(l:List Lay)(many:Int)(f g:List Lay):(Vu (mkE prog (QA0 pb l)) (soN prog (QA0 pb l)) f103 QJE (vl d E (QM f24 0).1 (QM f24 0).2 u l many f g).hp 464 λv h _=>Zf
  WV v h) = .br ((l.length:Int)==(d.ps.n:Int)) (.br (i64.wrap (many+1)==1) (.need (pb ((QLK l))) (.br (i64.wrap (many+1)==100) (.leaf (.bool true
  false) ([(Vv d l),(201,.mp E.1 E.2),(Vs d),(Z1 d),(Vr many),(QGZ l),(Y4 g),(Ja d),(Vd l),(456,.rowz true 4 [CK.bool] d.ps.n u),(JZ d),JY,(296,
  .cellsR 0 96 [.nils]),(QF3 l),(Y5 g)])) (.leaf (.bool true true) ([(Vv d l),(201,.mp E.1 E.2),(Vs d),(Yo d),(Vr many),(QGZ l),(Y4 g),(Ja d),(Vd l),
  (456,.rowz true 4 [CK.bool] d.ps.n u),(JZ d),JY,(296,.cellsR 0 96 [.nils]),(QF3 l),(Y5 g)])))) (.br (i64.wrap (many+1)==2) (.need (pb ((QLK l))) (.br
  (i64.wrap (many+1)==100) (.leaf (.bool true false) ([(Vv d l),(201,.mp E.1 E.2),(Vs d),(Z1 d),(Vr many),(Yt f),(QJ6 l),(Ja d),(Vd l),(456,
  .rowz true 4 [CK.bool] d.ps.n u),(JZ d),JY,(296,.cellsR 0 96 [.nils]),(Yl f),(QHY l)])) (.leaf (.bool true true) ([(Vv d l),(201,.mp E.1 E.2),(Vs d),(Yo
  d),(Vr many),(Yt f),(QJ6 l),(Ja d),(Vd l),(456,.rowz true 4 [CK.bool] d.ps.n u),(JZ d),JY,(296,.cellsR 0 96 [.nils]),(Yl f),(QHY l)])))) (.br
  (i64.wrap (many+1)==100) (.leaf (.bool true false) ([(Vv d l),(201,.mp E.1 E.2),(Vs d),(Z1 d),(Vr many),(Yt f),(Y4 g),(Ja d),(Vd l),(456,
  .rowz true 4 [CK.bool] d.ps.n u),(JZ d),JY,(296,.cellsR 0 96 [.nils]),(Yl f),(Y5 g)])) (.leaf (.bool true true) ([(Vv d l),(201,.mp E.1 E.2),(Vs d),(Yo d),
  (Vr many),(Yt f),(Y4 g),(Ja d),(Vd l),(456,.rowz true 4 [CK.bool] d.ps.n u),(JZ d),JY,(296,.cellsR 0 96 [.nils]),(Yl f),(Y5 g)]))))) (.fail
  ("a loop")) := by kernel_rfl
abbrev QUL:Nat×Blk:=(712,.rowz true 49 kB (0+l.length) (KH 0 (λx x_1=>(0:Int)) λi=>QA.enc (l.getD i (Lay.mk (0:Int) (0:Int)))))
abbrev QNo:Nat×Blk:=(728,.rowz true 49 kB (0+l.length) (KH 0 (λx x_1=>(0:Int)) λi=>QA.enc (l.getD i (Lay.mk (0:Int) (0:Int)))))
abbrev wby:List Prop:=[(QM f24 0).1=(QM f24 0).1,(QM f24 0).2=(QM f24 0).2]
theorem QSq(u u':Nat->Nat->Int)(l:List Lay)(many:Int)(f g:List Lay)(A B:Prop)(many':Int)(f' g':List Lay):(Vu (mkE prog QU) (soX prog (GO d E (QM f24 0).1 (QM f24 0).2 u l many f g 0) [(A,.exit 0,GR d E (QM f24 0).1 (QM f24 0).2 u' l many' f' g'),(B,.ret,soF d E (QM f24 0).1 (QM f24 0).2 u' l many' f' g')]) f103 QJE (vl d E (QM f24 0).1 (QM f24 0).2 u l many f g).hp 464 λv h _=>Zf WV v h) = .br ((l.length:Int)==(d.ps.n:Int)) (.br (i64.wrap (many+1)==1) (.need (decide (0<l.length/\l.length<=l.length)) (.need (true&&(decide (l.length<=l.length)&&decide ((0+l.length+(0+l.length) / 4+192)*16<=281474976710656/\0+l.length<=9223372036854775807))) (.br (i64.wrap (many+1)==100) (.leaf (.bool true false) ([(Vv d l),(201,.mp E.1 E.2),(Vs d),(Z1 d),(Vr many),(104,.cells 0 42 [.slz 712 0 (0+l.length) cO]),(Y4 g),(Ja d),(Vd l),(456,.rowz true 4 [CK.bool] d.ps.n u),(JZ d),JY,(296,.cellsR 0 96 [.nils]),(QUL l),(Y5 g)])) (.leaf (.bool true true) ([(Vv d l),(201,.mp E.1 E.2),(Vs d),(Yo d),(Vr many),(104,.cells 0 42 [.slz 712 0 (0+l.length) cO]),(Y4 g),(Ja d),(Vd l),(456,.rowz true 4 [CK.bool] d.ps.n u),(JZ d),JY,(296,.cellsR 0 96 [.nils]),(QUL l),(Y5 g)]))))) (.br (i64.wrap (many+1)==2) (.need (decide (0<l.length/\l.length<=l.length)) (.need (true&&(decide (l.length<=l.length)&&decide ((0+l.length+(0+l.length) / 4+192)*16<=281474976710656/\0+l.length<=9223372036854775807))) (.br (i64.wrap (many+1)==100) (.leaf (.bool true false) ([(Vv d l),(201,.mp E.1 E.2),(Vs d),(Z1 d),(Vr many),(Yt f),(112,.cells 0 42 [.slz 728 0 (0+l.length) cO]),(Ja d),(Vd l),(456,.rowz true 4 [CK.bool] d.ps.n u),(JZ d),JY,(296,.cellsR 0 96 [.nils]),(Yl f),(QNo l)])) (.leaf (.bool true true) ([(Vv d l),(201,.mp E.1 E.2),(Vs d),(Yo d),(Vr many),(Yt f),(112,.cells 0 42 [.slz 728 0 (0+l.length) cO]),(Ja d),(Vd l),(456,.rowz true 4 [CK.bool] d.ps.n u),(JZ d),JY,(296,.cellsR 0 96 [.nils]),(Yl f),(QNo l)]))))) (.br (i64.wrap (many+1)==100) (.leaf (.bool true false) ([(Vv d l),(201, .mp E.1 E.2),(Vs d),(Z1 d),(Vr many),(Yt f),(Y4 g),(Ja d),(Vd l),(456,.rowz true 4 [CK.bool] d.ps.n u),(JZ d),JY,(296,.cellsR 0 96 [.nils]),(Yl f),(Y5 g)])) (.leaf (.bool true true) ([(Vv d l),(201,.mp E.1 E.2),(Vs d),(Yo d),(Vr many),(Yt f),(Y4 g),(Ja d),(Vd l),(456,.rowz true 4 [CK.bool] d.ps.n u),(JZ d),JY,(296,.cellsR 0 96 [.nils]),(Yl f),(Y5 g)]))))) (.ak (rz 10) (.ak ([(d.ps.n:Int)=(d.ps.n:Int),(0:Int)=0]++waa d++(([cO=cO,0=0]++wbO E l)++wag l++((wbo d++[QB 1 d.ps.n u u])++wai++([Array.mk [(18:Tmp)]=Array.mk [(18:Tmp)]]++wby)))++waa d++[cO=cO]) (.ak (rz 8) (.ak ([(0:Int)=0,0=0,0=0,0=0,0=0,(0:Int)=0]++waa d++((((wb5)++wa2++(wbY++[0=0,many=many,0=0,f.length=f.length,cO=cO]))++waF f++[0=0,g.length=g.length,cO=cO])++was g++[Fn.func (103:FuncId)=Fn.func (103:FuncId)])) (.ak (rz 12) (.ak (waa d++([cO=cO]++wad d)) (.both (.asm (A) (.all (λ(g0:Nat->Value)=>.leaf (.bool true true) ([(YS d l),(201,.mp E.1 E.2),(YO d),(Yo d),(Wk many'),(qQ f'),(qp g'),(X9 l), (496,.rowz true 4 [CK.bool] d.ps.n u'),(qa f'),(qZ g')])))) (.asm (B) (.all (λ(g1:Nat->Value)=>.leaf (.bool false false) ([(YS d l),(201,.mp E.1 E.2),(YO d),(Z1 d),(Wk many'),(qQ f'),(qp g'),(X9 l),(496,.rowz true 4 [CK.bool] d.ps.n u'),(qa f'),(qZ g')]))))))))))):=by kernel_rfl
abbrev QEc:List Prop:=(wai++([Array.mk [18]=Array.mk [(18:Tmp)]]++wby))
abbrev QFh:List Prop:=[g.length=g'.length,cO=cO,g'.length<=g.length,QB 2 g'.length (λi=>QA.enc (g.getD i (Lay.mk (0:Int) (0:Int)))) λi=>QA.enc (g'.getD i (Lay.mk (0:Int) (0:Int)))]
theorem QWk(l:List Lay)(many:Int)(f g:List Lay)(many':Int)(f' g':List Lay):QF 464 [(.bool true true)] ([(Vv d l),(201,.mp E.1 E.2),(Vs d),(Yo d),(Vr many),(QGZ l),(Y4 g),(Ja d),(Vd l),(456,.rowz true 4 [CK.bool] d.ps.n u), (JZ d),JY,(296,.cellsR 0 96 [.nils]),(QF3 l),(Y5 g)]) (KX (VD d E (QM f24 0).1 (QM f24 0).2 u l many f g many' f' g'))=(some ([true=true, d.pK.length=d.pK.length]++(ZH E d l)++[d.ps.n<=d.ps.n,QB 1 d.ps.n u u]++QEc++(Yb d)++(Ze d)++[0=0,i64.wrap (many+1)=many',0=0, l.length=f'.length,cO=cO,f'.length<=l.length,QB 2 f'.length (λi=>QA.enc (l.getD i (Lay.mk (0:Int) (0:Int)))) λi=>QA.enc (f'.getD i (Lay.mk (0:Int) (0:Int))),0=0]++(QFh g g'))):=by kernel_rfl
abbrev QH0(many:Int)(many':Int):List Prop:=[0=0,i64.wrap (many+1)=many',0=0,f.length=f'.length,cO=cO,f'.length<=f.length,QB 2 f'.length (λi=>QA.enc (f.getD i (Lay.mk (0:Int) (0:Int)))) λi=>QA.enc (f'.getD i (Lay.mk (0:Int) (0:Int))),0=0]
theorem Qgw(l:List Lay)(many:Int)(f g:List Lay)(many':Int)(f' g':List Lay):QF 464 [(.bool true true)] ([(Vv d l),(201,.mp E.1 E.2),(Vs d),(Yo d),(Vr many),(Yt f),(QJ6 l),(Ja d),(Vd l),(456,.rowz true 4 [CK.bool] d.ps.n u), (JZ d),JY,(296,.cellsR 0 96 [.nils]),(Yl f),(QHY l)]) (KX (VD d E (QM f24 0).1 (QM f24 0).2 u l many f g many' f' g'))=(some ([true=true, d.pK.length=d.pK.length]++(ZH E d l)++[d.ps.n<=d.ps.n,QB 1 d.ps.n u u]++QEc++(Yb d)++(Ze d)++(QH0 f f' many many')++[l.length=g'.length, cO=cO,g'.length<=l.length,QB 2 g'.length (λi=>QA.enc (l.getD i (Lay.mk (0:Int) (0:Int)))) λi=>QA.enc (g'.getD i (Lay.mk (0:Int) (0:Int)))])):=by kernel_rfl
abbrev QQA:List Prop:=(waP++([Array.mk [18]=Array.mk [(18:Tmp)]]++wby))
theorem QVZ(l:List Lay)(many:Int)(f g:List Lay)(many':Int)(f' g':List Lay):QF 464 [(.bool true false)] ([(Vv d l),(201,.mp E.1 E.2),(Vs d),(Z1 d),(Vr many),(Yt f),(Y4 g),(Ja d),(Vd l),(456,.rowz true 4 [CK.bool] d.ps.n u), (JZ d),JY,(296,.cellsR 0 96 [.nils]),(Yl f),(Y5 g)]) (KX (Xe d E (QM f24 0).1 (QM f24 0).2 u l many f g many' f' g'))=(some ([false=false, d.pK.length=d.pK.length]++(ZH E d l)++[d.ps.n<=d.ps.n,QB 1 d.ps.n u u]++QQA++(Yb d)++(Ze d)++(QH0 f f' many many')++(QFh g g'))):=by kernel_rfl
theorem Qa0(l:List Lay)(many:Int)(f g:List Lay)(many':Int)(f' g':List Lay):QF 464 [(.bool true true)] ([(Vv d l),(201,.mp E.1 E.2),(Vs d),(Yo d),(Vr many),(Yt f),(Y4 g),(Ja d),(Vd l),(456,.rowz true 4 [CK.bool] d.ps.n u), (JZ d),JY,(296,.cellsR 0 96 [.nils]),(Yl f),(Y5 g)]) (KX (VD d E (QM f24 0).1 (QM f24 0).2 u l many f g many' f' g'))=(some ([true=true, d.pK.length=d.pK.length]++(ZH E d l)++[d.ps.n<=d.ps.n,QB 1 d.ps.n u u]++QEc++(Yb d)++(Ze d)++(QH0 f f' many many')++(QFh g g'))):=by kernel_rfl
theorem Qgu(u u':Nat->Nat->Int)(l:List Lay)(many:Int)(f g:List Lay)(many':Int)(f' g':List Lay):QF 464 [(.bool true true)] ([(YS d l),(201,.mp E.1 E.2),(YO d),(Yo d),(Wk many'),(qQ f'),(qp g'),(X9 l),(496,.rowz true 4 [CK.bool] d.ps.n u'),(qa f'),(qZ g')]) (KX (VD d E (QM f24 0).1 (QM f24 0).2 u l many f g many' f' g'))=(some ([true=true,d.pK.length=d.pK.length]++(ZH E d l) ++ [d.ps.n<=d.ps.n,QB 1 d.ps.n u' u]++QEc++(Yb d)++(Ze d)++(QDL f' g' many'))):=by kernel_rfl
theorem QgP(u u':Nat->Nat->Int)(l:List Lay)(many:Int)(f g:List Lay)(many':Int)(f' g':List Lay):QF 464 [(.bool false false)] ([(YS d l),(201,.mp E.1 E.2),(YO d),(Z1 d),(Wk many'),(qQ f'),(qp g'),(X9 l),(496,.rowz true 4 [CK.bool] d.ps.n u'), (qa f'),(qZ g')]) (KX (Xe d E (QM f24 0).1 (QM f24 0).2 u l many f g many' f' g'))=(some ([false=false,d.pK.length=d.pK.length]++(ZH E d l)++[d.ps.n<=d.ps.n,QB 1 d.ps.n u' u]++QQA++(Yb d)++(Ze d)++(QDL f' g' many'))):=by kernel_rfl
abbrev SoS:=Int×List Lay×List Lay
inductive Qb (σ:Type) where
 | go (s:σ)
 | stop (s:σ)
def Q4{σ α:Type}(f:σ->α->Qb σ):List α->σ->Qb σ
 | [],s => .go s
 | a::r,s=>match f s a with
  | .go s'=>Q4 f r s'
  | .stop s' => .stop s'
def Za(s:SoS):Qb SoS:=cond (i64.wrap (s.1+1)==100)
 (.stop (i64.wrap (s.1+1),cond (i64.wrap (s.1+1)==1) l s.2.1,cond (i64.wrap (s.1+1)==1) s.2.2 (cond (i64.wrap (s.1+1)==2) l s.2.2)))
 (.go (i64.wrap (s.1+1),cond (i64.wrap (s.1+1)==1) l s.2.1,cond (i64.wrap (s.1+1)==1) s.2.2 (cond (i64.wrap (s.1+1)==2) l s.2.2)))
def turnN:Nat:=(tnV d p).toNat
def KF(rec:List Lay->σ->Qb σ)(l:List Lay)(p:Nat)(s:σ)(t:Nat):Qb σ:=cond (Q3 d E l ⟨p,t⟩) (rec (l++[⟨p,t⟩]) s) (.go s)
def inZ(rec:List Lay->σ->Qb σ)(l:List Lay)(p:Nat)(s:σ):Qb σ:=Q4 (KF d E rec l p) (List.range (turnN d p)) s
def K0(rec:List Lay->σ->Qb σ)(l:List Lay)(s:σ)(p:Nat):Qb σ:=cond (KM l p) (.go s) (inZ d E rec l p s)
def onY{σ:Type}(d:Puz)(E:ECt)(Y:List Lay->σ->Qb σ):Nat->List Lay->σ->Qb σ
 | 0,l,s=>Y l s
 | k+1,l,s=>Q4 (K0 d E (onY d E Y k) l) (List.range d.ps.n) s
def onZ:Nat->List Lay->SoS->Qb SoS:=onY d E Za
def Jw(A:Int->Lay->Bool)(d:Puz)(E:ECt)(rec:List Lay->σ->Qb σ)(l:List Lay)(p:Nat)(s:σ)(t:Nat):Qb σ:=cond (A l.length ⟨p,t⟩) (KF d E rec l p s t) (.go s)
def inA(A:Int->Lay->Bool)(d:Puz)(E:ECt)(rec:List Lay->σ->Qb σ)(l:List Lay)(p:Nat)(s:σ):Qb σ:=Q4 (Jw A d E rec l p) (List.range (turnN d p)) s
def Xl(A:Int->Lay->Bool)(d:Puz)(E:ECt)(rec:List Lay->σ->Qb σ)(l:List Lay)(s:σ)(p:Nat):Qb σ:=cond (KM l p) (.go s) (inA A d E rec l p s)
def onA{σ:Type}(A:Int->Lay->Bool)(d:Puz)(E:ECt)(Y:List Lay->σ->Qb σ):Nat->List Lay->σ->Qb σ
 | 0,l,s=>Y l s
 | k+1,l,s=>Q4 (Xl A d E (onA A d E Y k) l) (List.range d.ps.n) s
theorem Wl{f:σ->Nat->Qb σ}{n k:Nat}(h:k<n)(s:σ):Q4 f ((List.range n).drop k) s=match f s k with
  | .go s'=>Q4 f ((List.range n).drop (k+1)) s'
  | .stop s' => .stop s':=by
 have:(List.range n).drop k=k::(List.range n).drop (k+1):=by
  rw[List.drop_eq_getElem_cons (by simpa using h)]
  simp
 rw[this,Q4]
theorem W8{f:σ->Nat->Qb σ}{n k:Nat}(h:n<=k)(s:σ):Q4 f ((List.range n).drop k) s = .go s:=by
 rw[List.drop_eq_nil_of_le (by simpa using h),Q4]
theorem QMw(p:Int):tnV d p=1∨tnV d p=4:=by
 unfold tnV;cases d.turn&&decide (0<p)
 .exact .inl rfl
 .exact .inr rfl
def Xu(s:SoS):Qb SoS->UC
 | .go s'=>VD d E ac body (QD l) l s.1 s.2.1 s.2.2 s'.1 s'.2.1 s'.2.2
 | .stop s'=>Xe d E ac body (QD l) l s.1 s.2.1 s.2.2 s'.1 s'.2.1 s'.2.2
open Classical in
def Zj:List Prop->Bool:=if t<turnN d p then QO else λ_=>false
def vO(P:Program)(d:Puz)(E:ECt)(ac body:Code)(rec:List Lay->SoS->Qb SoS)(l:List Lay)(p:Nat)(k:Nat×SoS):Env:=
 mkE P (QBT (Zj d p k.1) (Zj d p k.1) d E l ⟨p,k.1⟩ (Q3 d E l ⟨p,k.1⟩) (Xu d E ac body (l++[⟨p,k.1⟩]) k.2 (rec (l++[⟨p,k.1⟩]) k.2)))
def ZJ(rec:List Lay->SoS->Qb SoS)(l:List Lay)(p:Nat)(k:Nat×SoS)(e:Ex)(J:JSt):Prop:=match Q4 (KF d E rec l p) ((List.range (turnN d p)).drop k.1) k.2 with
 | .go s'=>e = .exit 2/\J=Hk d E ac body (QD l) l s'.1 s'.2.1 s'.2.2 p
 | .stop s'=>e = .ret/\J=soF d E ac body (QD l) l s'.1 s'.2.1 s'.2.2
theorem Ww(x:Lay):QB 2 (l++[x]).length (KH l.length (λi=>QA.enc (l.getD i ⟨0,0⟩)) (Kt [[.int false .i64 x.piece,.int false .i64 x.turn]] 0)) λi=>QA.enc ((l++[x]).getD i ⟨0,0⟩):=by
 intro i hi;rw[List.length_append,List.length_singleton]at hi;show eqF 2 0 _ (QA.enc ((l++[x]).getD i ⟨0,0⟩))
 by_cases h:i<l.length
 .have e:(l++[x]).getD i ⟨0,0⟩=l.getD i ⟨0,0⟩:=by
   rw[List.getD_eq_getElem?_getD,List.getD_eq_getElem?_getD,List.getElem?_append_left h]
  rw[e];refine⟨?_,?_,trivial⟩<;>(rw[Xw,if_pos h])
 .obtain rfl:i=l.length:=by omega
  have e:(l++[x]).getD l.length ⟨0,0⟩=x:=by
   rw[List.getD_eq_getElem?_getD,List.getElem?_append_right (qlr _)];simp
  rw[e];refine⟨?_,?_,trivial⟩<;>(rw[Xw,if_neg h,Nat.sub_self];rfl)
theorem Wt(x:Lay):QB 2 l.length (λi=>QA.enc ((l++[x]).getD i ⟨0,0⟩)) λi=>QA.enc (l.getD i (⟨0,0⟩:Lay)):=by
 intro i hi
 have e:(l++[x]).getD i ⟨0,0⟩=l.getD i ⟨0,0⟩:=by
  rw[List.getD_eq_getElem?_getD,List.getD_eq_getElem?_getD,List.getElem?_append_left hi]
 show eqF 2 0 (QA.enc ((l++[x]).getD i ⟨0,0⟩)) _;rw[e];exact⟨rfl,rfl,trivial⟩
theorem QKG(t:Int)(i:Nat):KM (l++[⟨p,t⟩]) i=(KM l i||decide (i=p)):=by
 unfold KM;rw[List.any_append];congr 1;simp only[List.any_cons,List.any_nil,Bool.or_false];rw[Bool.eq_iff_iff];simp only[beq_iff_eq,qdE];omega
theorem Wa(n p:Nat)(t:Int):QB 1 n (λi=>bif decide (i=p)then KL [.bool true true] 0 (QD l ((p:Int).toNat+0))else QD l i) (QD (l++[⟨p,t⟩])):=by
 intro i _;refine⟨?_,trivial⟩;show(bif decide (i=p)then KL [.bool true true] 0 (QD l ((p:Int).toNat+0))else QD l i) 0=QD (l++[⟨p,t⟩]) i 0
 unfold QD;rw[QKG];cases h:decide (i=p)with
 | true=>rw[Bool.or_true];rfl
 | false=>rw[Bool.or_false];rfl
theorem qO(n p:Nat)(t:Int)(hu:KM l p=false):QB 1 n (λi=>bif decide (i=p)then KL [.bool true false] 0 (QD (l++[⟨p,t⟩]) ((p:Int).toNat+0))else QD (l++[⟨p,t⟩]) i) (QD l):=by
 intro i _;refine⟨?_,trivial⟩;show(bif decide (i=p)then KL [.bool true false] 0 (QD (l++[⟨p,t⟩]) ((p:Int).toNat+0))else QD (l++[⟨p,t⟩]) i) 0=QD l i 0
 cases h:decide (i=p)with
 | true=>
  obtain rfl:i=p:=qdt h;unfold QD;rw[hu];rfl
 | false=>
  show QD (l++[⟨p,t⟩]) i 0=_;unfold QD;rw[QKG,h,Bool.or_false]
