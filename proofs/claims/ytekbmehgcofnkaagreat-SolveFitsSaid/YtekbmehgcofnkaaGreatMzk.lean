/- - -/
import Derived.Test.YtekbmehgcofnkaaGreatMzj
open Go.Proofs.Tryz
open Go.IntKind (i64)
set_option maxRecDepth 100000
namespace Go.Proofs.YtekbmehgcofnkaaGreat
open Go.SX Go.SX.Told
abbrev LJ:={f:List Jn // f.length<=1000000000}
variable (d:Puz)(E:ECt)(w0:List Jn)(ac body:Code)(u':Nat->Nat->Int)(l2 l:List Lay)(u:Nat->Nat->Int)(p:Nat)(u2:Nat->Nat->Int)(f f':List Jn)(t:Nat)(tn:Int)
def faT:List AV:=[.agg (KR d),.ptr 112 0 0,.nils,.int true .i64 0,.ptr 200 0 0,.int true .i64 0,.ptr 296 0 0,.ptr 328 0 0,.tup [],.tup [],.tup [.ptr 200 0 0,.int true .i64 0],.agg (KR d),.tup [.ptr 200 0 0,.int true .i64 0],.ptr 200 0 0,.int true .i64 0,.int true .i64 0,.bool true false,.tup [],.ptr 200 0 0,.slz 288 0 w0.length (.of 0),.ptr 200 0 0,.mth (.func 91) [.ptr 200 0 0],.ptr 200 0 0,.fn (.func 102) [.ptr 352 0 0,.ptr 360 0 0],.tup [],.tup [],.tup [],.tup [],.tup [],.tup [],.tup [],.tup [],.tup [],.tup [],.tup [],.tup []]
def QGH:List AV:=[.ptr 352 0 0,.ptr 400 0 0,.ptr 464 0 0,.ptr 360 0 0,.ptr 480 0 0]
def faR:List (Nat×Blk):=
 [(480,.cellsR 0 31 [.fn (.func 103) QGH]),(400,.cellsR 0 105 [.yld 393]),(360,.cellsR 0 96 [.nils]),(352,.cellsR 0 90 [.ptr 200 0 0]),(328,.cellsR 0 141 [.mth (.func 91) [.ptr 200 0 0]])]++Ql.blk 0 d.ps
def faW(ls:LoopState)(pe:Option Code)(d:Puz)(E:ECt)(w0:List Jn)(ac body:Code)(u:Nat->Nat->Int)(l:List Lay)(a w c:Nat)(f:List Jn):List (Nat×Blk):=
 [(200,.cells 0 152 (KR d++[.map 201,.slz a 0 l.length (.of 0)])),(201,.mp E.1 E.2),rwY a l,(464,.cells 0 114 [.slz w 0 d.ps.n (.of 0)]),rwU w d u,(393,.lp ls pe (faT d w0) #[24] ac body),(296,.cells 0 64 [.slz c 0 f.length (.of 0)]),rwJ true c f]
def faS:List (Nat×AV):=[(0,.ptr 352 0 0),(1,.ptr 400 0 0),(2,.ptr 464 0 0),(3,.ptr 360 0 0),(4,.ptr 480 0 0)]
def vd(l:List Lay)(f:List Jn):JSt:=⟨5,faS,faW .ready none d E w0 ac body u l 496 504 512 f++faR d,520⟩
def faU(l:List Lay)(f:List Jn)(f':List Jn):UC:=
 ⟨488,vd d E w0 ac body u l f,λ_=>.bool false true,λm=>faW .ready none d E w0 ac body u l m (m+1) (m+2) f'⟩
def faV(l:List Lay)(f:List Jn)(f':List Jn):UC:=
 ⟨488,vd d E w0 ac body u l f,λ_=>.bool false false,λm=>faW .done (some (.exit 0)) d E w0 ac body u l m (m+1) (m+2) f'⟩
def ZY:List Nat:=[200,201,464,393,296]
def QE4(n:Nat)(p:Nat):List (Nat×AV):=faS++[(33,.int false .i64 n),(34,.int false .i64 p)]
def Qez(n:Nat)(p:Nat)(tn:Int)(t:Nat):List (Nat×AV):=QE4 n p++[(6,.int false .i64 p),(43,.int false .i64 tn),(44,.int false .i64 t)]
def Gh(l:List Lay)(f:List Jn)(p:Nat):JSt:=⟨101,QE4 d.ps.n p,faW .ready none d E w0 ac body u l 528 536 544 f++faR d,552⟩
def Gk(l:List Lay)(f:List Jn)(p:Nat)(tn:Int)(t:Nat):JSt:=⟨101,Qez d.ps.n p tn t,faW .ready none d E w0 ac body u l 528 536 544 f++faR d,552⟩
def zB(l:List Lay)(f:List Jn):JSt:=⟨101,[],faW .ready none d E w0 ac body u l 528 536 544 f,552⟩
def Hx(l:List Lay)(f:List Jn)(p:Nat):JSt:=⟨101,QE4 d.ps.n p,faW .ready none d E w0 ac body u l 528 536 544 f++faR d,552⟩
def faF(l:List Lay)(f:List Jn):JSt:=⟨101,[(5,.bool false false)],faW .done (some (.exit 0)) d E w0 ac body u l 528 536 544 f,552⟩
def QRw:Ex->List Nat
 | .normal=>[0,1,2,3,4,33,34]
 | .exit _=>[]
 | .ret=>[5]
def QGJ:Ex->List Nat
 | .normal=>[0,1,2,3,4,33,34,6,43,44]
 | .exit _=>[0,1,2,3,4,33,34]
 | .ret=>[5]
def QAU(pb1 pb2:List Prop->Bool)(d:Puz)(E:ECt)(w0:List Jn)(l:List Lay)(x:Lay)(v:Bool)(U:UC):Tab:=Qc (Qc QT 105 (KB pb1 (myU d E l x v))) 103 (KB pb2 U)
noncomputable abbrev wbE:List AV:=[.ptr 352 0 0,.ptr 400 0 0,.ptr 464 0 0,.ptr 360 0 0,.ptr 480 0 0]
noncomputable abbrev GG:List AV:=
  (.nilp::.ptr 101 0 0::List.append (wbE) ((List.append (wcp d p) ([.int false .i64 tn,vi (i64.wrap ((t:Int)+1))]))))
noncomputable abbrev jp:Nat×Blk:=
  (352,.cellsR 0 90 [.ptr 200 0 0])
noncomputable abbrev QDQ:Nat×Blk:=
  (480,.cellsR 0 31 [.fn (Fn.func 103) (wbE)])
noncomputable abbrev jz:Nat×Blk:=
  (0,.frz (List.append (waa) ((List.append (waG) ((List.append (wbk) ([.int .i64])))))) d.ps.n λi=>QA.enc (d.ps.get i))
noncomputable abbrev jC:Nat×Blk:=
  (328,.cellsR 0 141 [.mth (Fn.func 91) [.ptr 200 0 0]])
noncomputable abbrev wbd:List (Nat×Blk):=[(400,.cellsR 0 105 [.yld
  393]),(360,.cellsR 0 96 [.nils])]
noncomputable abbrev qG(d:Puz)(f:List Jn)(l:List Lay)(u:Nat->Nat->Int)(w0:List Jn):List (Nat×Blk):=
  ((200,.cells 0 152 (List.append (waf d) ([.map 201,.slz 528 0 l.length cO])))::(201,.mp E.1 E.2)::(464,.cells 0 114 [.slz
  536 0 d.ps.n cO])::(393,.lp LoopState.ready none (faT d w0) (Array.mk [24]) ac body)::(296,.cells 0 64 [.slz 544 0 f.length cO])::jp::List.append (wbd) ([QDQ,(jz d),(528,.rowz true 49 kB l.length λi=>QA.enc (l.getD i (Lay.mk (0:Int) (0:Int)))),(536,.rowz true
  4 [CK.bool] d.ps.n u),jC,(544,.rowz true 67 (wbk) f.length λi=>QA.enc (f.getD i (Jn.mk (0:Int) (0:Int) (0:Int) (0 :
  Int))))]))
abbrev QRI(d:Puz)(l:List Lay)(p:Nat)(t:Nat):List Prop:=
  ([0=0,0=0,(p:Int)=(p:Int),(t:Int)=(t:Int)]++wab d++(([cO=cO,0=0,l.length=l.length,cO
  = cO]++wag l++[E.1=E.1,E.2=E.2])++wae d))
abbrev wai(f:List Jn):List Prop:=[f.length<=f.length,QB 4 f.length (λi=>QA.enc (f.getD i (Jn.mk
  (0:Int) (0:Int) (0:Int) (0:Int)))) λi=>QA.enc (f.getD i (Jn.mk (0:Int) (0:Int) (0:Int) (0:Int)))]
abbrev wcU:List Prop:=[cO=cO,0=0,0=0,(0:Int)=0,0=0,0=0,(0:Int)
  = 0,0=0,0=0,0=0,0=0,0=0]
abbrev QO8(d:Puz)(f:List Jn)(l:List Lay)(l2:List Lay)(p:Nat)(t:Nat)(u:Nat->Nat->Int)(u2:Nat->Nat->Int)(w0:List Jn):List Prop:=
  ((wb2++[0=0])++wab d++([cO=cO,0=0,l.length+1=l2.length,cO=cO,E.1=E.1,E.2=E.2]++wbg l l2 p t++(wcN d++[QB 1 d.ps.n (λi=>bif decide (i=p)then KZ [.bool true true] 0 (u ((p:Int).toNat+0))else u i) u2,LoopState.ready=LoopState.ready,(none:Option Code)=none,Array.mk [24]=Array.mk [24],ac=ac,body=body]))++wab d++(wcU++[0=0,(0:Int)=0])++wab d++((([cO=cO]++wcG++([0=0,w0.length=w0.length,cO=cO,0=0,0=0,Fn.func 91=Fn.func 91,0=0,0=0,0=0,0 =
  0]++wcY++[0=0,f.length=f.length,cO=cO]))++wai f++([Fn.func 103=Fn.func 103]++wb2++[0=0,0=0,0=0,Fn.func 91=Fn.func 91,0=0,0=0]))++wae d))
noncomputable abbrev vQ:Nat×Blk:=
  (200,.cells 0 152 (List.append (waf d) ([.map 201,.slz 864 0 (i64.wrap ((l2.length:Int)-1)).toNat cO])))
noncomputable abbrev GI:Nat×Blk:=
  (464,.cells 0 114 [.slz 865 0 d.ps.n cO])
noncomputable abbrev zK:Nat×Blk:=
  (296,.cells 0 64 [.slz 866 0 f'.length cO])
noncomputable abbrev Ga:Nat×Blk:=
  (864,.rowz true 49 kB l2.length λi=>QA.enc (l2.getD i (Lay.mk (0:Int) (0:Int))))
noncomputable abbrev vN:Nat×Blk:=
  (865,.rowz true 4 [CK.bool] d.ps.n λi=>bif decide (i=p)then KZ [.bool true false] 0 (u2 ((p:Int).toNat+0))else u2 i)
noncomputable abbrev vX:Nat×Blk:=
  (866,.rowz true 67 (wbk) f'.length λi=>QA.enc (f'.getD i (Jn.mk (0:Int) (0:Int) (0:Int) (0:Int))))
noncomputable abbrev QRZ:List AV:=
  (.ptr 2 0 0::.ptr 101 0 0::List.append (wbE) ([vi (d.ps.n:Int),vi (p:Int)]))
theorem QTg(pb1 pb2:List Prop->Bool)(d:Puz)(E:ECt)(w0:List Jn)(ac body:Code)(u u2:Nat->Nat->Int)(l l2:List Lay)(v:Bool)(f:List Jn)(p:Nat)(tn:Int)(t:Nat)(f':List Jn)(g0:Nat->Value):exec (mkE prog (QAU pb1 pb2 d E w0 l ⟨p,t⟩ v (faU d E w0 ac body u2 l2 f f'))) (hnd (mkE prog (QAU pb1 pb2 d E w0 l ⟨p,t⟩ v (faU d E w0 ac body u2 l2 f f'))) 0) (QS (QJ f103 0)) (JSt.inst (Gk d E w0 ac body u l f p tn t) g0) (Q9 ZY QGJ) = .br (decide ((t:Int)<tn)) (.need (true) (.br (!Qq (Rw.mk 0 λi=>Pt.mk (0:Int) (Lay.mk (0:Int) (0:Int))) (l.length:Int) (Lay.mk (p:Int) (t:Int))) (.leaf (.tup (GG d p t tn)) ((qG E ac body d f l u w0))) (.need (pb1 ((QRI E d l p t))) (.br (!v) (.leaf (.tup (GG d p t tn)) ((qG E ac body d f l u w0))) (.need (decide ((0:Int)<=(p:Int)/\(p:Int)<(d.ps.n:Int))&&decide (d.ps.n<=d.ps.n)) (.need (decide (p<d.ps.n)) (.need (decide (l.length<=l.length)&&(true&&decide ((l.length+1+(l.length+1) / 4+192)*16<=281474976710656/\l.length+1<=9223372036854775807))) (.need (pb2 ((QO8 E ac body d f l l2 p t u u2 w0))) (.need (decide ((0:Int)<=i64.wrap ((l2.length:Int)-1)/\(i64.wrap ((l2.length:Int)-1)).toNat<=l2.length-0)) (.need (decide ((0:Int)<=(p:Int)/\(p:Int)<(d.ps.n:Int))&&decide (d.ps.n<=d.ps.n)) (.need (decide (p<d.ps.n)) (.br (false) (.leaf (.tup (wcu)) ([(vQ d l2),(201,.mp E.1 E.2),(GI d),(393,.lp LoopState.ready none (faT d w0) (Array.mk [24]) ac body),(zK f'),(jz d),(Ga l2),(vN d p u2),jC,jp,(360,.cellsR 0 96 [.nils]),(vX f')])) (.leaf (.tup (GG d p t tn)) (((vQ d l2)::(201,.mp E.1 E.2)::(GI d)::(393,.lp LoopState.ready none (faT d w0) (Array.mk [24]) ac body)::(zK f')::jp::List.append (wbd) ([QDQ,(jz d),(Ga l2),(vN d p u2),jC,(vX f')])))))))))))))))) (.leaf (.tup (QRZ d p)) ((qG E ac body d f l u w0))):=by kernel_rfl
noncomputable abbrev QOl:List AV:=
  (List.append (wbE) ((List.append (wcp d p) ([vi tn,.int
  false .i64 (i64.wrap ((t:Int)+1))]))))
abbrev wcV(w0:List Jn):List Prop:=[0=0,w0.length=w0.length,cO=cO,0=0,0=0,Fn.func (91:FuncId)=Fn.func (91:FuncId)]
abbrev QUg(d:Puz)(f:List Jn)(l:List Lay)(p:Nat)(t:Nat)(t':Nat)(tn:Int)(u:Nat->Nat->Int)(w0:List Jn):List Prop:=
  (((wb2++[0=0])++waV d p++[tn=tn,i64.wrap ((t :
  Int)+1)=(t':Int)])++wab d++(([cO=cO,0=0]++wcj E l)++wag l++((wcN d++[QB 1 d.ps.n u u])++waj++[Array.mk [24]=Array.mk [(24:Tmp)],ac=ac,body=body]))++wab d++(wcU++[0=0,(0:Int) =
  0])++wab d++((([cO=cO]++wcG++((wcV w0++[0=0,0=0,0=0,0=0])++wcS++[0=0,f.length=f.length,cO=cO]))++wai f++([Fn.func 103=Fn.func (103:FuncId)]++wb2++[0=0,0=0,0=0,Fn.func 91=Fn.func (91:FuncId),0=0,0=0]))++wae d))
theorem QPk(l:List Lay)(f:List Jn)(p:Nat)(tn:Int)(t t':Nat):QG 520 (QOl d p t tn) ((qG E ac body d f l u w0)) (Gk d E w0 ac body u l f p tn t')=(some (QUg E ac body d f l p t t' tn u w0)):=by kernel_rfl
abbrev Jq:List Prop:=
  [0=0,0=0,0=0,0=0]
abbrev Zj:List Prop:=
  (wab d++[cO=cO,0=0])
abbrev QKK(d:Puz)(l:List Lay)(l2:List Lay)(p:Nat)(u2:Nat->Nat->Int)(u3:Nat->Nat->Int):List Prop:=
  ([cO=cO]++wa8 E l l2++(wcN d++[QB 1 d.ps.n (λi=>bif decide (i=p)then KZ [.bool true false] 0 (u2 ((p:Int).toNat
  + 0))else u2 i) u3]))
abbrev QI7:List Prop:=
  [0=0,(0:Int)=0,0=0,0=0,(0:Int)=0]
abbrev QHX:List Prop:=
  ([0=0,0=0,(0:Int)=0,(0:Int)=0,false=false,0=0,0=0]++wcV w0)
abbrev waF(f':List Jn):List Prop:=[f'.length<=f'.length,QB 4 f'.length (λi=>QA.enc (f'.getD i (Jn.mk (0:Int) (0:Int) (0:Int) (0:Int)))) λi
  => QA.enc (f'.getD i (Jn.mk (0:Int) (0:Int) (0:Int) (0:Int)))]
abbrev QJ0:List Prop:=
  ([0=0,f'.length=f'.length,cO=cO]++waF f')
abbrev QJ9:List Prop:=
  ([Fn.func 91=Fn.func (91:FuncId),0=0,0=0]++wae d)
theorem QY5(u u2 u3:Nat->Nat->Int)(l l2:List Lay)(p:Nat)(tn:Int)(t t':Nat)(f':List Jn):QG 520 (QOl d p t tn) (((vQ d l2)::(201,.mp E.1 E.2)::(GI d)::(393,.lp LoopState.ready none (faT d w0) (Array.mk [24]) ac body)::(zK f')::jp::List.append (wbd) ([QDQ,(jz d),(Ga l2),(vN d p u2),jC,(vX f')]))) (Gk d E w0 ac body u3 l f' p tn t')=(some (Jq++Jq++([0=0,0=0]++waV d p++[tn=tn,i64.wrap ((t:Int)+1)=(t':Int)])++(Zj d)++[(i64.wrap ((l2.length:Int)-1)).toNat=l.length]++(QKK E d l l2 p u2 u3)++(waj++[Array.mk [24]=Array.mk [(24:Tmp)],ac=ac,body=body])++(Zj d)++QI7++Jq++[0=0,0=0,(0:Int)=0]++(Zj d)++[0=0,(0:Int)=0]++(QHX w0)++Jq++[Fn.func (102:FuncId)=Fn.func (102:FuncId)]++Jq++(QJ0 f')++[Fn.func 103=Fn.func (103:FuncId)]++Jq++Jq++Jq++(QJ9 d))):=by kernel_rfl
theorem QMa(l:List Lay)(f:List Jn)(p:Nat):QG 520 (List.append (wbE) ([vi (d.ps.n:Int),vi (p:Int)])) ((qG E ac body d f l u w0)) (Hx d E w0 ac body u l f p)=(some (Jq++Jq++([0=0,0=0]++wcQ d p)++(Zj d)++((wcj E l)++wag l++((wcN d++[QB 1 d.ps.n u u])++waj++[Array.mk [24]=Array.mk [(24:Tmp)],ac=ac,body=body]))++(Zj d)++QI7++Jq++[0=0,0=0,(0:Int)=0]++(Zj d)++[0=0,(0:Int)=0]++(QHX w0)++Jq++[Fn.func (102:FuncId)=Fn.func (102:FuncId)]++Jq++([0=0,f.length=f.length,cO=cO]++wai f++[Fn.func 103=Fn.func (103:FuncId)])++Jq++Jq++Jq++(QJ9 d))):=by kernel_rfl
theorem Qb7(pb1 pb2:List Prop->Bool)(d:Puz)(E:ECt)(w0:List Jn)(ac body:Code)(u u2:Nat->Nat->Int)(l l2:List Lay)(v:Bool)(f:List Jn)(p:Nat)(tn:Int)(t:Nat)(f':List Jn)(g0:Nat->Value):exec (mkE prog (QAU pb1 pb2 d E w0 l ⟨p,t⟩ v (faV d E w0 ac body u2 l2 f f'))) (hnd (mkE prog (QAU pb1 pb2 d E w0 l ⟨p,t⟩ v (faV d E w0 ac body u2 l2 f f'))) 0) (QS (QJ f103 0)) (JSt.inst (Gk d E w0 ac body u l f p tn t) g0) (Q9 ZY QGJ) = .br (decide ((t:Int)<tn)) (.need (true) (.br (!Qq (Rw.mk 0 λi=>Pt.mk (0:Int) (Lay.mk (0:Int) (0:Int))) (l.length:Int) (Lay.mk (p:Int) (t:Int))) (.leaf (.tup (GG d p t tn)) ((qG E ac body d f l u w0))) (.need (pb1 ((QRI E d l p t))) (.br (!v) (.leaf (.tup (GG d p t tn)) ((qG E ac body d f l u w0))) (.need (decide ((0:Int)<=(p:Int)/\(p:Int)<(d.ps.n:Int))&&decide (d.ps.n<=d.ps.n)) (.need (decide (p<d.ps.n)) (.need (decide (l.length<=l.length)&&(true&&decide ((l.length+1+(l.length+1) / 4+192)*16<=281474976710656/\l.length+1<=9223372036854775807))) (.need (pb2 ((QO8 E ac body d f l l2 p t u u2 w0))) (.need (decide ((0:Int)<=i64.wrap ((l2.length:Int)-1)/\(i64.wrap ((l2.length:Int)-1)).toNat<=l2.length-0)) (.need (decide ((0:Int)<=(p:Int)/\(p:Int)<(d.ps.n:Int))&&decide (d.ps.n<=d.ps.n)) (.need (decide (p<d.ps.n)) (.br (true) (.leaf (.tup (wcu)) ([(vQ d l2),(201,.mp E.1 E.2),(GI d),(393,.lp LoopState.done (some (Code.exit 0)) (faT d w0) (Array.mk [24]) ac body), (zK f'),(jz d),(Ga l2),(vN d p u2),jC,jp,(360,.cellsR 0 96 [.nils]),(vX f')])) (.leaf (.tup (GG d p t tn)) (((vQ d l2)::(201,.mp E.1 E.2)::(GI d)::(393,.lp LoopState.done (some (Code.exit 0)) (faT d w0) (Array.mk [24]) ac body)::(zK f')::jp::List.append (wbd) ([QDQ,(jz d),(Ga l2),(vN d p u2),jC,(vX f')])))))))))))))))) (.leaf (.tup (QRZ d p)) ((qG E ac body d f l u w0))):=by kernel_rfl
theorem Qbt(u2 u3:Nat->Nat->Int)(l l2:List Lay)(p:Nat)(f':List Jn):QG 520 [.bool true false] ([(vQ d l2),(201,.mp E.1 E.2),(GI d),(393,.lp LoopState.done (some (Code.exit 0)) (faT d w0) (Array.mk [24]) ac body),(zK f'),(jz d), (Ga l2),(vN d p u2),jC,jp,(360,.cellsR 0 96 [.nils]),(vX f')]) (faF d E w0 ac body u3 l f')=(some ([false=false]++(Zj d)++[(i64.wrap ((l2.length:Int)-1)).toNat=l.length]++(QKK E d l l2 p u2 u3)++(wba++[Array.mk [24]=Array.mk [(24:Tmp)],ac=ac,body=body])++(Zj d)++QI7++Jq++[0=0,0=0,(0:Int)=0]++(Zj d)++[0=0,(0:Int)=0]++(QHX w0)++Jq++[Fn.func (102:FuncId)=Fn.func (102:FuncId)]++Jq++(QJ0 f'))):=by kernel_rfl
def WT(pb:List Prop->Bool)(d:Puz)(n:Nat)(a:Int):Tab:=Qc QT 52 (KB pb (tnU d n a))
abbrev QCR(P:Program)(pb:List Prop->Bool)(d:Puz)(E:ECt)(w0:List Jn)(ac body:Code)(u:Nat->Nat->Int)(l:List Lay)(f:List Jn)(p:Nat)(X:List (Prop×Ex×JSt)):Hnd:={ hnd (mkE P (WT pb d l.length p)) 0 with loop:=λ_=>JI (p<d.ps.n/\u p 0=0) (KE 520 ZY (Gk d E w0 ac body u l f p (tnV d p) (0:Nat)) X) }
noncomputable abbrev QRR:List AV:=
  (.nilp::.ptr 101 0 0::List.append (wbE) ([vi (d.ps.n:Int),vi (i64.wrap ((p:Int)+1))]))
noncomputable abbrev Xn:Nat×Blk:=
  (200,.cells 0 152 (List.append (waf d) ([.map 201,.slz 528 0 l.length cO])))
noncomputable abbrev Xr:Nat×Blk:=
  (464,.cells 0 114 [.slz 536 0 d.ps.n cO])
noncomputable abbrev zL(d:Puz)(w0:List Jn):Nat×Blk:=
  (393,.lp LoopState.ready none (faT d w0) (Array.mk [24]) ac body)
noncomputable abbrev QDM:Nat×Blk:=
  (296,.cells 0 64 [.slz 544 0 f.length cO])
noncomputable abbrev Gq:Nat×Blk:=
  (352,.cellsR 0 90 [.ptr 200 0 0])
noncomputable abbrev QCM:Nat×Blk:=
  (480,.cellsR 0 31 [.fn (Fn.func 103) (wbE)])
noncomputable abbrev vn:Nat×Blk:=
  (0,.frz (List.append (waa) ((List.append (waG) ((List.append (wbk) ([.int .i64])))))) d.ps.n λi=>QA.enc (d.ps.get i))
noncomputable abbrev YB:Nat×Blk:=
  (528,.rowz true 49 kB l.length λi=>QA.enc (l.getD i (Lay.mk (0:Int) (0:Int))))
noncomputable abbrev Gp:Nat×Blk:=
  (328,.cellsR 0 141 [.mth (Fn.func 91) [.ptr 200 0 0]])
noncomputable abbrev QDN:Nat×Blk:=
  (544,.rowz true 67 (wbk) f.length λi=>QA.enc (f.getD i (Jn.mk (0:Int) (0:Int) (0:Int) (0:Int))))
noncomputable abbrev qT:Nat×Blk:=
  (296,.cells 0 64 [.slz 544 0 f'.length cO])
noncomputable abbrev We:Nat×Blk:=
  (544,.rowz true 67 (wbk) f'.length λi=>QA.enc (f'.getD i (Jn.mk (0:Int) (0:Int) (0:Int) (0:Int))))
theorem QL2(pb:List Prop->Bool)(d:Puz)(E:ECt)(w0:List Jn)(ac body:Code)(u u':Nat->Nat->Int)(l:List Lay)(f:List Jn)(p:Nat)(A B:Prop)(f':List Jn)(g0:Nat->Value):exec (mkE prog (WT pb d l.length p)) (QCR prog pb d E w0 ac body u l f p [(A,.exit 2,Hx d E w0 ac body u' l f' p),(B,.ret,faF d E w0 ac body u' l f')]) (QJ f103 0) (JSt.inst (Gh d E w0 ac body u l f p) g0) (Q9 ZY QRw) = .br (decide ((p:Int)<(d.ps.n:Int))) (.need (decide ((0:Int)<=(p:Int)/\(p:Int)<(d.ps.n:Int))&&decide (d.ps.n<=d.ps.n)) (.need (decide (p<d.ps.n)) (.br (decide (u ((p:Int).toNat+0) 0=1)) (.leaf (.tup (QRR d p)) (((Xn d l)::(201,.mp E.1 E.2)::(Xr d)::(zL ac body d w0)::(QDM f)::Gq::List.append (wbd) ([QCM,(vn d),(YB l),(536,.rowz true 4 [CK.bool] d.ps.n u),Gp,(QDN f)])))) (.need (pb (([0=0,0=0,(p:Int)=(p:Int)]++wab d++([cO=cO,0=0,l.length=l.length,cO=cO]++wae d)))) (.ak [p<d.ps.n/\u p 0=0] (.ak (rz 10) (.ak ((waV d p++[tnV d (p:Int)=tnV d (p:Int),(0:Int)=0])++wab d++(([cO=cO,0=0]++wcj E l)++wag l++((wcN d++[QB 1 d.ps.n u u])++waj++[Array.mk [(24:Tmp)]=Array.mk [(24:Tmp)],ac=ac,body=body]))++wab d++(wcU++[0=0,(0:Int)=0])++wab d++(([cO=cO]++wcG++((wcV w0++[0=0,0=0,0=0,0=0])++wcS++[0=0,f.length=f.length,cO=cO]))++wai f++[Fn.func (103:FuncId)=Fn.func (103:FuncId)])) (.ak (rz 12) (.ak ([Fn.func (91:FuncId)=Fn.func (91:FuncId),0=0,0=0]++wae d) (.both (.asm (A) (.all (λ(g0:Nat->Value)=>.leaf (.tup (QRR d p)) (((Xn d l)::(201,.mp E.1 E.2)::(Xr d)::(zL ac body d w0)::(qT f')::Gq::List.append (wbd) ([QCM,(vn d),(YB l),(536,.rowz true 4 [CK.bool] d.ps.n u'),Gp,(We f')])))))) (.asm (B) (.all (λ(g1:Nat->Value)=>.leaf (.tup [.nili,.ptr 101 0 0,.bool false false]) ([(Xn d l),(201,.mp E.1 E.2),(Xr d),(393,.lp LoopState.done (some (Code.exit 0)) (faT d w0) (Array.mk [24]) ac body),(qT f'), (YB l),(536,.rowz true 4 [CK.bool] d.ps.n u'),(We f')])))))))))))))) (.leaf (.tup [.ptr 0 0 0,.ptr 101 0 0]) ([(Xn d l),(201,.mp E.1 E.2),(Xr d),(zL ac body d w0),(QDM f),(vn d),(YB l),(536,.rowz true 4 [CK.bool] d.ps.n u),Gp,Gq,(360,.cellsR 0 96 [.nils]), (QDN f)])):=by kernel_rfl
noncomputable abbrev QKO:List AV:=
  (List.append (wbE) ([vi (d.ps.n:Int),vi (i64.wrap ((p:Int)+1))]))
abbrev XF:List Prop:=
  [0=0,0=0,0=0,0=0,0=0]
abbrev YP:List Prop:=
  (wab d++[cO=cO,0=0])
abbrev zq(d:Puz)(l:List Lay):List Prop:=
  ((wcj E l)++wag l++(wcN d))
abbrev QHa:List Prop:=
  (waj++[Array.mk [24]=Array.mk [(24:Tmp)],ac=ac])
abbrev vR:List Prop:=
  [0=0,(0:Int)=0,0=0,0=0]
abbrev vM:List Prop:=
  ([(0:Int)=0,0=0,0=0,0=0,0=0,0=0,0=0,(0:Int)=0]++wab d++([cO=cO]++wcG++(wcV w0++[0 =
  0,0=0,0=0,0=0,Fn.func (102:FuncId)=Fn.func (102:FuncId)])))
abbrev QLM:List Prop:=
  ([f.length=f.length,cO=cO]++wai f)
abbrev QOx:List Prop:=
  ([0=0,Fn.func 91=Fn.func (91:FuncId),0=0,0=0]++wae d)
theorem QSj(l:List Lay)(f:List Jn)(p p':Nat):QG 520 (QKO d p) (((Xn d l)::(201,.mp E.1 E.2)::(Xr d)::(zL ac body d w0)::(QDM f)::Gq::List.append (wbd) ([QCM,(vn d),(YB l),(536,.rowz true 4 [CK.bool] d.ps.n u),Gp,(QDN f)]))) (Gh d E w0 ac body u l f p')=(some (XF++XF++[(d.ps.n:Int)=(d.ps.n:Int),i64.wrap ((p:Int)+1)=(p':Int)]++(YP d)++(zq E d l)++[QB 1 d.ps.n u u]++(QHa ac)++[body=body]++(YP d)++vR++(vM d w0)++XF++(QLM f) ++ [Fn.func 103=Fn.func (103:FuncId)]++XF++XF++[0=0]++(QOx d))):=by kernel_rfl
abbrev QEU:List Prop:=
  ([f'.length=f'.length,cO=cO]++waF f')
theorem QSy(p p':Nat)(f':List Jn):QG 520 (QKO d p) (((Xn d l)::(201,.mp E.1 E.2)::(Xr d)::(zL ac body d w0)::(qT f')::Gq::List.append (wbd) ([QCM,(vn d),(YB l),(536,.rowz true 4 [CK.bool] d.ps.n u'),Gp,(We f')]))) (Gh d E w0 ac body u' l f' p')=(some (XF++XF++[(d.ps.n:Int)=(d.ps.n:Int),i64.wrap ((p:Int)+1)=(p':Int)]++(YP d)++(zq E d l)++[QB 1 d.ps.n u' u']++(QHa ac)++[body=body]++(YP d)++vR++(vM d w0)++XF++(QEU f') ++ [Fn.func 103=Fn.func (103:FuncId)]++XF++XF++[0=0]++(QOx d))):=by kernel_rfl
theorem Qbw :QG 520 [.bool false false] ([(Xn d l),(201,.mp E.1 E.2),(Xr d),(393,.lp LoopState.done (some (Code.exit 0)) (faT d w0) (Array.mk [24]) ac body),(qT f'),(YB l), (536,.rowz true 4 [CK.bool] d.ps.n u'),(We f')]) (faF d E w0 ac body u' l f')=(some ([false=false]++(YP d)++(zq E d l)++([QB 1 d.ps.n u' u']++wba++[Array.mk [24]=Array.mk [(24:Tmp)],ac=ac,body=body])++(YP d)++vR++(vM d w0)++XF++(QEU f'))):=by kernel_rfl
theorem QQ0(l:List Lay)(f:List Jn):QG 520 [] ([(Xn d l),(201,.mp E.1 E.2),(Xr d),(zL ac body d w0),(QDM f),(vn d),(YB l),(536,.rowz true 4 [CK.bool] d.ps.n u),Gp,Gq,(360,.cellsR 0 96 [.nils]),(QDN f)]) (zB d E w0 ac body u l f)=(some ((YP d)++(zq E d l)++[QB 1 d.ps.n u u]++(QHa ac)++[body=body]++(YP d)++vR++(vM d w0) ++ XF++(QLM f))):=by kernel_rfl
abbrev faX(P:Program)(J:JSt)(X:List (Prop×Ex×JSt)):Hnd:={ hnd (mkE P QT) 0 with loop:=λ_=>KE 520 ZY J X }
theorem QKk(u u':Nat->Nat->Int)(l:List Lay)(f:List Jn)(A B:Prop)(f':List Jn):(VR (mkE prog QT) (faX prog (Gh d E w0 (QN f43 0).1 (QN f43 0).2 u l f 0) [(A,.exit 0,zB d E w0 (QN f43 0).1 (QN f43 0).2
  u' l f'),(B,.ret,faF d E w0 (QN f43 0).1 (QN f43 0).2 u' l f')]) f103 QGH (vd d E w0 (QN f43 0).1 (QN f43 0).2 u l f).hp 520 λv h
  _ => ZE ZY v h) = .br ((l.length : Int) == (d.ps.n : Int)) (.fail ("yield")) (.ask (0 = 0) (.ask (0 = 0) (.ask (0 = 0) (.ask (0 = 0) (.ask (0 = 0) (.ask (0 = 0) (.ask (0 = 0)
  (.ask (0=0) (.ask (0=0) (.ask (0=0) (.ask ((d.ps.n:Int)=(d.ps.n:Int)) (.ask ((0:Int)=0) (.ask (d.pK.length=d.pK.length) (.ask (d.pK.aK=d.pK.aK)
  (.ask (d.pK.oK=d.pK.oK) (.ask (d.pK.dK.lo=d.pK.dK.lo) (.ask (d.pK.dK.hi=d.pK.dK.hi) (.ask (d.wide=d.wide) (.ask (d.high=d.high) (.ask (d.turn =
  d.turn) (.ask (0=0) (.ask (d.ps.n=d.ps.n) (.ask (Cap.of 0=Cap.of 0) (.ask (0=0) (.ask (l.length=l.length) (.ask (Cap.of 0=Cap.of 0) (.ask (E.1=E.1) (.ask (E.2=E.2)
  (.ak [l.length<=l.length,QB 2 l.length (λi=>QA.enc (l.getD i (Lay.mk (0:Int) (0:Int)))) λi=>QA.enc (l.getD i (Lay.mk (0:Int) (0:Int))),0
  = 0,d.ps.n=d.ps.n,Cap.of 0=Cap.of 0,d.ps.n<=d.ps.n,QB 1 d.ps.n u u,LoopState.ready=LoopState.ready,(none:Option Code) =
  none,Array.mk [(24:Tmp)]=Array.mk [(24:Tmp)],(QN f43 0).1=(QN f43 0).1,(QN f43 0).2=(QN f43 0).2] (.ask
  (d.pK.length=d.pK.length) (.ask (d.pK.aK=d.pK.aK) (.ask (d.pK.oK=d.pK.oK) (.ask (d.pK.dK.lo=d.pK.dK.lo) (.ask (d.pK.dK.hi =
  d.pK.dK.hi) (.ask (d.wide=d.wide) (.ask (d.high=d.high) (.ask (d.turn=d.turn) (.ask (0=0) (.ask (d.ps.n=d.ps.n) (.ask (Cap.of 0=Cap.of 0) (.ask (0=0) (.ask (0=0)
  (.ask ((0:Int)=0) (.ask (0=0) (.ask (0=0) (.ask ((0:Int)=0) (.ask (0=0) (.ask (0=0) (.ask (0=0) (.ask (0=0) (.ask (0=0) (.ask (0=0) (.ask ((0:Int)=0)
  (.ask (d.pK.length=d.pK.length) (.ask (d.pK.aK=d.pK.aK) (.ask (d.pK.oK=d.pK.oK) (.ask (d.pK.dK.lo=d.pK.dK.lo) (.ask (d.pK.dK.hi =
  d.pK.dK.hi) (.ask (d.wide=d.wide) (.ask (d.high=d.high) (.ask (d.turn=d.turn) (.ask (0=0) (.ask (d.ps.n=d.ps.n) (.ask (Cap.of 0=Cap.of 0) (.ask (0=0) (.ask (0=0)
  (.ask ((0:Int)=0) (.ask (0=0) (.ask (0=0) (.ask ((0:Int)=0) (.ask ((0:Int)=0) (.ask (false=false) (.ask (0=0) (.ask (0=0) (.ask (0=0) (.ask (w0.length =
  w0.length) (.ask (Cap.of 0=Cap.of 0) (.ask (0=0) (.ask (0=0) (.ask (Fn.func (91:FuncId)=Fn.func (91:FuncId)) (.ask (0=0) (.ask (0=0) (.ask (0=0) (.ask (0=0)
  (.ask (Fn.func (102:FuncId)=Fn.func (102:FuncId)) (.ask (0=0) (.ask (0=0) (.ask (0=0) (.ask (0=0) (.ask (0=0) (.ask (f.length=f.length) (.ask (Cap.of 0=Cap.of 0)
  (.ask (f.length<=f.length) (.ask (QB 4 f.length (λi=>QA.enc (f.getD i (Jn.mk (0:Int) (0:Int) (0:Int) (0:Int)))) λi=>QA.enc (f.getD i (Jn.mk (0:Int) (0 :
  Int) (0:Int) (0:Int)))) (.ask (Fn.func (103:FuncId)=Fn.func (103:FuncId)) (.ask (0=0) (.ask (0=0) (.ask (0=0) (.ask (0=0) (.ask (0=0) (.ask (0=0) (.ask (0=0)
  (.ak [0=0,0=0,0=0,0=0,0=0,Fn.func (91:FuncId)=Fn.func (91:FuncId),0=0,0=0,d.ps.n<=d.ps.n] (.ask
  (QB 28 d.ps.n (λi=>QA.enc (d.ps.get i)) λi=>QA.enc (d.ps.get i)) (.both (.asm (A) (.all (λ(g0:Nat->Value)=>.leaf (.bool true true) ([(Xn d l),(201,.mp
  E.1 E.2),(Xr d),(393,.lp LoopState.ready none (faT d w0) (Array.mk [24]) (QN f43 0).1 (QN f43 0).2),(qT f'),(YB l),(536,.rowz true 4 [CK.bool] d.ps.n
  u'),(We f')])))) (.asm (B) (.all (λ(g1:Nat->Value)=>.leaf (.bool false false) ([(Xn d l),(201,.mp E.1 E.2),(Xr d),(393,.lp LoopState.done (some (Code.exit 0))
  (faT d w0) (Array.mk [24]) (QN f43 0).1 (QN f43 0).2),(qT f'),(YB l),(536,.rowz true 4 [CK.bool] d.ps.n u'),(We
  f')]))))))))))))))))))))))))))))))))))))))))))))))))))))))))))))))))))))))))))))))))))))))))))))))))))))))))))))):=by kernel_rfl
theorem Qb4(u u':Nat->Nat->Int)(l:List Lay)(f:List Jn)(f':List Jn):QG 520 [(.bool true true)] ([(Xn d l),(201,.mp E.1 E.2),(Xr d),(393,.lp LoopState.ready none (faT d w0) (Array.mk [24]) (QN f43 0).1 (QN f43 0).2), (qT f'),(YB l),(536,.rowz true 4 [CK.bool] d.ps.n u'),(We f')]) (KP (faU d E w0 (QN f43 0).1 (QN f43 0).2 u l f f'))=(some ([true=true]++(YP d)++(zq E d l)++([QB 1 d.ps.n u' u]++waj++[Array.mk [24]=Array.mk [(24:Tmp)],(QN f43 0).1=(QN f43 0).1,(QN f43 0).2=(QN f43 0).2])++(YP d)++vR++(vM d w0)++XF++(QEU f'))):=by kernel_rfl
theorem QWd(u u':Nat->Nat->Int)(l:List Lay)(f:List Jn)(f':List Jn):QG 520 [(.bool false false)] ([(Xn d l),(201,.mp E.1 E.2),(Xr d),(393,.lp LoopState.done (some (Code.exit 0)) (faT d w0) (Array.mk [24]) (QN f43 0).1 (QN f43 0).2),(qT f'),(YB l),(536,.rowz true 4 [CK.bool] d.ps.n u'),(We f')]) (KP (faV d E w0 (QN f43 0).1 (QN f43 0).2 u l f f'))=(some ([false=false]++(YP d)++(zq E d l)++([QB 1 d.ps.n u' u]++wba++[Array.mk [24]=Array.mk [(24:Tmp)],(QN f43 0).1=(QN f43 0).1,(QN f43 0).2=(QN f43 0).2])++(YP d)++vR++(vM d w0)++XF++(QEU f'))):=by kernel_rfl
def YU(s:LJ):QZ LJ->UC
 | .go s'=>faU d E w0 ac body (QD l) l s.1 s'.1
 | .stop s'=>faV d E w0 ac body (QD l) l s.1 s'.1
open Classical in
noncomputable def Zh:List Prop->Bool:=if t<QY d p then QO else λ_=>false
noncomputable def qk(P:Program)(d:Puz)(E:ECt)(w0:List Jn)(ac body:Code)(rec:List Lay->LJ->QZ LJ)(l:List Lay)(p:Nat)(k:Nat×LJ):Env:=
 mkE P (QAU (Zh d p k.1) (Zh d p k.1) d E w0 l ⟨p,k.1⟩ (Q0 d E l ⟨p,k.1⟩) (YU d E w0 ac body (l++[⟨p,k.1⟩]) k.2 (rec (l++[⟨p,k.1⟩]) k.2)))
def Yz(rec:List Lay->LJ->QZ LJ)(l:List Lay)(p:Nat)(k:Nat×LJ)(e:Ex)(J:JSt):Prop:=match Qz (KA d E rec l p) ((List.range (QY d p)).drop k.1) k.2 with
 | .go s'=>e = .exit 2/\J=Hx d E w0 ac body (QD l) l s'.1 p
 | .stop s'=>e = .ret/\J=faF d E w0 ac body (QD l) l s'.1
set_option maxHeartbeats 1000000 in
theorem QTZ(rec:List Lay->LJ->QZ LJ)(l:List Lay)(p:Nat)(hp:p<d.ps.n)(hn:d.ps.n<=1000)(hl:l.length<=1000)(hu:KG l p=false):Jd (λk:Nat×LJ=>Gk d E w0 ac body (QD l) l k.2.1 p (tnV d p) k.1) (λk=>k.1<=QY d p) (λk=>QY d p-k.1) (Yz d E w0 ac body rec l p) 520 QGJ ZY (qk prog d E w0 ac body rec l p) (λk=>hnd (qk prog d E w0 ac body rec l p k) 0) (QS (QJ f103 0)):=by
 refine⟨λk g0 hk=>?_⟩;obtain⟨t,f,hq0⟩:=k;have hk:t<=QY d p:=hk;obtain⟨ht1,ht4⟩:=Zo d p;have hlen:(l++[(⟨p,t⟩:Lay)]).length=l.length+1:=by rw[List.length_append,List.length_singleton]
 have hw1:i64.wrap (((l++[(⟨p,t⟩:Lay)]).length:Int)-1)=l.length:=(w64 (by omega) (by omega)).trans (by omega)
 have hpop:(i64.wrap (((l++[(⟨p,t⟩:Lay)]).length:Int)-1)).toNat=l.length:=by rw[hw1];exact Int.toNat_natCast _
 have hle:l.length<=(l++[(⟨p,t⟩:Lay)]).length:=by omega
 have hpb:t<QY d p->Zh d p t=QO:=λh=>by unfold Zh;rw[if_pos h]
 have wt:t<QY d p->i64.wrap ((t:Int)+1)=((t+1:Nat):Int):=λh=>(w64 (by omega) (by omega)).trans (by omega)
 have step:=λh:t<QY d p=>Wp (f:=KA d E rec l p) h ⟨f,hq0⟩;unfold qk;simp only
 have next:t<QY d p->∀{s2:LJ},KA d E rec l p ⟨f,hq0⟩ t = .go s2->∀ e J,Yz d E w0 ac body rec l p (t+1,s2) e J->Yz d E w0 ac body rec l p (t,⟨f,hq0⟩) e J:=by
  intro h s2 he e J hr;unfold Yz at hr ⊢;simp only at hr ⊢;rw[step h,he];exact hr
 have last:QY d p<=t->Yz d E w0 ac body rec l p (t,⟨f,hq0⟩) (.exit 2) (Hx d E w0 ac body (QD l) l f p):=by
  intro h;unfold Yz;simp only[Wz h,and_self]
 cases hr:rec (l++[⟨p,t⟩]) ⟨f,hq0⟩with
 | go s'=>
  obtain⟨f',hq1⟩:=s';simp only[YU];have et:=QTg (Zh d p t) (Zh d p t) d E w0 ac body (QD l) (QD (l++[⟨p,t⟩])) l (l++[⟨p,t⟩]) (Q0 d E l ⟨p,t⟩) f p (tnV d p) t f' g0;refine Qf et ?_;clear et;refine QF (λb0=>?_) (λb0=>?_);have h:t<QY d p:=by have:=qdt b0;omega
  rw[hpb h];have hw:=wt h;refine QH ?_ ?_;rotate_left;refine QF ?_ ?_<;>intro b1
  .exact Bool.noConfusion (show false=true from b1)
  refine QH ?_ ?_;rotate_left;refine QF (λb2=>?_) (λb2=>?_);have hv:Q0 d E l ⟨p,t⟩=false:=by simpa using b2
  have ho:KA d E rec l p ⟨f,hq0⟩ t = .go ⟨f,hq0⟩:=by unfold KA;rw[hv];rfl
  refine⟨(t+1,⟨f,hq0⟩),h,by show QY d p-(t+1)<QY d p-t;omega,next h ho,rfl,rfl,_,QPk d E w0 ac body (QD l) l f p (tnV d p) t (t+1),?_⟩
  rotate_left
  iterate 7 (refine QH ?_ ?_;rotate_left)
  refine QF ?_ ?_<;>intro b3
  .cases b3
  have hv:Q0 d E l ⟨p,t⟩=true:=by simpa using b2
  have ho:KA d E rec l p ⟨f,hq0⟩ t = .go ⟨f',hq1⟩:=by unfold KA;rw[hv];exact hr
  have hb:=Wt l d.ps.n p t hu;have hq:=qU l ⟨p,t⟩;have hnx:=next h ho
  clear next last step hr ho
  generalize QD (l++[⟨p,t⟩])=u2 at hb ⊢;generalize l++[⟨p,t⟩]=l2 at hpop hle hq ⊢;generalize hu1:QD l=u1 at hb ⊢;refine⟨(t+1,⟨f',hq1⟩),h,by show QY d p-(t+1)<QY d p-t;omega,hnx,rfl,rfl,_,QY5 d E w0 ac body u1 u2 u1 l l2 p (tnV d p) t (t+1) f',?_⟩
  rotate_left
  have h:QY d p<=t:=by have:=qdf b0;omega
  refine⟨_,last h,rfl,rfl,_,QMa d E w0 ac body (QD l) l f p,?_⟩
  rotate_left
  all_goals first|((with_reducible show _=true);(first|rfl|(refine Q6.2 ?_;repeat' first|with_reducible refine QP ?_ ?_|exact tv|with_reducible exact qRr|with_reducible exact hlen|with_reducible exact hlen.symm|with_reducible exact Nat.le_of_eq hlen|with_reducible exact WC l ⟨p,t⟩|with_reducible exact Wr l _ p t|exact rfl|refine aI ?_ ?_)|(rw[hw1];simp)|(simp;omega)))|(repeat' first|with_reducible refine QP ?_ ?_|exact tv|with_reducible exact qRr|with_reducible exact hw|with_reducible exact hpop|with_reducible exact hle|with_reducible exact hq|with_reducible exact hb|exact rfl|refine aI ?_ ?_)
 | stop s'=>
  obtain⟨f',hq1⟩:=s';simp only[YU];have et:=Qb7 (Zh d p t) (Zh d p t) d E w0 ac body (QD l) (QD (l++[⟨p,t⟩])) l (l++[⟨p,t⟩]) (Q0 d E l ⟨p,t⟩) f p (tnV d p) t f' g0;refine Qf et ?_;clear et;refine QF (λb0=>?_) (λb0=>?_);have h:t<QY d p:=by have:=qdt b0;omega
  rw[hpb h];have hw:=wt h;refine QH ?_ ?_;rotate_left;refine QF ?_ ?_<;>intro b1
  .exact Bool.noConfusion (show false=true from b1)
  refine QH ?_ ?_;rotate_left;refine QF (λb2=>?_) (λb2=>?_);have hv:Q0 d E l ⟨p,t⟩=false:=by simpa using b2
  have ho:KA d E rec l p ⟨f,hq0⟩ t = .go ⟨f,hq0⟩:=by unfold KA;rw[hv];rfl
  refine⟨(t+1,⟨f,hq0⟩),h,by show QY d p-(t+1)<QY d p-t;omega,next h ho,rfl,rfl,_,QPk d E w0 ac body (QD l) l f p (tnV d p) t (t+1),?_⟩
  rotate_left
  iterate 7 (refine QH ?_ ?_;rotate_left)
  refine QF (λb3=>?_) (λb3=>?_);have hv:Q0 d E l ⟨p,t⟩=true:=by simpa using b2
  have ho:KA d E rec l p ⟨f,hq0⟩ t = .stop ⟨f',hq1⟩:=by unfold KA;rw[hv];exact hr
  have hrel:Yz d E w0 ac body rec l p (t,⟨f,hq0⟩) .ret (faF d E w0 ac body (QD l) l f'):=by
   unfold Yz;simp only[step h,ho,and_self]
  have hb:=Wt l d.ps.n p t hu;have hq:=qU l ⟨p,t⟩;clear next last step hr ho
  generalize QD (l++[⟨p,t⟩])=u2 at hb ⊢;generalize l++[⟨p,t⟩]=l2 at hpop hle hq ⊢;generalize hu1:QD l=u1 at hb hrel ⊢;refine⟨_,hrel,rfl,rfl,_,Qbt d E w0 ac body u2 u1 l l2 p f',?_⟩
  rotate_left
  .cases b3
  have h:QY d p<=t:=by have:=qdf b0;omega
  refine⟨_,last h,rfl,rfl,_,QMa d E w0 ac body (QD l) l f p,?_⟩
  rotate_left
  all_goals first|((with_reducible show _=true);(first|rfl|(refine Q6.2 ?_;repeat' first|with_reducible refine QP ?_ ?_|exact tv|with_reducible exact qRr|with_reducible exact hlen|with_reducible exact hlen.symm|with_reducible exact Nat.le_of_eq hlen|with_reducible exact WC l ⟨p,t⟩|with_reducible exact Wr l _ p t|exact rfl|refine aI ?_ ?_)|(rw[hw1];simp)|(simp;omega)))|(repeat' first|with_reducible refine QP ?_ ?_|exact tv|with_reducible exact qRr|with_reducible exact hw|with_reducible exact hpop|with_reducible exact hle|with_reducible exact hq|with_reducible exact hb|exact rfl|refine aI ?_ ?_)
def QEB(rec:List Lay->LJ->QZ LJ)(l:List Lay)(p:Nat):Prop:=∀ t,t<QY d p->∀ s,QR prog 103 (uFC (YU d E w0 ac body (l++[⟨p,t⟩]) s (rec (l++[⟨p,t⟩]) s)))
theorem QYq{d:Puz}{E:ECt}{w0:List Jn}{ac body:Code}{rec:List Lay->LJ->QZ LJ}{l:List Lay}{p:Nat}(hd:KI d)(hE:WfE E)(hl:l.length<=1000)(hL:∀ y∈l,KC d y)(hp:p<d.ps.n)(IH:QEB d E w0 ac body rec l p)(k:Nat×LJ):(qk prog d E w0 ac body rec l p k).Sound:=by
 unfold qk Zh
 by_cases h:k.1<QY d p
 .rw[if_pos h];have h4:=(Zo d p).2;exact QQ ((Qd.add (QCK d E l ⟨p,k.1⟩ hd hE hl hL ⟨⟨by show(0:Int)<=p;omega,by show(p:Int)<_;omega⟩,by show(0:Int)<=k.1;omega,by show(k.1:Int)<=3;omega⟩)).add (IH k.1 h k.2))
 .rw[if_neg h];exact QQ ((Qd.add (JY (by kernel_rfl) _)).add (JY (by kernel_rfl) _))
def HM(rec:List Lay->LJ->QZ LJ)(l:List Lay)(p:Nat)(s:LJ):List (Prop×Ex×JSt):=
 [((inZ d E rec l p s).isGo=true,.exit 2,Hx d E w0 ac body (QD l) l (inZ d E rec l p s).s.1 p),((inZ d E rec l p s).isGo=false,.ret,faF d E w0 ac body (QD l) l (inZ d E rec l p s).s.1)]
theorem QUr{d:Puz}{E:ECt}{w0:List Jn}{ac body:Code}{rec:List Lay->LJ->QZ LJ}{l:List Lay}(hd:KI d)(hE:WfE E)(hl:l.length<=1000)(hL:∀ y∈l,KC d y)(p:Nat)(s:LJ)(IH:p<d.ps.n->QEB d E w0 ac body rec l p)(G:Ctx)(hrd:G.rd=none)(hG:G.n<=520):
  Qu (mkE prog (WT QO d l.length p)) G (QCR prog QO d E w0 ac body (QD l) l s.1 p (HM d E w0 ac body rec l p s)) (QJ f103 0):=by
 have hT:Qe (WT QO d l.length p):=Qd.add (YL d l.length p);refine KM (body:=QS (QJ f103 0)) (QQ hT) hrd (by kernel_rfl) ?_
 refine Jm λhp=>?_;have hu:=QEd hp.2;have hEnv:=QYq (ac:=ac) (body:=body) hd hE hl hL hp.1 (IH hp.1);refine Jt (E0:=mkE prog (WT QO d l.length p)) (E:=qk prog d E w0 ac body rec l p) (H:=λk=>hnd (qk prog d E w0 ac body rec l p k) 0) (n0:=520) (s0:=(0,s)) (λ_=>rfl) hEnv hG (λk _=>Q1 (hEnv k) 0 G _ hrd) (λk _=>(by decide:520<=552)) ?_ (QTZ d E w0 ac body rec l p hp.1 hd.n hl hu) (Nat.zero_le _) ?_
 .intro k e J hr;unfold Yz at hr;split at hr<;>(rw[hr.2];exact(by decide:520<=552))
 .intro e J hr;unfold Yz at hr;simp only[List.drop_zero]at hr;have hi:inZ d E rec l p s=Qz (KA d E rec l p) (List.range (QY d p)) s:=rfl;unfold HM;rw[hi];cases hc:Qz (KA d E rec l p) (List.range (QY d p)) s with
  | go s'=>
   rw[hc]at hr;exact⟨_,qmc,rfl,hr.1.symm,hr.2.symm⟩
  | stop s'=>
   rw[hc]at hr;exact⟨_,List.mem_cons_of_mem _ qmc,rfl,hr.1.symm,hr.2.symm⟩
def Xk(rec:List Lay->LJ->QZ LJ)(l:List Lay)(k:Nat×LJ)(e:Ex)(J:JSt):Prop:=match Qz (Km d E rec l) ((List.range d.ps.n).drop k.1) k.2 with
 | .go s'=>e = .exit 0/\J=zB d E w0 ac body (QD l) l s'.1
 | .stop s'=>e = .ret/\J=faF d E w0 ac body (QD l) l s'.1
set_option maxHeartbeats 1000000 in
theorem QaU(rec:List Lay->LJ->QZ LJ)(l:List Lay)(hn:d.ps.n<=1000):Jd (λk:Nat×LJ=>Gh d E w0 ac body (QD l) l k.2.1 k.1) (λk=>k.1<=d.ps.n) (λk=>d.ps.n-k.1) (Xk d E w0 ac body rec l) 520 QRw ZY (λk=>mkE prog (WT QO d l.length k.1)) (λk=>QCR prog QO d E w0 ac body (QD l) l k.2.1 k.1 (HM d E w0 ac body rec l k.1 k.2)) (QJ f103 0):=by
 refine⟨λk g0 hk=>?_⟩;obtain⟨p,f,hq0⟩:=k;have hk:p<=d.ps.n:=hk;have wp:p<d.ps.n->i64.wrap ((p:Int)+1)=((p+1:Nat):Int):=λh=>Ju h hn;have step:=λh:p<d.ps.n=>Wp (f:=Km d E rec l) h ⟨f,hq0⟩
 have next:p<d.ps.n->∀{s2:LJ},Km d E rec l ⟨f,hq0⟩ p = .go s2->∀ e J,Xk d E w0 ac body rec l (p+1,s2) e J->Xk d E w0 ac body rec l (p,⟨f,hq0⟩) e J:=by
  intro h s2 he e J hr;unfold Xk at hr ⊢;simp only at hr ⊢;rw[step h,he];exact hr
 have stop:p<d.ps.n->∀{s2:LJ},Km d E rec l ⟨f,hq0⟩ p = .stop s2->Xk d E w0 ac body rec l (p,⟨f,hq0⟩) .ret (faF d E w0 ac body (QD l) l s2.1):=by
  intro h s2 he;unfold Xk;simp only[step h,he,and_self]
 have last:d.ps.n<=p->Xk d E w0 ac body rec l (p,⟨f,hq0⟩) (.exit 0) (zB d E w0 ac body (QD l) l f):=by
  intro h;unfold Xk;simp only[Wz h,and_self]
 have hpz:KG l p=false->Km d E rec l ⟨f,hq0⟩ p=inZ d E rec l p ⟨f,hq0⟩:=λh=>by unfold Km;rw[h];rfl
 have hpu:KG l p=true->Km d E rec l ⟨f,hq0⟩ p = .go ⟨f,hq0⟩:=λh=>by unfold Km;rw[h];rfl
 unfold HM;simp only;cases hr:inZ d E rec l p ⟨f,hq0⟩with
 | go s'=>
  obtain⟨f',hq1⟩:=s';simp only[QZ.isGo,QZ.s,Bool.true_eq_false,Bool.false_eq_true];have et:=QL2 QO d E w0 ac body (QD l) (QD l) l f p True False f' g0;refine Qf et ?_;clear et;refine QF (λb0=>?_) (λb0=>?_);have h:p<d.ps.n:=by have:=qdt b0;omega
  have hw:=wp h
  iterate 2 (refine QH ?_ ?_;rotate_left)
  refine QF (λb1=>?_) (λb1=>?_);have hub:KG l p=true:=Vd.symm.trans b1;refine⟨(p+1,⟨f,hq0⟩),h,by show d.ps.n-(p+1)<d.ps.n-p;omega,next h (hpu hub),rfl,rfl,_,QSj d E w0 ac body (QD l) l f p (p+1),?_⟩
  rotate_left
  have hub:KG l p=false:=Vd.symm.trans b1;have hu0:QD l p 0=0:=by unfold QD;rw[hub];rfl
  refine QH ?_ ?_;rotate_left
  iterate 127 refine Qt (by first|exact tv|exact⟨h,hu0⟩|with_reducible exact qRr|exact rfl) ?_
  refine Kl ?_ ?_;refine Qj λa0=>?_;refine Qk λg0=>?_;refine⟨(p+1,⟨f',hq1⟩),h,by show d.ps.n-(p+1)<d.ps.n-p;omega,next h ((hpz hub).trans hr),rfl,rfl,_,QSy d E w0 ac body (QD l) l p (p+1) f',?_⟩
  rotate_left
  refine Qj λa1=>?_;refine Qk λg1=>?_
  .exact a1.elim
  have h:d.ps.n<=p:=by have:=qdf b0;omega
  refine⟨_,last h,rfl,rfl,_,QQ0 d E w0 ac body (QD l) l f,?_⟩
  rotate_left
  all_goals first|((with_reducible show _=true);(first|(refine Q6.2 ?_;repeat' first|exact tv|with_reducible exact qRr|exact rfl|refine aI ?_ ?_)|(simp;omega)))|(repeat' first|with_reducible refine QP ?_ ?_|exact tv|with_reducible exact qRr|with_reducible exact hw|exact rfl|refine aI ?_ ?_)
 | stop s'=>
  obtain⟨f',hq1⟩:=s';simp only[QZ.isGo,QZ.s,Bool.true_eq_false,Bool.false_eq_true];have et:=QL2 QO d E w0 ac body (QD l) (QD l) l f p False True f' g0;refine Qf et ?_;clear et;refine QF (λb0=>?_) (λb0=>?_);have h:p<d.ps.n:=by have:=qdt b0;omega
  have hw:=wp h
  iterate 2 (refine QH ?_ ?_;rotate_left)
  refine QF (λb1=>?_) (λb1=>?_);have hub:KG l p=true:=Vd.symm.trans b1;refine⟨(p+1,⟨f,hq0⟩),h,by show d.ps.n-(p+1)<d.ps.n-p;omega,next h (hpu hub),rfl,rfl,_,QSj d E w0 ac body (QD l) l f p (p+1),?_⟩
  rotate_left
  have hub:KG l p=false:=Vd.symm.trans b1;have hu0:QD l p 0=0:=by unfold QD;rw[hub];rfl
  refine QH ?_ ?_;rotate_left
  iterate 127 refine Qt (by first|exact tv|exact⟨h,hu0⟩|with_reducible exact qRr|exact rfl) ?_
  refine Kl ?_ ?_;refine Qj λa0=>?_;refine Qk λg0=>?_
  .exact a0.elim
  refine Qj λa1=>?_;refine Qk λg1=>?_;refine⟨_,stop h ((hpz hub).trans hr),rfl,rfl,_,Qbw d E w0 ac body (QD l) l f',?_⟩
  rotate_left
  have h:d.ps.n<=p:=by have:=qdf b0;omega
  refine⟨_,last h,rfl,rfl,_,QQ0 d E w0 ac body (QD l) l f,?_⟩
  rotate_left
  all_goals first|((with_reducible show _=true);(first|(refine Q6.2 ?_;repeat' first|exact tv|with_reducible exact qRr|exact rfl|refine aI ?_ ?_)|(simp;omega)))|(repeat' first|with_reducible refine QP ?_ ?_|exact tv|with_reducible exact qRr|with_reducible exact hw|exact rfl|refine aI ?_ ?_)
noncomputable abbrev VG:Code:=(QN f43 0).1
noncomputable abbrev VN:Code:=(QN f43 0).2
theorem QKa(l:List Lay)(f:List Jn)(f':List Jn):(faU d E w0 ac body u l f f').Ok:=by
 refine⟨(by decide:488<=520),rfl,rfl,?_,rfl,λ_ _=>rfl,λnid h=>?_⟩
 .intro q hq;simp only[UC.po,faU,faW,rwY,rwU,rwJ,List.mem_cons,List.not_mem_nil,or_false]at hq;rcases hq with rfl|rfl|rfl|rfl|rfl|rfl|rfl|rfl|rfl|rfl|rfl<;>refine⟨rfl,rfl,rfl,?_⟩<;>first|exact λ_=>rfl|exact λh=>absurd (show 520<488 from h) (by decide)|exact λh=>absurd (show 521<488 from h) (by decide)|exact λh=>absurd (show 522<488 from h) (by decide)|exact λh=>absurd (show 523<488 from h) (by decide)
 .have e0:=KW 488 520 0 nid (by decide)
  have e1:=KW 488 520 1 nid (by decide)
  have e2:=KW 488 520 2 nid (by decide)
  simp only[UC.po,faU,faW,rwY,rwU,rwJ,vd,faT,KR,Ql.val,List.cons_append,List.nil_append,List.map_cons,List.map_nil,Blk.mapId,AV.mapId,AV.mapIdL,Nat.add_zero]at e0 e1 e2 ⊢;rw[e0,e1,e2];rfl
theorem QQ6(l:List Lay)(f:List Jn)(f':List Jn):(faV d E w0 ac body u l f f').Ok:=by
 refine⟨(by decide:488<=520),rfl,rfl,?_,rfl,λ_ _=>rfl,λnid h=>?_⟩
 .intro q hq;simp only[UC.po,faV,faW,rwY,rwU,rwJ,List.mem_cons,List.not_mem_nil,or_false]at hq;rcases hq with rfl|rfl|rfl|rfl|rfl|rfl|rfl|rfl|rfl|rfl|rfl<;>refine⟨rfl,rfl,rfl,?_⟩<;>first|exact λ_=>rfl|exact λh=>absurd (show 520<488 from h) (by decide)|exact λh=>absurd (show 521<488 from h) (by decide)|exact λh=>absurd (show 522<488 from h) (by decide)|exact λh=>absurd (show 523<488 from h) (by decide)
 .have e0:=KW 488 520 0 nid (by decide)
  have e1:=KW 488 520 1 nid (by decide)
  have e2:=KW 488 520 2 nid (by decide)
  simp only[UC.po,faV,faW,rwY,rwU,rwJ,vd,faT,KR,Ql.val,List.cons_append,List.nil_append,List.map_cons,List.map_nil,Blk.mapId,AV.mapId,AV.mapIdL,Nat.add_zero]at e0 e1 e2 ⊢;rw[e0,e1,e2];rfl
