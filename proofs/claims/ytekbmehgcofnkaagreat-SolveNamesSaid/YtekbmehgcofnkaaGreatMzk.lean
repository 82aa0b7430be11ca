/- - -/
import Derived.Test.YtekbmehgcofnkaaGreatMzj
open Go.Proofs.Tryz
open Go.IntKind (i64)
set_option maxRecDepth 100000
namespace Go.Proofs.YtekbmehgcofnkaaGreat
open Go.SX Go.SX.Told
abbrev LJ:={f:List Jn // f.length<=1000000000}
variable (d:Puz)(E:ECt)(w0:List Jn)(ac body:Code)(u':Nat->Nat->Int)(l2 l:List Lay)(u:Nat->Nat->Int)(p:Nat)(u2:Nat->Nat->Int)(f f':List Jn)(t:Nat)(tn:Int)
def faT:List AV:=[.agg (KX d),.ptr 112 0 0,.nils,.int true .i64 0,.ptr 200 0 0,.int true .i64 0,.ptr 296 0 0,.ptr 328 0 0,.tup [],.tup [],.tup [.ptr 200 0 0,.int true .i64 0],.agg (KX d),.tup [.ptr 200 0 0,.int true .i64 0],.ptr 200 0 0,.int true .i64 0,.int true .i64 0,.bool true false,.tup [],.ptr 200 0 0,.slz 288 0 w0.length (.of 0),.ptr 200 0 0,.mth (.func 91) [.ptr 200 0 0],.ptr 200 0 0,.fn (.func 102) [.ptr 352 0 0,.ptr 360 0 0],.tup [],.tup [],.tup [],.tup [],.tup [],.tup [],.tup [],.tup [],.tup [],.tup [],.tup [],.tup []]
def QI0:List AV:=[.ptr 352 0 0,.ptr 400 0 0,.ptr 464 0 0,.ptr 360 0 0,.ptr 480 0 0]
def faR:List (Nat×Blk):=
 [(480,.cellsR 0 31 [.fn (.func 103) QI0]),(400,.cellsR 0 105 [.yld 393]),(360,.cellsR 0 96 [.nils]),(352,.cellsR 0 90 [.ptr 200 0 0]),(328,.cellsR 0 141 [.mth (.func 91) [.ptr 200 0 0]])]++Qm.blk 0 d.ps
def faW(ls:LoopState)(pe:Option Code)(d:Puz)(E:ECt)(w0:List Jn)(ac body:Code)(u:Nat->Nat->Int)(l:List Lay)(a w c:Nat)(f:List Jn):List (Nat×Blk):=
 [(200,.cells 0 152 (KX d++[.map 201,.slz a 0 l.length (.of 0)])),(201,.mp E.1 E.2),rwY a l,(464,.cells 0 114 [.slz w 0 d.ps.n (.of 0)]),rwU w d u,(393,.lp ls pe (faT d w0) #[24] ac body),(296,.cells 0 64 [.slz c 0 f.length (.of 0)]),rwJ true c f]
def faS:List (Nat×AV):=[(0,.ptr 352 0 0),(1,.ptr 400 0 0),(2,.ptr 464 0 0),(3,.ptr 360 0 0),(4,.ptr 480 0 0)]
def Gd(l:List Lay)(f:List Jn):JSt:=⟨5,faS,faW .ready none d E w0 ac body u l 496 504 512 f++faR d,520⟩
def faU(l:List Lay)(f:List Jn)(f':List Jn):UC:=
 ⟨488,Gd d E w0 ac body u l f,λ_=>.bool false true,λm=>faW .ready none d E w0 ac body u l m (m+1) (m+2) f'⟩
def faV(l:List Lay)(f:List Jn)(f':List Jn):UC:=
 ⟨488,Gd d E w0 ac body u l f,λ_=>.bool false false,λm=>faW .done (some (.exit 0)) d E w0 ac body u l m (m+1) (m+2) f'⟩
def WR:List Nat:=[200,201,464,393,296]
def QJD(n:Nat)(p:Nat):List (Nat×AV):=faS++[(33,.int false .i64 n),(34,.int false .i64 p)]
def QYP(n:Nat)(p:Nat)(tn:Int)(t:Nat):List (Nat×AV):=QJD n p++[(6,.int false .i64 p),(43,.int false .i64 tn),(44,.int false .i64 t)]
def zm(l:List Lay)(f:List Jn)(p:Nat):JSt:=⟨101,QJD d.ps.n p,faW .ready none d E w0 ac body u l 528 536 544 f++faR d,552⟩
def zO(l:List Lay)(f:List Jn)(p:Nat)(tn:Int)(t:Nat):JSt:=⟨101,QYP d.ps.n p tn t,faW .ready none d E w0 ac body u l 528 536 544 f++faR d,552⟩
def GF(l:List Lay)(f:List Jn):JSt:=⟨101,[],faW .ready none d E w0 ac body u l 528 536 544 f,552⟩
def QB2(l:List Lay)(f:List Jn)(p:Nat):JSt:=⟨101,QJD d.ps.n p,faW .ready none d E w0 ac body u l 528 536 544 f++faR d,552⟩
def faF(l:List Lay)(f:List Jn):JSt:=⟨101,[(5,.bool false false)],faW .done (some (.exit 0)) d E w0 ac body u l 528 536 544 f,552⟩
def QNl:Ex->List Nat
 | .normal=>[0,1,2,3,4,33,34]
 | .exit _=>[]
 | .ret=>[5]
def QI6:Ex->List Nat
 | .normal=>[0,1,2,3,4,33,34,6,43,44]
 | .exit _=>[0,1,2,3,4,33,34]
 | .ret=>[5]
def QBm(pb1 pb2:List Prop->Bool)(d:Puz)(E:ECt)(w0:List Jn)(l:List Lay)(x:Lay)(v:Bool)(U:UC):Tab:=Qa (Qa QT 105 (KG pb1 (myU d E l x v))) 103 (KG pb2 U)
noncomputable abbrev wa3:List AV:=[.ptr 352 0 0,.ptr 400 0 0,.ptr 464 0 0,.ptr 360 0 0,.ptr 480 0 0]
noncomputable abbrev vu:List AV:=
  (.nilp::.ptr 101 0 0::List.append (wa3) ((wbw d p t tn)))
noncomputable abbrev jN:Nat×Blk:=
  (352,.cellsR 0 90 [.ptr 200 0 0])
noncomputable abbrev QFb:Nat×Blk:=
  (480,.cellsR 0 31 [.fn (Fn.func 103) (wa3)])
noncomputable abbrev ju:Nat×Blk:=
  (0,.frz (List.append (waa) ((List.append (waA) ((List.append (waZ) ([.int .i64])))))) d.ps.n λi=>QA.enc (d.ps.get i))
noncomputable abbrev jV:Nat×Blk:=
  (328,.cellsR 0 141 [.mth (Fn.func 91) [.ptr 200 0 0]])
noncomputable abbrev waT:List (Nat×Blk):=[(400,.cellsR 0 105 [.yld
  393]),(360,.cellsR 0 96 [.nils])]
noncomputable abbrev qt(d:Puz)(f:List Jn)(l:List Lay)(u:Nat->Nat->Int)(w0:List Jn):List (Nat×Blk):=
  ((200,.cells 0 152 (List.append (waf d) ([.map 201,.slz 528 0 l.length cO])))::(201,.mp E.1 E.2)::(464,.cells 0 114 [.slz
  536 0 d.ps.n cO])::(393,.lp LoopState.ready none (faT d w0) (Array.mk [24]) ac body)::(296,.cells 0 64 [.slz 544 0 f.length cO])::jN::List.append (waT) ([QFb,(ju d),(528,.rowz true 49 kB l.length λi=>QA.enc (l.getD i (Lay.mk (0:Int) (0:Int)))),(536,.rowz true
  4 [CK.bool] d.ps.n u),jV,(544,.rowz true 67 (waZ) f.length λi=>QA.enc (f.getD i (Jn.mk (0:Int) (0:Int) (0:Int) (0 :
  Int))))]))
abbrev QPX(d:Puz)(l:List Lay)(p:Nat)(t:Nat):List Prop:=
  ([0=0,0=0,(p:Int)=(p:Int),(t:Int)=(t:Int)]++wab d++(([cO=cO,0=0,l.length=l.length,cO
  = cO]++wag l++[E.1=E.1,E.2=E.2])++wae d))
abbrev wah(f:List Jn):List Prop:=[f.length<=f.length,QB 4 f.length (λi=>QA.enc (f.getD i (Jn.mk
  (0:Int) (0:Int) (0:Int) (0:Int)))) λi=>QA.enc (f.getD i (Jn.mk (0:Int) (0:Int) (0:Int) (0:Int)))]
abbrev wbT:List Prop:=[cO=cO,0=0,0=0,(0:Int)=0,0=0,0=0,(0:Int)
  = 0,0=0,0=0,0=0,0=0,0=0]
abbrev QSS(d:Puz)(f:List Jn)(l:List Lay)(l2:List Lay)(p:Nat)(t:Nat)(u:Nat->Nat->Int)(u2:Nat->Nat->Int)(w0:List Jn):List Prop:=
  ((wbo++[0=0])++wab d++([cO=cO,0=0,l.length+1=l2.length,cO=cO,E.1=E.1,E.2=E.2]++waV l l2 p t++(wbH d++[QB 1 d.ps.n (λi=>bif decide (i=p)then Kg [.bool true true] 0 (u ((p:Int).toNat+0))else u i) u2,LoopState.ready=LoopState.ready,(none:Option Code)=none,Array.mk [24]=Array.mk [24],ac=ac,body=body]))++wab d++(wbT++[0=0,(0:Int)=0])++wab d++((([cO=cO]++wbO++([0=0,w0.length=w0.length,cO=cO,0=0,0=0,Fn.func 91=Fn.func 91,0=0,0=0,0=0,0 =
  0]++wbX++[0=0,f.length=f.length,cO=cO]))++wah f++([Fn.func 103=Fn.func 103]++wbo++[0=0,0=0,0=0,Fn.func 91=Fn.func 91,0=0,0=0]))++wae d))
noncomputable abbrev Gu:Nat×Blk:=
  (200,.cells 0 152 (List.append (waf d) ([.map 201,.slz 864 0 (i64.wrap ((l2.length:Int)-1)).toNat cO])))
noncomputable abbrev zL:Nat×Blk:=
  (464,.cells 0 114 [.slz 865 0 d.ps.n cO])
noncomputable abbrev HO:Nat×Blk:=
  (296,.cells 0 64 [.slz 866 0 f'.length cO])
noncomputable abbrev Ge:Nat×Blk:=
  (864,.rowz true 49 kB l2.length λi=>QA.enc (l2.getD i (Lay.mk (0:Int) (0:Int))))
noncomputable abbrev GN:Nat×Blk:=
  (865,.rowz true 4 [CK.bool] d.ps.n λi=>bif decide (i=p)then Kg [.bool true false] 0 (u2 ((p:Int).toNat+0))else u2 i)
noncomputable abbrev Hj:Nat×Blk:=
  (866,.rowz true 67 (waZ) f'.length λi=>QA.enc (f'.getD i (Jn.mk (0:Int) (0:Int) (0:Int) (0:Int))))
noncomputable abbrev QKz:List AV:=
  (.ptr 2 0 0::.ptr 101 0 0::List.append (wa3) ([vi (d.ps.n:Int),vi (p:Int)]))
theorem QYv(pb1 pb2:List Prop->Bool)(d:Puz)(E:ECt)(w0:List Jn)(ac body:Code)(u u2:Nat->Nat->Int)(l l2:List Lay)(v:Bool)(f:List Jn)(p:Nat)(tn:Int)(t:Nat)(f':List Jn)(g0:Nat->Value):exec (mkE prog (QBm pb1 pb2 d E w0 l ⟨p,t⟩ v (faU d E w0 ac body u2 l2 f f'))) (hnd (mkE prog (QBm pb1 pb2 d E w0 l ⟨p,t⟩ v (faU d E w0 ac body u2 l2 f f'))) 0) (QZ (QI f103 0)) (JSt.inst (zO d E w0 ac body u l f p tn t) g0) (Q6 WR QI6) = .br (decide ((t:Int)<tn)) (.need (true) (.br (!Qr (Rw.mk 0 λi=>Pt.mk (0:Int) (Lay.mk (0:Int) (0:Int))) (l.length:Int) (Lay.mk (p:Int) (t:Int))) (.leaf (.tup (vu d p t tn)) ((qt E ac body d f l u w0))) (.need (pb1 ((QPX E d l p t))) (.br (!v) (.leaf (.tup (vu d p t tn)) ((qt E ac body d f l u w0))) (.need (decide ((0:Int)<=(p:Int)/\(p:Int)<(d.ps.n:Int))&&decide (d.ps.n<=d.ps.n)) (.need (decide (p<d.ps.n)) (.need (decide (l.length<=l.length)&&(true&&decide ((l.length+1+(l.length+1) / 4+192)*16<=281474976710656/\l.length+1<=9223372036854775807))) (.need (pb2 ((QSS E ac body d f l l2 p t u u2 w0))) (.need (decide ((0:Int)<=i64.wrap ((l2.length:Int)-1)/\(i64.wrap ((l2.length:Int)-1)).toNat<=l2.length-0)) (.need (decide ((0:Int)<=(p:Int)/\(p:Int)<(d.ps.n:Int))&&decide (d.ps.n<=d.ps.n)) (.need (decide (p<d.ps.n)) (.br (false) (.leaf (.tup (wbK)) ([(Gu d l2),(201,.mp E.1 E.2),(zL d),(393,.lp LoopState.ready none (faT d w0) (Array.mk [24]) ac body),(HO f'),(ju d),(Ge l2),(GN d p u2),jV,jN,(360,.cellsR 0 96 [.nils]),(Hj f')])) (.leaf (.tup (vu d p t tn)) (((Gu d l2)::(201,.mp E.1 E.2)::(zL d)::(393,.lp LoopState.ready none (faT d w0) (Array.mk [24]) ac body)::(HO f')::jN::List.append (waT) ([QFb,(ju d),(Ge l2),(GN d p u2),jV,(Hj f')])))))))))))))))) (.leaf (.tup (QKz d p)) ((qt E ac body d f l u w0))):=by kernel_rfl
noncomputable abbrev QRd:List AV:=
  (List.append (wa3) ((vi (d.ps.n:Int)::wbN p t tn)))
abbrev wbU(w0:List Jn):List Prop:=[0=0,w0.length=w0.length,cO=cO,0=0,0=0,Fn.func (91:FuncId)=Fn.func (91:FuncId)]
abbrev QYu(d:Puz)(f:List Jn)(l:List Lay)(p:Nat)(t:Nat)(t':Nat)(tn:Int)(u:Nat->Nat->Int)(w0:List Jn):List Prop:=
  (((wbo++[0=0])++waH d p t t' tn)++wab d++(([cO=cO,0=0]++wbp E l)++wag l++((wbH d++[QB 1 d.ps.n u u])++wai++[Array.mk [24]=Array.mk [(24:Tmp)],ac=ac,body=body]))++wab d++(wbT++[0=0,(0:Int) =
  0])++wab d++((([cO=cO]++wbO++((wbU w0++[0=0,0=0,0=0,0=0])++wbR++[0=0,f.length=f.length,cO=cO]))++wah f++([Fn.func 103=Fn.func (103:FuncId)]++wbo++[0=0,0=0,0=0,Fn.func 91=Fn.func (91:FuncId),0=0,0=0]))++wae d))
theorem QSZ(l:List Lay)(f:List Jn)(p:Nat)(tn:Int)(t t':Nat):QE 520 (QRd d p t tn) ((qt E ac body d f l u w0)) (zO d E w0 ac body u l f p tn t')=(some (QYu E ac body d f l p t t' tn u w0)):=by kernel_rfl
abbrev J5:List Prop:=
  [0=0,0=0,0=0,0=0]
abbrev Z8:List Prop:=
  (wab d++[cO=cO,0=0])
abbrev QNP(d:Puz)(l:List Lay)(l2:List Lay)(p:Nat)(u2:Nat->Nat->Int)(u3:Nat->Nat->Int):List Prop:=
  ([cO=cO]++waN E l l2++(wbH d++[QB 1 d.ps.n (λi=>bif decide (i=p)then Kg [.bool true false] 0 (u2 ((p:Int).toNat
  + 0))else u2 i) u3]))
abbrev QIN:List Prop:=
  [0=0,(0:Int)=0,0=0,0=0,(0:Int)=0]
abbrev QGP:List Prop:=
  ([0=0,0=0,(0:Int)=0,(0:Int)=0,false=false,0=0,0=0]++wbU w0)
abbrev was(f':List Jn):List Prop:=[f'.length<=f'.length,QB 4 f'.length (λi=>QA.enc (f'.getD i (Jn.mk (0:Int) (0:Int) (0:Int) (0:Int)))) λi
  => QA.enc (f'.getD i (Jn.mk (0:Int) (0:Int) (0:Int) (0:Int)))]
abbrev QS0:List Prop:=
  ([0=0,f'.length=f'.length,cO=cO]++was f')
abbrev QJ6:List Prop:=
  ([Fn.func 91=Fn.func (91:FuncId),0=0,0=0]++wae d)
theorem QVJ(u u2 u3:Nat->Nat->Int)(l l2:List Lay)(p:Nat)(tn:Int)(t t':Nat)(f':List Jn):QE 520 (QRd d p t tn) (((Gu d l2)::(201,.mp E.1 E.2)::(zL d)::(393,.lp LoopState.ready none (faT d w0) (Array.mk [24]) ac body)::(HO f')::jN::List.append (waT) ([QFb,(ju d),(Ge l2),(GN d p u2),jV,(Hj f')]))) (zO d E w0 ac body u3 l f' p tn t')=(some (J5++J5++([0=0,0=0]++waH d p t t' tn)++(Z8 d)++[(i64.wrap ((l2.length:Int)-1)).toNat=l.length]++(QNP E d l l2 p u2 u3)++(wai++[Array.mk [24]=Array.mk [(24:Tmp)],ac=ac,body=body])++(Z8 d)++QIN++J5++[0=0,0=0,(0:Int)=0]++(Z8 d)++[0=0,(0:Int)=0]++(QGP w0)++J5++[Fn.func (102:FuncId)=Fn.func (102:FuncId)]++J5++(QS0 f')++[Fn.func 103=Fn.func (103:FuncId)]++J5++J5++J5++(QJ6 d))):=by kernel_rfl
theorem QSQ(l:List Lay)(f:List Jn)(p:Nat):QE 520 (List.append (wa3) ([vi (d.ps.n:Int),vi (p:Int)])) ((qt E ac body d f l u w0)) (QB2 d E w0 ac body u l f p)=(some (J5++J5++([0=0,0=0]++wbq d p)++(Z8 d)++((wbp E l)++wag l++((wbH d++[QB 1 d.ps.n u u])++wai++[Array.mk [24]=Array.mk [(24:Tmp)],ac=ac,body=body]))++(Z8 d)++QIN++J5++[0=0,0=0,(0:Int)=0]++(Z8 d)++[0=0,(0:Int)=0]++(QGP w0)++J5++[Fn.func (102:FuncId)=Fn.func (102:FuncId)]++J5++([0=0,f.length=f.length,cO=cO]++wah f++[Fn.func 103=Fn.func (103:FuncId)])++J5++J5++J5++(QJ6 d))):=by kernel_rfl
theorem QhJ(pb1 pb2:List Prop->Bool)(d:Puz)(E:ECt)(w0:List Jn)(ac body:Code)(u u2:Nat->Nat->Int)(l l2:List Lay)(v:Bool)(f:List Jn)(p:Nat)(tn:Int)(t:Nat)(f':List Jn)(g0:Nat->Value):exec (mkE prog (QBm pb1 pb2 d E w0 l ⟨p,t⟩ v (faV d E w0 ac body u2 l2 f f'))) (hnd (mkE prog (QBm pb1 pb2 d E w0 l ⟨p,t⟩ v (faV d E w0 ac body u2 l2 f f'))) 0) (QZ (QI f103 0)) (JSt.inst (zO d E w0 ac body u l f p tn t) g0) (Q6 WR QI6) = .br (decide ((t:Int)<tn)) (.need (true) (.br (!Qr (Rw.mk 0 λi=>Pt.mk (0:Int) (Lay.mk (0:Int) (0:Int))) (l.length:Int) (Lay.mk (p:Int) (t:Int))) (.leaf (.tup (vu d p t tn)) ((qt E ac body d f l u w0))) (.need (pb1 ((QPX E d l p t))) (.br (!v) (.leaf (.tup (vu d p t tn)) ((qt E ac body d f l u w0))) (.need (decide ((0:Int)<=(p:Int)/\(p:Int)<(d.ps.n:Int))&&decide (d.ps.n<=d.ps.n)) (.need (decide (p<d.ps.n)) (.need (decide (l.length<=l.length)&&(true&&decide ((l.length+1+(l.length+1) / 4+192)*16<=281474976710656/\l.length+1<=9223372036854775807))) (.need (pb2 ((QSS E ac body d f l l2 p t u u2 w0))) (.need (decide ((0:Int)<=i64.wrap ((l2.length:Int)-1)/\(i64.wrap ((l2.length:Int)-1)).toNat<=l2.length-0)) (.need (decide ((0:Int)<=(p:Int)/\(p:Int)<(d.ps.n:Int))&&decide (d.ps.n<=d.ps.n)) (.need (decide (p<d.ps.n)) (.br (true) (.leaf (.tup (wbK)) ([(Gu d l2),(201,.mp E.1 E.2),(zL d),(393,.lp LoopState.done (some (Code.exit 0)) (faT d w0) (Array.mk [24]) ac body), (HO f'),(ju d),(Ge l2),(GN d p u2),jV,jN,(360,.cellsR 0 96 [.nils]),(Hj f')])) (.leaf (.tup (vu d p t tn)) (((Gu d l2)::(201,.mp E.1 E.2)::(zL d)::(393,.lp LoopState.done (some (Code.exit 0)) (faT d w0) (Array.mk [24]) ac body)::(HO f')::jN::List.append (waT) ([QFb,(ju d),(Ge l2),(GN d p u2),jV,(Hj f')])))))))))))))))) (.leaf (.tup (QKz d p)) ((qt E ac body d f l u w0))):=by kernel_rfl
theorem QVB(u2 u3:Nat->Nat->Int)(l l2:List Lay)(p:Nat)(f':List Jn):QE 520 [.bool true false] ([(Gu d l2),(201,.mp E.1 E.2),(zL d),(393,.lp LoopState.done (some (Code.exit 0)) (faT d w0) (Array.mk [24]) ac body),(HO f'),(ju d), (Ge l2),(GN d p u2),jV,jN,(360,.cellsR 0 96 [.nils]),(Hj f')]) (faF d E w0 ac body u3 l f')=(some ([false=false]++(Z8 d)++[(i64.wrap ((l2.length:Int)-1)).toNat=l.length]++(QNP E d l l2 p u2 u3)++(waQ++[Array.mk [24]=Array.mk [(24:Tmp)],ac=ac,body=body])++(Z8 d)++QIN++J5++[0=0,0=0,(0:Int)=0]++(Z8 d)++[0=0,(0:Int)=0]++(QGP w0)++J5++[Fn.func (102:FuncId)=Fn.func (102:FuncId)]++J5++(QS0 f'))):=by kernel_rfl
def Wj(pb:List Prop->Bool)(d:Puz)(n:Nat)(a:Int):Tab:=Qa QT 52 (KG pb (tnU d n a))
abbrev QEh(P:Program)(pb:List Prop->Bool)(d:Puz)(E:ECt)(w0:List Jn)(ac body:Code)(u:Nat->Nat->Int)(l:List Lay)(f:List Jn)(p:Nat)(X:List (Prop×Ex×JSt)):Hnd:={ hnd (mkE P (Wj pb d l.length p)) 0 with loop:=λ_=>JP (p<d.ps.n/\u p 0=0) (KH 520 WR (zO d E w0 ac body u l f p (tnV d p) (0:Nat)) X) }
noncomputable abbrev QRR:List AV:=
  (.nilp::.ptr 101 0 0::List.append (wa3) ([vi (d.ps.n:Int),vi (i64.wrap ((p:Int)+1))]))
noncomputable abbrev YH:Nat×Blk:=
  (200,.cells 0 152 (List.append (waf d) ([.map 201,.slz 528 0 l.length cO])))
noncomputable abbrev X3:Nat×Blk:=
  (464,.cells 0 114 [.slz 536 0 d.ps.n cO])
noncomputable abbrev HS(d:Puz)(w0:List Jn):Nat×Blk:=
  (393,.lp LoopState.ready none (faT d w0) (Array.mk [24]) ac body)
noncomputable abbrev QE5:Nat×Blk:=
  (296,.cells 0 64 [.slz 544 0 f.length cO])
noncomputable abbrev Hb:Nat×Blk:=
  (352,.cellsR 0 90 [.ptr 200 0 0])
noncomputable abbrev QD8:Nat×Blk:=
  (480,.cellsR 0 31 [.fn (Fn.func 103) (wa3)])
noncomputable abbrev zJ:Nat×Blk:=
  (0,.frz (List.append (waa) ((List.append (waA) ((List.append (waZ) ([.int .i64])))))) d.ps.n λi=>QA.enc (d.ps.get i))
noncomputable abbrev YA:Nat×Blk:=
  (528,.rowz true 49 kB l.length λi=>QA.enc (l.getD i (Lay.mk (0:Int) (0:Int))))
noncomputable abbrev G3:Nat×Blk:=
  (328,.cellsR 0 141 [.mth (Fn.func 91) [.ptr 200 0 0]])
noncomputable abbrev QDX:Nat×Blk:=
  (544,.rowz true 67 (waZ) f.length λi=>QA.enc (f.getD i (Jn.mk (0:Int) (0:Int) (0:Int) (0:Int))))
noncomputable abbrev qG:Nat×Blk:=
  (296,.cells 0 64 [.slz 544 0 f'.length cO])
noncomputable abbrev qN:Nat×Blk:=
  (544,.rowz true 67 (waZ) f'.length λi=>QA.enc (f'.getD i (Jn.mk (0:Int) (0:Int) (0:Int) (0:Int))))
theorem QLY(pb:List Prop->Bool)(d:Puz)(E:ECt)(w0:List Jn)(ac body:Code)(u u':Nat->Nat->Int)(l:List Lay)(f:List Jn)(p:Nat)(A B:Prop)(f':List Jn)(g0:Nat->Value):exec (mkE prog (Wj pb d l.length p)) (QEh prog pb d E w0 ac body u l f p [(A,.exit 2,QB2 d E w0 ac body u' l f' p),(B,.ret,faF d E w0 ac body u' l f')]) (QI f103 0) (JSt.inst (zm d E w0 ac body u l f p) g0) (Q6 WR QNl) = .br (decide ((p:Int)<(d.ps.n:Int))) (.need (decide ((0:Int)<=(p:Int)/\(p:Int)<(d.ps.n:Int))&&decide (d.ps.n<=d.ps.n)) (.need (decide (p<d.ps.n)) (.br (decide (u ((p:Int).toNat+0) 0=1)) (.leaf (.tup (QRR d p)) (((YH d l)::(201,.mp E.1 E.2)::(X3 d)::(HS ac body d w0)::(QE5 f)::Hb::List.append (waT) ([QD8,(zJ d),(YA l),(536,.rowz true 4 [CK.bool] d.ps.n u),G3,(QDX f)])))) (.need (pb (([0=0,0=0,(p:Int)=(p:Int)]++wab d++([cO=cO,0=0,l.length=l.length,cO=cO]++wae d)))) (.ak [p<d.ps.n/\u p 0=0] (.ak (rz 10) (.ak ((wbq d p++[(p:Int)=(p:Int),tnV d (p:Int)=tnV d (p:Int),(0:Int)=0])++wab d++(([cO=cO,0=0]++wbp E l)++wag l++((wbH d++[QB 1 d.ps.n u u])++wai++[Array.mk [(24:Tmp)]=Array.mk [(24:Tmp)],ac=ac,body=body]))++wab d++(wbT++[0=0,(0:Int)=0])++wab d++(([cO=cO]++wbO++((wbU w0++[0=0,0=0,0=0,0=0])++wbR++[0=0,f.length=f.length,cO=cO]))++wah f++[Fn.func (103:FuncId)=Fn.func (103:FuncId)])) (.ak (rz 12) (.ak ([Fn.func (91:FuncId)=Fn.func (91:FuncId),0=0,0=0]++wae d) (.both (.asm (A) (.all (λ(g0:Nat->Value)=>.leaf (.tup (QRR d p)) (((YH d l)::(201,.mp E.1 E.2)::(X3 d)::(HS ac body d w0)::(qG f')::Hb::List.append (waT) ([QD8,(zJ d),(YA l),(536,.rowz true 4 [CK.bool] d.ps.n u'),G3,(qN f')])))))) (.asm (B) (.all (λ(g1:Nat->Value)=>.leaf (.tup [.nili,.ptr 101 0 0,.bool false false]) ([(YH d l),(201,.mp E.1 E.2),(X3 d),(393,.lp LoopState.done (some (Code.exit 0)) (faT d w0) (Array.mk [24]) ac body),(qG f'), (YA l),(536,.rowz true 4 [CK.bool] d.ps.n u'),(qN f')])))))))))))))) (.leaf (.tup [.ptr 0 0 0,.ptr 101 0 0]) ([(YH d l),(201,.mp E.1 E.2),(X3 d),(HS ac body d w0),(QE5 f),(zJ d),(YA l),(536,.rowz true 4 [CK.bool] d.ps.n u),G3,Hb,(360,.cellsR 0 96 [.nils]), (QDX f)])):=by kernel_rfl
noncomputable abbrev QOT:List AV:=
  (List.append (wa3) ([vi (d.ps.n:Int),vi (i64.wrap ((p:Int)+1))]))
abbrev XI:List Prop:=
  [0=0,0=0,0=0,0=0,0=0]
abbrev Xx:List Prop:=
  (wab d++[cO=cO,0=0])
abbrev Ga(d:Puz)(l:List Lay):List Prop:=
  ((wbp E l)++wag l++(wbH d))
abbrev QHO:List Prop:=
  (wai++[Array.mk [24]=Array.mk [(24:Tmp)],ac=ac])
abbrev zf:List Prop:=
  [0=0,(0:Int)=0,0=0,0=0]
abbrev HX:List Prop:=
  ([(0:Int)=0,0=0,0=0,0=0,0=0,0=0,0=0,(0:Int)=0]++wab d++([cO=cO]++wbO++(wbU w0++[0 =
  0,0=0,0=0,0=0,Fn.func (102:FuncId)=Fn.func (102:FuncId)])))
abbrev QSV:List Prop:=
  ([f.length=f.length,cO=cO]++wah f)
abbrev QTy:List Prop:=
  ([0=0,Fn.func 91=Fn.func (91:FuncId),0=0,0=0]++wae d)
theorem QQP(l:List Lay)(f:List Jn)(p p':Nat):QE 520 (QOT d p) (((YH d l)::(201,.mp E.1 E.2)::(X3 d)::(HS ac body d w0)::(QE5 f)::Hb::List.append (waT) ([QD8,(zJ d),(YA l),(536,.rowz true 4 [CK.bool] d.ps.n u),G3,(QDX f)]))) (zm d E w0 ac body u l f p')=(some (XI++XI++[(d.ps.n:Int)=(d.ps.n:Int),i64.wrap ((p:Int)+1)=(p':Int)]++(Xx d)++(Ga E d l)++[QB 1 d.ps.n u u]++(QHO ac)++[body=body]++(Xx d)++zf++(HX d w0)++XI++(QSV f) ++ [Fn.func 103=Fn.func (103:FuncId)]++XI++XI++[0=0]++(QTy d))):=by kernel_rfl
abbrev QEr:List Prop:=
  ([f'.length=f'.length,cO=cO]++was f')
theorem Qhp(p p':Nat)(f':List Jn):QE 520 (QOT d p) (((YH d l)::(201,.mp E.1 E.2)::(X3 d)::(HS ac body d w0)::(qG f')::Hb::List.append (waT) ([QD8,(zJ d),(YA l),(536,.rowz true 4 [CK.bool] d.ps.n u'),G3,(qN f')]))) (zm d E w0 ac body u' l f' p')=(some (XI++XI++[(d.ps.n:Int)=(d.ps.n:Int),i64.wrap ((p:Int)+1)=(p':Int)]++(Xx d)++(Ga E d l)++[QB 1 d.ps.n u' u']++(QHO ac)++[body=body]++(Xx d)++zf++(HX d w0)++XI++(QEr f') ++ [Fn.func 103=Fn.func (103:FuncId)]++XI++XI++[0=0]++(QTy d))):=by kernel_rfl
theorem QhX :QE 520 [.bool false false] ([(YH d l),(201,.mp E.1 E.2),(X3 d),(393,.lp LoopState.done (some (Code.exit 0)) (faT d w0) (Array.mk [24]) ac body),(qG f'),(YA l), (536,.rowz true 4 [CK.bool] d.ps.n u'),(qN f')]) (faF d E w0 ac body u' l f')=(some ([false=false]++(Xx d)++(Ga E d l)++([QB 1 d.ps.n u' u']++waQ++[Array.mk [24]=Array.mk [(24:Tmp)],ac=ac,body=body])++(Xx d)++zf++(HX d w0)++XI++(QEr f'))):=by kernel_rfl
theorem QKL(l:List Lay)(f:List Jn):QE 520 [] ([(YH d l),(201,.mp E.1 E.2),(X3 d),(HS ac body d w0),(QE5 f),(zJ d),(YA l),(536,.rowz true 4 [CK.bool] d.ps.n u),G3,Hb,(360,.cellsR 0 96 [.nils]),(QDX f)]) (GF d E w0 ac body u l f)=(some ((Xx d)++(Ga E d l)++[QB 1 d.ps.n u u]++(QHO ac)++[body=body]++(Xx d)++zf++(HX d w0) ++ XI++(QSV f))):=by kernel_rfl
abbrev faX(P:Program)(J:JSt)(X:List (Prop×Ex×JSt)):Hnd:={ hnd (mkE P QT) 0 with loop:=λ_=>KH 520 WR J X }
theorem QN4(u u':Nat->Nat->Int)(l:List Lay)(f:List Jn)(A B:Prop)(f':List Jn):(Vt (mkE prog QT) (faX prog (zm d E w0 (QN f43 0).1 (QN f43 0).2 u l f 0) [(A,.exit 0,GF d E w0 (QN f43 0).1 (QN f43 0).2
  u' l f'),(B,.ret,faF d E w0 (QN f43 0).1 (QN f43 0).2 u' l f')]) f103 QI0 (Gd d E w0 (QN f43 0).1 (QN f43 0).2 u l f).hp 520 λv h
  _ => ZC WR v h) = .br ((l.length : Int) == (d.ps.n : Int)) (.fail ("yield")) (.ask (0 = 0) (.ask (0 = 0) (.ask (0 = 0) (.ask (0 = 0) (.ask (0 = 0) (.ask (0 = 0) (.ask (0 = 0)
  (.ask (0=0) (.ask (0=0) (.ask (0=0) (.ask ((d.ps.n:Int)=(d.ps.n:Int)) (.ask ((0:Int)=0) (.ask (d.pK.length=d.pK.length) (.ask (d.pK.aK=d.pK.aK)
  (.ask (d.pK.oK=d.pK.oK) (.ask (d.pK.dK.lo=d.pK.dK.lo) (.ask (d.pK.dK.hi=d.pK.dK.hi) (.ask (d.wide=d.wide) (.ask (d.high=d.high) (.ask (d.turn =
  d.turn) (.ask (0=0) (.ask (d.ps.n=d.ps.n) (.ask (Cap.of 0=Cap.of 0) (.ask (0=0) (.ask (l.length=l.length) (.ask (Cap.of 0=Cap.of 0) (.ask (E.1=E.1) (.ask (E.2=E.2)
  (.ak [l.length<=l.length,QB 2 l.length (λi=>QA.enc (l.getD i (Lay.mk (0:Int) (0:Int)))) λi=>QA.enc (l.getD i (Lay.mk (0:Int) (0:Int))),0
  = 0,d.ps.n=d.ps.n,Cap.of 0=Cap.of 0,d.ps.n<=d.ps.n,QB 1 d.ps.n u u,LoopState.ready=LoopState.ready,(none:Option Code) =
  none,Array.mk [(24:Tmp)]=Array.mk [(24:Tmp)],(QN f43 0).1=(QN f43 0).1,(QN f43 0).2=(QN f43 0).2] (.ask
  (d.pK.length=d.pK.length) (.ask (d.pK.aK=d.pK.aK) (.ask (d.pK.oK=d.pK.oK) (.ask (d.pK.dK.lo=d.pK.dK.lo) (.ask (d.pK.dK.hi =
  d.pK.dK.hi) (.ask (d.wide=d.wide) (.ask (d.high=d.high) (.ask (d.turn=d.turn) (.ask (0=0) (.ask (d.ps.n=d.ps.n) (.ask (Cap.of 0=Cap.of 0) (.ask (0=0) (.ask (0=0)
  (.ask ((0:Int)=0) (.ask (0=0) (.ask (0=0) (.ask ((0:Int)=0) (.ask (0=0) (.ask (0=0) (.ask (0=0) (.ask (0=0) (.ask (0=0) (.ask (0=0) (.ask ((0:Int)=0)
  (.ask (d.pK.length=d.pK.length) (.ask (d.pK.aK=d.pK.aK) (.ask (d.pK.oK=d.pK.oK) (.ask (d.pK.dK.lo=d.pK.dK.lo) (.ask (d.pK.dK.hi =
  d.pK.dK.hi) (.ask (d.wide=d.wide) (.ask (d.high=d.high) (.ask (d.turn=d.turn) (.ask (0=0) (.ask (d.ps.n=d.ps.n) (.ask (Cap.of 0=Cap.of 0) (.ask (0=0) (.ask (0=0)
  (.ask ((0:Int)=0) (.ask (0=0) (.ask (0=0) (.ask ((0:Int)=0) (.ask ((0:Int)=0) (.ask (false=false) (.ask (0=0) (.ask (0=0) (.ask (0=0) (.ask (w0.length =
  w0.length) (.ask (Cap.of 0=Cap.of 0) (.ask (0=0) (.ask (0=0) (.ask (Fn.func (91:FuncId)=Fn.func (91:FuncId)) (.ask (0=0) (.ask (0=0) (.ask (0=0) (.ask (0=0)
  (.ask (Fn.func (102:FuncId)=Fn.func (102:FuncId)) (.ask (0=0) (.ask (0=0) (.ask (0=0) (.ask (0=0) (.ask (0=0) (.ask (f.length=f.length) (.ask (Cap.of 0=Cap.of 0)
  (.ask (f.length<=f.length) (.ask (QB 4 f.length (λi=>QA.enc (f.getD i (Jn.mk (0:Int) (0:Int) (0:Int) (0:Int)))) λi=>QA.enc (f.getD i (Jn.mk (0:Int) (0 :
  Int) (0:Int) (0:Int)))) (.ask (Fn.func (103:FuncId)=Fn.func (103:FuncId)) (.ask (0=0) (.ask (0=0) (.ask (0=0) (.ask (0=0) (.ask (0=0) (.ask (0=0) (.ask (0=0)
  (.ak [0=0,0=0,0=0,0=0,0=0,Fn.func (91:FuncId)=Fn.func (91:FuncId),0=0,0=0,d.ps.n<=d.ps.n] (.ask
  (QB 28 d.ps.n (λi=>QA.enc (d.ps.get i)) λi=>QA.enc (d.ps.get i)) (.both (.asm (A) (.all (λ(g0:Nat->Value)=>.leaf (.bool true true) ([(YH d l),(201,.mp
  E.1 E.2),(X3 d),(393,.lp LoopState.ready none (faT d w0) (Array.mk [24]) (QN f43 0).1 (QN f43 0).2),(qG f'),(YA l),(536,.rowz true 4 [CK.bool] d.ps.n
  u'),(qN f')])))) (.asm (B) (.all (λ(g1:Nat->Value)=>.leaf (.bool false false) ([(YH d l),(201,.mp E.1 E.2),(X3 d),(393,.lp LoopState.done (some (Code.exit 0))
  (faT d w0) (Array.mk [24]) (QN f43 0).1 (QN f43 0).2),(qG f'),(YA l),(536,.rowz true 4 [CK.bool] d.ps.n u'),(qN
  f')]))))))))))))))))))))))))))))))))))))))))))))))))))))))))))))))))))))))))))))))))))))))))))))))))))))))))))))):=by kernel_rfl
noncomputable abbrev wbb:List Prop:=[Array.mk [24]=Array.mk [(24:Tmp)],(QN f43 0).1=(QN f43 0).1,(QN f43 0).2=(QN f43 0).2]
theorem QV6(u u':Nat->Nat->Int)(l:List Lay)(f:List Jn)(f':List Jn):QE 520 [(.bool true true)] ([(YH d l),(201,.mp E.1 E.2),(X3 d),(393,.lp LoopState.ready none (faT d w0) (Array.mk [24]) (QN f43 0).1 (QN f43 0).2), (qG f'),(YA l),(536,.rowz true 4 [CK.bool] d.ps.n u'),(qN f')]) (KR (faU d E w0 (QN f43 0).1 (QN f43 0).2 u l f f'))=(some ([true=true]++(Xx d)++(Ga E d l)++([QB 1 d.ps.n u' u]++wai++(wbb))++(Xx d)++zf++(HX d w0)++XI++(QEr f'))):=by kernel_rfl
theorem QXl(u u':Nat->Nat->Int)(l:List Lay)(f:List Jn)(f':List Jn):QE 520 [(.bool false false)] ([(YH d l),(201,.mp E.1 E.2),(X3 d),(393,.lp LoopState.done (some (Code.exit 0)) (faT d w0) (Array.mk [24]) (QN f43 0).1 (QN f43 0).2),(qG f'),(YA l),(536,.rowz true 4 [CK.bool] d.ps.n u'),(qN f')]) (KR (faV d E w0 (QN f43 0).1 (QN f43 0).2 u l f f'))=(some ([false=false]++(Xx d)++(Ga E d l)++([QB 1 d.ps.n u' u]++waQ++(wbb))++(Xx d)++zf++(HX d w0)++XI++(QEr f'))):=by kernel_rfl
def Yf(s:LJ):Qb LJ->UC
 | .go s'=>faU d E w0 ac body (QD l) l s.1 s'.1
 | .stop s'=>faV d E w0 ac body (QD l) l s.1 s'.1
open Classical in
noncomputable def WG:List Prop->Bool:=if t<QY d p then QQ else λ_=>false
noncomputable def vg(P:Program)(d:Puz)(E:ECt)(w0:List Jn)(ac body:Code)(rec:List Lay->LJ->Qb LJ)(l:List Lay)(p:Nat)(k:Nat×LJ):Env:=
 mkE P (QBm (WG d p k.1) (WG d p k.1) d E w0 l ⟨p,k.1⟩ (Qy d E l ⟨p,k.1⟩) (Yf d E w0 ac body (l++[⟨p,k.1⟩]) k.2 (rec (l++[⟨p,k.1⟩]) k.2)))
def ZR(rec:List Lay->LJ->Qb LJ)(l:List Lay)(p:Nat)(k:Nat×LJ)(e:Ex)(J:JSt):Prop:=match Qv (KE d E rec l p) ((List.range (QY d p)).drop k.1) k.2 with
 | .go s'=>e = .exit 2/\J=QB2 d E w0 ac body (QD l) l s'.1 p
 | .stop s'=>e = .ret/\J=faF d E w0 ac body (QD l) l s'.1
set_option maxHeartbeats 1000000 in
theorem Qai(rec:List Lay->LJ->Qb LJ)(l:List Lay)(p:Nat)(hp:p<d.ps.n)(hn:d.ps.n<=1000)(hl:l.length<=1000)(hu:KK l p=false):JW (λk:Nat×LJ=>zO d E w0 ac body (QD l) l k.2.1 p (tnV d p) k.1) (λk=>k.1<=QY d p) (λk=>QY d p-k.1) (ZR d E w0 ac body rec l p) 520 QI6 WR (vg prog d E w0 ac body rec l p) (λk=>hnd (vg prog d E w0 ac body rec l p k) 0) (QZ (QI f103 0)):=by
 refine⟨λk g0 hk=>?_⟩;obtain⟨t,f,hq0⟩:=k;have hk:t<=QY d p:=hk;obtain⟨ht1,ht4⟩:=WX d p;have hlen:(l++[(⟨p,t⟩:Lay)]).length=l.length+1:=by rw[List.length_append,List.length_singleton]
 have hw1:i64.wrap (((l++[(⟨p,t⟩:Lay)]).length:Int)-1)=l.length:=(w64 (by omega) (by omega)).trans (by omega)
 have hpop:(i64.wrap (((l++[(⟨p,t⟩:Lay)]).length:Int)-1)).toNat=l.length:=by rw[hw1];exact Int.toNat_natCast _
 have hle:l.length<=(l++[(⟨p,t⟩:Lay)]).length:=by omega
 have hpb:t<QY d p->WG d p t=QQ:=λh=>by unfold WG;rw[if_pos h]
 have wt:t<QY d p->i64.wrap ((t:Int)+1)=((t+1:Nat):Int):=λh=>(w64 (by omega) (by omega)).trans (by omega)
 have step:=λh:t<QY d p=>Wx (f:=KE d E rec l p) h ⟨f,hq0⟩;unfold vg;simp only
 have next:t<QY d p->∀{s2:LJ},KE d E rec l p ⟨f,hq0⟩ t = .go s2->∀ e J,ZR d E w0 ac body rec l p (t+1,s2) e J->ZR d E w0 ac body rec l p (t,⟨f,hq0⟩) e J:=by
  intro h s2 he e J hr;unfold ZR at hr ⊢;simp only at hr ⊢;rw[step h,he];exact hr
 have last:QY d p<=t->ZR d E w0 ac body rec l p (t,⟨f,hq0⟩) (.exit 2) (QB2 d E w0 ac body (QD l) l f p):=by
  intro h;unfold ZR;simp only[qe h,and_self]
 cases hr:rec (l++[⟨p,t⟩]) ⟨f,hq0⟩with
 | go s'=>
  obtain⟨f',hq1⟩:=s';simp only[Yf];have et:=QYv (WG d p t) (WG d p t) d E w0 ac body (QD l) (QD (l++[⟨p,t⟩])) l (l++[⟨p,t⟩]) (Qy d E l ⟨p,t⟩) f p (tnV d p) t f' g0;refine Qg et ?_;clear et;refine QF (λb0=>?_) (λb0=>?_);have h:t<QY d p:=by have:=qdt b0;omega
  rw[hpb h];have hw:=wt h;refine QG ?_ ?_;rotate_left;refine QF ?_ ?_<;>intro b1
  .exact Bool.noConfusion (show false=true from b1)
  refine QG ?_ ?_;rotate_left;refine QF (λb2=>?_) (λb2=>?_);have hv:Qy d E l ⟨p,t⟩=false:=by simpa using b2
  have ho:KE d E rec l p ⟨f,hq0⟩ t = .go ⟨f,hq0⟩:=by unfold KE;rw[hv];rfl
  refine⟨(t+1,⟨f,hq0⟩),h,by show QY d p-(t+1)<QY d p-t;omega,next h ho,rfl,rfl,_,QSZ d E w0 ac body (QD l) l f p (tnV d p) t (t+1),?_⟩
  rotate_left
  iterate 7 (refine QG ?_ ?_;rotate_left)
  refine QF ?_ ?_<;>intro b3
  .cases b3
  have hv:Qy d E l ⟨p,t⟩=true:=by simpa using b2
  have ho:KE d E rec l p ⟨f,hq0⟩ t = .go ⟨f',hq1⟩:=by unfold KE;rw[hv];exact hr
  have hb:=qM l d.ps.n p t hu;have hq:=qo l ⟨p,t⟩;have hnx:=next h ho
  clear next last step hr ho
  generalize QD (l++[⟨p,t⟩])=u2 at hb ⊢;generalize l++[⟨p,t⟩]=l2 at hpop hle hq ⊢;generalize hu1:QD l=u1 at hb ⊢;refine⟨(t+1,⟨f',hq1⟩),h,by show QY d p-(t+1)<QY d p-t;omega,hnx,rfl,rfl,_,QVJ d E w0 ac body u1 u2 u1 l l2 p (tnV d p) t (t+1) f',?_⟩
  rotate_left
  have h:QY d p<=t:=by have:=qdf b0;omega
  refine⟨_,last h,rfl,rfl,_,QSQ d E w0 ac body (QD l) l f p,?_⟩
  rotate_left
  all_goals first|((with_reducible show _=true);(first|rfl|(refine KA.2 ?_;repeat' first|with_reducible refine QP ?_ ?_|exact tv|with_reducible exact qRr|with_reducible exact hlen|with_reducible exact hlen.symm|with_reducible exact Nat.le_of_eq hlen|with_reducible exact qD l ⟨p,t⟩|with_reducible exact W9 l _ p t|exact rfl|refine aI ?_ ?_)|(rw[hw1];simp)|(simp;omega)))|(repeat' first|with_reducible refine QP ?_ ?_|exact tv|with_reducible exact qRr|with_reducible exact hw|with_reducible exact hpop|with_reducible exact hle|with_reducible exact hq|with_reducible exact hb|exact rfl|refine aI ?_ ?_)
 | stop s'=>
  obtain⟨f',hq1⟩:=s';simp only[Yf];have et:=QhJ (WG d p t) (WG d p t) d E w0 ac body (QD l) (QD (l++[⟨p,t⟩])) l (l++[⟨p,t⟩]) (Qy d E l ⟨p,t⟩) f p (tnV d p) t f' g0;refine Qg et ?_;clear et;refine QF (λb0=>?_) (λb0=>?_);have h:t<QY d p:=by have:=qdt b0;omega
  rw[hpb h];have hw:=wt h;refine QG ?_ ?_;rotate_left;refine QF ?_ ?_<;>intro b1
  .exact Bool.noConfusion (show false=true from b1)
  refine QG ?_ ?_;rotate_left;refine QF (λb2=>?_) (λb2=>?_);have hv:Qy d E l ⟨p,t⟩=false:=by simpa using b2
  have ho:KE d E rec l p ⟨f,hq0⟩ t = .go ⟨f,hq0⟩:=by unfold KE;rw[hv];rfl
  refine⟨(t+1,⟨f,hq0⟩),h,by show QY d p-(t+1)<QY d p-t;omega,next h ho,rfl,rfl,_,QSZ d E w0 ac body (QD l) l f p (tnV d p) t (t+1),?_⟩
  rotate_left
  iterate 7 (refine QG ?_ ?_;rotate_left)
  refine QF (λb3=>?_) (λb3=>?_);have hv:Qy d E l ⟨p,t⟩=true:=by simpa using b2
  have ho:KE d E rec l p ⟨f,hq0⟩ t = .stop ⟨f',hq1⟩:=by unfold KE;rw[hv];exact hr
  have hrel:ZR d E w0 ac body rec l p (t,⟨f,hq0⟩) .ret (faF d E w0 ac body (QD l) l f'):=by
   unfold ZR;simp only[step h,ho,and_self]
  have hb:=qM l d.ps.n p t hu;have hq:=qo l ⟨p,t⟩;clear next last step hr ho
  generalize QD (l++[⟨p,t⟩])=u2 at hb ⊢;generalize l++[⟨p,t⟩]=l2 at hpop hle hq ⊢;generalize hu1:QD l=u1 at hb hrel ⊢;refine⟨_,hrel,rfl,rfl,_,QVB d E w0 ac body u2 u1 l l2 p f',?_⟩
  rotate_left
  .cases b3
  have h:QY d p<=t:=by have:=qdf b0;omega
  refine⟨_,last h,rfl,rfl,_,QSQ d E w0 ac body (QD l) l f p,?_⟩
  rotate_left
  all_goals first|((with_reducible show _=true);(first|rfl|(refine KA.2 ?_;repeat' first|with_reducible refine QP ?_ ?_|exact tv|with_reducible exact qRr|with_reducible exact hlen|with_reducible exact hlen.symm|with_reducible exact Nat.le_of_eq hlen|with_reducible exact qD l ⟨p,t⟩|with_reducible exact W9 l _ p t|exact rfl|refine aI ?_ ?_)|(rw[hw1];simp)|(simp;omega)))|(repeat' first|with_reducible refine QP ?_ ?_|exact tv|with_reducible exact qRr|with_reducible exact hw|with_reducible exact hpop|with_reducible exact hle|with_reducible exact hq|with_reducible exact hb|exact rfl|refine aI ?_ ?_)
def QD9(rec:List Lay->LJ->Qb LJ)(l:List Lay)(p:Nat):Prop:=∀ t,t<QY d p->∀ s,QS prog 103 (uFC (Yf d E w0 ac body (l++[⟨p,t⟩]) s (rec (l++[⟨p,t⟩]) s)))
theorem QX2{d:Puz}{E:ECt}{w0:List Jn}{ac body:Code}{rec:List Lay->LJ->Qb LJ}{l:List Lay}{p:Nat}(hd:KB d)(hE:WfE E)(hl:l.length<=1000)(hL:∀ y∈l,Q8 d y)(hp:p<d.ps.n)(IH:QD9 d E w0 ac body rec l p)(k:Nat×LJ):(vg prog d E w0 ac body rec l p k).Sound:=by
 unfold vg WG
 by_cases h:k.1<QY d p
 .rw[if_pos h];have h4:=(WX d p).2;exact QO ((Qf.add (QDD d E l ⟨p,k.1⟩ hd hE hl hL ⟨⟨by show(0:Int)<=p;omega,by show(p:Int)<_;omega⟩,by show(0:Int)<=k.1;omega,by show(k.1:Int)<=3;omega⟩)).add (IH k.1 h k.2))
 .rw[if_neg h];exact QO ((Qf.add (Jr (by kernel_rfl) _)).add (Jr (by kernel_rfl) _))
def QAa(rec:List Lay->LJ->Qb LJ)(l:List Lay)(p:Nat)(s:LJ):List (Prop×Ex×JSt):=
 [((inZ d E rec l p s).isGo=true,.exit 2,QB2 d E w0 ac body (QD l) l (inZ d E rec l p s).s.1 p),((inZ d E rec l p s).isGo=false,.ret,faF d E w0 ac body (QD l) l (inZ d E rec l p s).s.1)]
theorem QcD{d:Puz}{E:ECt}{w0:List Jn}{ac body:Code}{rec:List Lay->LJ->Qb LJ}{l:List Lay}(hd:KB d)(hE:WfE E)(hl:l.length<=1000)(hL:∀ y∈l,Q8 d y)(p:Nat)(s:LJ)(IH:p<d.ps.n->QD9 d E w0 ac body rec l p)(G:Ctx)(hrd:G.rd=none)(hG:G.n<=520):
  Qx (mkE prog (Wj QQ d l.length p)) G (QEh prog QQ d E w0 ac body (QD l) l s.1 p (QAa d E w0 ac body rec l p s)) (QI f103 0):=by
 have hT:Qd (Wj QQ d l.length p):=Qf.add (YR d l.length p);refine KO (body:=QZ (QI f103 0)) (QO hT) hrd (by kernel_rfl) ?_
 refine Jj λhp=>?_;have hu:=QCq hp.2;have hEnv:=QX2 (ac:=ac) (body:=body) hd hE hl hL hp.1 (IH hp.1);refine Jq (E0:=mkE prog (Wj QQ d l.length p)) (E:=vg prog d E w0 ac body rec l p) (H:=λk=>hnd (vg prog d E w0 ac body rec l p k) 0) (n0:=520) (s0:=(0,s)) (λ_=>rfl) hEnv hG (λk _=>Qw (hEnv k) 0 G _ hrd) (λk _=>(by decide:520<=552)) ?_ (Qai d E w0 ac body rec l p hp.1 hd.n hl hu) (Nat.zero_le _) ?_
 .intro k e J hr;unfold ZR at hr;split at hr<;>(rw[hr.2];exact(by decide:520<=552))
 .intro e J hr;unfold ZR at hr;simp only[List.drop_zero]at hr;have hi:inZ d E rec l p s=Qv (KE d E rec l p) (List.range (QY d p)) s:=rfl;unfold QAa;rw[hi];cases hc:Qv (KE d E rec l p) (List.range (QY d p)) s with
  | go s'=>
   rw[hc]at hr;exact⟨_,qmc,rfl,hr.1.symm,hr.2.symm⟩
  | stop s'=>
   rw[hc]at hr;exact⟨_,List.mem_cons_of_mem _ qmc,rfl,hr.1.symm,hr.2.symm⟩
def Yc(rec:List Lay->LJ->Qb LJ)(l:List Lay)(k:Nat×LJ)(e:Ex)(J:JSt):Prop:=match Qv (Kr d E rec l) ((List.range d.ps.n).drop k.1) k.2 with
 | .go s'=>e = .exit 0/\J=GF d E w0 ac body (QD l) l s'.1
 | .stop s'=>e = .ret/\J=faF d E w0 ac body (QD l) l s'.1
set_option maxHeartbeats 1000000 in
theorem Qhn(rec:List Lay->LJ->Qb LJ)(l:List Lay)(hn:d.ps.n<=1000):JW (λk:Nat×LJ=>zm d E w0 ac body (QD l) l k.2.1 k.1) (λk=>k.1<=d.ps.n) (λk=>d.ps.n-k.1) (Yc d E w0 ac body rec l) 520 QNl WR (λk=>mkE prog (Wj QQ d l.length k.1)) (λk=>QEh prog QQ d E w0 ac body (QD l) l k.2.1 k.1 (QAa d E w0 ac body rec l k.1 k.2)) (QI f103 0):=by
 refine⟨λk g0 hk=>?_⟩;obtain⟨p,f,hq0⟩:=k;have hk:p<=d.ps.n:=hk;have wp:p<d.ps.n->i64.wrap ((p:Int)+1)=((p+1:Nat):Int):=λh=>VT h hn;have step:=λh:p<d.ps.n=>Wx (f:=Kr d E rec l) h ⟨f,hq0⟩
 have next:p<d.ps.n->∀{s2:LJ},Kr d E rec l ⟨f,hq0⟩ p = .go s2->∀ e J,Yc d E w0 ac body rec l (p+1,s2) e J->Yc d E w0 ac body rec l (p,⟨f,hq0⟩) e J:=by
  intro h s2 he e J hr;unfold Yc at hr ⊢;simp only at hr ⊢;rw[step h,he];exact hr
 have stop:p<d.ps.n->∀{s2:LJ},Kr d E rec l ⟨f,hq0⟩ p = .stop s2->Yc d E w0 ac body rec l (p,⟨f,hq0⟩) .ret (faF d E w0 ac body (QD l) l s2.1):=by
  intro h s2 he;unfold Yc;simp only[step h,he,and_self]
 have last:d.ps.n<=p->Yc d E w0 ac body rec l (p,⟨f,hq0⟩) (.exit 0) (GF d E w0 ac body (QD l) l f):=by
  intro h;unfold Yc;simp only[qe h,and_self]
 have hpz:KK l p=false->Kr d E rec l ⟨f,hq0⟩ p=inZ d E rec l p ⟨f,hq0⟩:=λh=>by unfold Kr;rw[h];rfl
 have hpu:KK l p=true->Kr d E rec l ⟨f,hq0⟩ p = .go ⟨f,hq0⟩:=λh=>by unfold Kr;rw[h];rfl
 unfold QAa;simp only;cases hr:inZ d E rec l p ⟨f,hq0⟩with
 | go s'=>
  obtain⟨f',hq1⟩:=s';simp only[Qb.isGo,Qb.s,Bool.true_eq_false,Bool.false_eq_true];have et:=QLY QQ d E w0 ac body (QD l) (QD l) l f p True False f' g0;refine Qg et ?_;clear et;refine QF (λb0=>?_) (λb0=>?_);have h:p<d.ps.n:=by have:=qdt b0;omega
  have hw:=wp h
  iterate 2 (refine QG ?_ ?_;rotate_left)
  refine QF (λb1=>?_) (λb1=>?_);have hub:KK l p=true:=Ve.symm.trans b1;refine⟨(p+1,⟨f,hq0⟩),h,by show d.ps.n-(p+1)<d.ps.n-p;omega,next h (hpu hub),rfl,rfl,_,QQP d E w0 ac body (QD l) l f p (p+1),?_⟩
  rotate_left
  have hub:KK l p=false:=Ve.symm.trans b1;have hu0:QD l p 0=0:=by unfold QD;rw[hub];rfl
  refine QG ?_ ?_;rotate_left
  iterate 127 refine Qq (by first|exact tv|exact⟨h,hu0⟩|with_reducible exact qRr|exact rfl) ?_
  refine Kf ?_ ?_;refine Qh λa0=>?_;refine Qj λg0=>?_;refine⟨(p+1,⟨f',hq1⟩),h,by show d.ps.n-(p+1)<d.ps.n-p;omega,next h ((hpz hub).trans hr),rfl,rfl,_,Qhp d E w0 ac body (QD l) l p (p+1) f',?_⟩
  rotate_left
  refine Qh λa1=>?_;refine Qj λg1=>?_
  .exact a1.elim
  have h:d.ps.n<=p:=by have:=qdf b0;omega
  refine⟨_,last h,rfl,rfl,_,QKL d E w0 ac body (QD l) l f,?_⟩
  rotate_left
  all_goals first|((with_reducible show _=true);(first|(refine KA.2 ?_;repeat' first|exact tv|with_reducible exact qRr|exact rfl|refine aI ?_ ?_)|(simp;omega)))|(repeat' first|with_reducible refine QP ?_ ?_|exact tv|with_reducible exact qRr|with_reducible exact hw|exact rfl|refine aI ?_ ?_)
 | stop s'=>
  obtain⟨f',hq1⟩:=s';simp only[Qb.isGo,Qb.s,Bool.true_eq_false,Bool.false_eq_true];have et:=QLY QQ d E w0 ac body (QD l) (QD l) l f p False True f' g0;refine Qg et ?_;clear et;refine QF (λb0=>?_) (λb0=>?_);have h:p<d.ps.n:=by have:=qdt b0;omega
  have hw:=wp h
  iterate 2 (refine QG ?_ ?_;rotate_left)
  refine QF (λb1=>?_) (λb1=>?_);have hub:KK l p=true:=Ve.symm.trans b1;refine⟨(p+1,⟨f,hq0⟩),h,by show d.ps.n-(p+1)<d.ps.n-p;omega,next h (hpu hub),rfl,rfl,_,QQP d E w0 ac body (QD l) l f p (p+1),?_⟩
  rotate_left
  have hub:KK l p=false:=Ve.symm.trans b1;have hu0:QD l p 0=0:=by unfold QD;rw[hub];rfl
  refine QG ?_ ?_;rotate_left
  iterate 127 refine Qq (by first|exact tv|exact⟨h,hu0⟩|with_reducible exact qRr|exact rfl) ?_
  refine Kf ?_ ?_;refine Qh λa0=>?_;refine Qj λg0=>?_
  .exact a0.elim
  refine Qh λa1=>?_;refine Qj λg1=>?_;refine⟨_,stop h ((hpz hub).trans hr),rfl,rfl,_,QhX d E w0 ac body (QD l) l f',?_⟩
  rotate_left
  have h:d.ps.n<=p:=by have:=qdf b0;omega
  refine⟨_,last h,rfl,rfl,_,QKL d E w0 ac body (QD l) l f,?_⟩
  rotate_left
  all_goals first|((with_reducible show _=true);(first|(refine KA.2 ?_;repeat' first|exact tv|with_reducible exact qRr|exact rfl|refine aI ?_ ?_)|(simp;omega)))|(repeat' first|with_reducible refine QP ?_ ?_|exact tv|with_reducible exact qRr|with_reducible exact hw|exact rfl|refine aI ?_ ?_)
noncomputable abbrev VS:Code:=(QN f43 0).1
noncomputable abbrev VX:Code:=(QN f43 0).2
theorem QKw(l:List Lay)(f:List Jn)(f':List Jn):(faU d E w0 ac body u l f f').Ok:=by
 refine⟨(by decide:488<=520),rfl,rfl,?_,rfl,λ_ _=>rfl,λnid h=>?_⟩
 .intro q hq;simp only[UC.po,faU,faW,rwY,rwU,rwJ,List.mem_cons,List.not_mem_nil,or_false]at hq;rcases hq with rfl|rfl|rfl|rfl|rfl|rfl|rfl|rfl|rfl|rfl|rfl<;>refine⟨rfl,rfl,rfl,?_⟩<;>first|exact λ_=>rfl|exact λh=>absurd (show 520<488 from h) (by decide)|exact λh=>absurd (show 521<488 from h) (by decide)|exact λh=>absurd (show 522<488 from h) (by decide)|exact λh=>absurd (show 523<488 from h) (by decide)
 .have e0:=KZ 488 520 0 nid (by decide)
  have e1:=KZ 488 520 1 nid (by decide)
  have e2:=KZ 488 520 2 nid (by decide)
  simp only[UC.po,faU,faW,rwY,rwU,rwJ,Gd,faT,KX,Qm.val,List.cons_append,List.nil_append,List.map_cons,List.map_nil,Blk.mapId,AV.mapId,AV.mapIdL,Nat.add_zero]at e0 e1 e2 ⊢;rw[e0,e1,e2];rfl
theorem QNo(l:List Lay)(f:List Jn)(f':List Jn):(faV d E w0 ac body u l f f').Ok:=by
 refine⟨(by decide:488<=520),rfl,rfl,?_,rfl,λ_ _=>rfl,λnid h=>?_⟩
 .intro q hq;simp only[UC.po,faV,faW,rwY,rwU,rwJ,List.mem_cons,List.not_mem_nil,or_false]at hq;rcases hq with rfl|rfl|rfl|rfl|rfl|rfl|rfl|rfl|rfl|rfl|rfl<;>refine⟨rfl,rfl,rfl,?_⟩<;>first|exact λ_=>rfl|exact λh=>absurd (show 520<488 from h) (by decide)|exact λh=>absurd (show 521<488 from h) (by decide)|exact λh=>absurd (show 522<488 from h) (by decide)|exact λh=>absurd (show 523<488 from h) (by decide)
 .have e0:=KZ 488 520 0 nid (by decide)
  have e1:=KZ 488 520 1 nid (by decide)
  have e2:=KZ 488 520 2 nid (by decide)
  simp only[UC.po,faV,faW,rwY,rwU,rwJ,Gd,faT,KX,Qm.val,List.cons_append,List.nil_append,List.map_cons,List.map_nil,Blk.mapId,AV.mapId,AV.mapIdL,Nat.add_zero]at e0 e1 e2 ⊢;rw[e0,e1,e2];rfl
