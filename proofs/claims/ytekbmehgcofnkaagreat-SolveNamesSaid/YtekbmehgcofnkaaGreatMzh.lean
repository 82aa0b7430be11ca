/- - -/
import Derived.Test.YtekbmehgcofnkaaGreatMzg
open Go.Proofs.Tryz
open Go.IntKind (i64)
set_option maxRecDepth 100000
namespace Go.Proofs.YtekbmehgcofnkaaGreat
open Go.SX Go.SX.Told
variable (d:Puz)(E:ECt)(C:Cap)(K:Rw Pt)(ac body:Code)(l2:List Lay)(u':Nat->Nat->Int)(rec:List Lay->Unit->Qb Unit)(p:Nat)(l:List Lay)(u u2:Nat->Nat->Int)(t:Nat)(tn:Int)
def haT:List AV:=[.ptr 200 0 0,(.slz 216 0 K.n C),.tup [],.tup [],.ptr 232 0 0,.ptr 200 0 0,(.slz 216 0 K.n C),.fn (.func 102) [.ptr 256 0 0,.ptr 264 0 0],.tup []]
def QHc:List AV:=[.ptr 256 0 0,.ptr 304 0 0,.ptr 368 0 0,.ptr 264 0 0,.ptr 384 0 0]
def haR:List (Nat×Blk):=
 [(384,.cellsR 0 31 [.fn (.func 103) QHc]),(304,.cellsR 0 105 [.yld 297]),(264,.cellsR 0 96 [(.slz 216 0 K.n C)]),(256,.cellsR 0 90 [.ptr 200 0 0])]++Qm.blk 216 K++Qm.blk 0 d.ps
def haW(ls:LoopState)(pe:Option Code)(v:Bool)(d:Puz)(E:ECt)(C:Cap)(K:Rw Pt)(ac body:Code)(u:Nat->Nat->Int)(l:List Lay)(a w:Nat):List (Nat×Blk):=
 [(200,.cells 0 152 (KX d++[.map 201,.slz a 0 l.length (.of 0)])),(201,.mp E.1 E.2),rwY a l,(368,.cells 0 114 [.slz w 0 d.ps.n (.of 0)]),rwU w d u,(297,.lp ls pe (haT C K) #[8] ac body),(232,.cells 0 4 [.bool true v])]
def haS:List (Nat×AV):=[(0,.ptr 256 0 0),(1,.ptr 304 0 0),(2,.ptr 368 0 0),(3,.ptr 264 0 0),(4,.ptr 384 0 0)]
def ze(l:List Lay):JSt:=⟨5,haS,haW .ready none false d E C K ac body u l 400 408++haR d C K,416⟩
def WD(_:List Lay)(_:Unit):Qb Unit := .stop ()
def haU(l:List Lay)  :UC:=
 ⟨392,ze d E C K ac body u l,λ_=>.bool false true,λm=>haW .ready none false d E C K ac body u l m (m+1)⟩
def haV(l:List Lay)  :UC:=
 ⟨392,ze d E C K ac body u l,λ_=>.bool false false,λm=>haW .done (some .ret) true d E C K ac body u l m (m+1)⟩
def Zj:List Nat:=[200,201,368,297,232]
def QJu(n:Nat)(p:Nat):List (Nat×AV):=haS++[(33,.int false .i64 n),(34,.int false .i64 p)]
def QYz(n:Nat)(p:Nat)(tn:Int)(t:Nat):List (Nat×AV):=QJu n p++[(6,.int false .i64 p),(43,.int false .i64 tn),(44,.int false .i64 t)]
def GP(l:List Lay)(p:Nat):JSt:=⟨101,QJu d.ps.n p,haW .ready none false d E C K ac body u l 424 432++haR d C K,440⟩
def vW(l:List Lay)(p:Nat)(tn:Int)(t:Nat):JSt:=⟨101,QYz d.ps.n p tn t,haW .ready none false d E C K ac body u l 424 432++haR d C K,440⟩
def vp(l:List Lay):JSt:=⟨101,[],haW .ready none false d E C K ac body u l 424 432,440⟩
def QBz(l:List Lay)(p:Nat):JSt:=⟨101,QJu d.ps.n p,haW .ready none false d E C K ac body u l 424 432++haR d C K,440⟩
def haF(l:List Lay):JSt:=⟨101,[(5,.bool false false)],haW .done (some .ret) true d E C K ac body u l 424 432,440⟩
def QLw:Ex->List Nat
 | .normal=>[0,1,2,3,4,33,34]
 | .exit _=>[]
 | .ret=>[5]
def QIw:Ex->List Nat
 | .normal=>[0,1,2,3,4,33,34,6,43,44]
 | .exit _=>[0,1,2,3,4,33,34]
 | .ret=>[5]
def QA7(pb1 pb2:List Prop->Bool)(d:Puz)(E:ECt)(C:Cap)(K:Rw Pt)(l:List Lay)(x:Lay)(v:Bool)(U:UC):Tab:=Qa (Qa QT 105 (KG pb1 (myU d E l x v))) 103 (KG pb2 U)
noncomputable abbrev waK:List AV:=[.ptr 256 0 0,.ptr 304 0 0,.ptr 368 0 0,.ptr 264 0 0,.ptr 384 0 0]
noncomputable abbrev GW:List AV:=
  (.nilp::.ptr 101 0 0::List.append (waK) ((wbw d p t tn)))
noncomputable abbrev jo:Nat×Blk:=
  (256,.cellsR 0 90 [.ptr 200 0 0])
noncomputable abbrev vP:Nat×Blk:=
  (264,.cellsR 0 96 [.slz 216 0 K.n C])
noncomputable abbrev QD3:Nat×Blk:=
  (384,.cellsR 0 31 [.fn (Fn.func 103) (waK)])
noncomputable abbrev vV:Nat×Blk:=
  (0,.frz (List.append (waa) ((List.append (waA) ((List.append (waZ) ([.int .i64])))))) d.ps.n λi=>QA.enc (d.ps.get i))
noncomputable abbrev vf:Nat×Blk:=
  (216,.frz [.int .i64,.int .i64,.int .i64] K.n λi=>QA.enc (K.get i))
noncomputable abbrev wbj(C:Cap)(K:Rw Pt)(ac:Code)(body:Code):List (Nat×Blk):=[(297,.lp LoopState.ready none (haT C K) (Array.mk [8]) ac body),(232,.cells 0 4 [.bool true false])]
noncomputable abbrev Zy(E:ECt)(K:Rw Pt)(ac:Code)(body:Code)(d:Puz)(l:List Lay)(u:Nat->Nat->Int):List (Nat×Blk):=
  ((200,.cells 0 152 (List.append (waf d) ([.map 201,.slz 424 0 l.length cO])))::(201,.mp E.1 E.2)::(368,.cells 0 114 [.slz
  432 0 d.ps.n cO])::List.append (wbj C K ac body) ([jo,(304,.cellsR 0 105 [.yld 297]),(vP C
  K),QD3,(vV d),(424,.rowz true 49 kB l.length λi=>QA.enc (l.getD i (Lay.mk (0:Int) (0:Int)))),(432,.rowz true 4 [CK.bool] d.ps.n u),(vf
  K)]))
abbrev QJ9(d:Puz)(l:List Lay)(p:Nat)(t:Nat):List Prop:=
  ([0=0,0=0,(p:Int)=(p:Int),(t:Int)=(t:Int)]++wab d++(([cO=cO,0=0,l.length=l.length,cO
  = cO]++wag l++[E.1=E.1,E.2=E.2])++wae d))
abbrev waw(l:List Lay)(l2:List Lay)(p:Nat)(t:Nat):List Prop:=[l2.length<=l.length+1,QB 2 l2.length (Q9 l.length (λi=>QA.enc (l.getD i (Lay.mk (0:Int) (0:Int)))) (KI [[.int
  false .i64 (p:Int),vi (t:Int)]] 0)) λi=>QA.enc (l2.getD i (Lay.mk (0:Int) (0:Int)))]
abbrev wa4(K:Rw Pt):List Prop:=[K.n<=K.n,QB 3 K.n (λi=>QA.enc (K.get i)) λi=>QA.enc (K.get i)]
abbrev QKE(E:ECt)(K:Rw Pt)(ac:Code)(body:Code)(d:Puz)(l:List Lay)(l2:List Lay)(p:Nat)(t:Nat)(u:Nat->Nat->Int)(u2:Nat->Nat->Int):List Prop:=
  ((wbo++[0=0])++wab d++((([cO=cO,0=0,l.length+1=l2.length,cO=cO,E.1=E.1,E.2=E.2]++waw l l2 p t++(wbH d++[QB 1 d.ps.n (λi=>bif decide (i=p)then Kg [.bool true true] 0 (u ((p:Int).toNat+0))else u i) u2]))++wai++((([Array.mk [8]=Array.mk [8],ac=ac,body=body,0=0,0=0,0=0,K.n=K.n,C=C,0=0,0=0,0=0,0=0,0=0,K.n=K.n,C=C]++wbX++[false=false,Fn.func 103=Fn.func 103])++wbo++[0=0,0=0,K.n=K.n,C=C,0=0,0=0])++wa4 K))++wae d))
noncomputable abbrev HP:Nat×Blk:=
  (200,.cells 0 152 (List.append (waf d) ([.map 201,.slz 752 0 (i64.wrap ((l2.length:Int)-1)).toNat cO])))
noncomputable abbrev zy:Nat×Blk:=
  (368,.cells 0 114 [.slz 753 0 d.ps.n cO])
noncomputable abbrev zK:Nat×Blk:=
  (752,.rowz true 49 kB l2.length λi=>QA.enc (l2.getD i (Lay.mk (0:Int) (0:Int))))
noncomputable abbrev zq:Nat×Blk:=
  (753,.rowz true 4 [CK.bool] d.ps.n λi=>bif decide (i=p)then Kg [.bool true false] 0 (u2 ((p:Int).toNat+0))else u2 i)
noncomputable abbrev QUD:List AV:=
  (.ptr 2 0 0::.ptr 101 0 0::List.append (waK) ([vi (d.ps.n:Int),vi (p:Int)]))
theorem QZv(pb1 pb2:List Prop->Bool)(d:Puz)(E:ECt)(C:Cap)(K:Rw Pt)(ac body:Code)(u u2:Nat->Nat->Int)(l l2:List Lay)(v:Bool)(p:Nat)(tn:Int)(t:Nat)(g0:Nat->Value):exec (mkE prog (QA7 pb1 pb2 d E C K l ⟨p,t⟩ v (haU d E C K ac body u2 l2))) (hnd (mkE prog (QA7 pb1 pb2 d E C K l ⟨p,t⟩ v (haU d E C K ac body u2 l2))) 0) (QZ (QI f103 0)) (JSt.inst (vW d E C K ac body u l p tn t) g0) (Q6 Zj QIw) = .br (decide ((t:Int)<tn)) (.need (decide (K.n<=K.n)&&(true&&(true&&true))&&decide (K.n<=1000)) (.br (!Qr K (l.length:Int) (Lay.mk (p:Int) (t:Int))) (.leaf (.tup (GW d p t tn)) ((Zy C E K ac body d l u))) (.need (pb1 ((QJ9 E d l p t))) (.br (!v) (.leaf (.tup (GW d p t tn)) ((Zy C E K ac body d l u))) (.need (decide ((0:Int)<=(p:Int)/\(p:Int)<(d.ps.n:Int))&&decide (d.ps.n<=d.ps.n)) (.need (decide (p<d.ps.n)) (.need (decide (l.length<=l.length)&&(true&&decide ((l.length+1+(l.length+1) / 4+192)*16<=281474976710656/\l.length+1<=9223372036854775807))) (.need (pb2 ((QKE C E K ac body d l l2 p t u u2))) (.need (decide ((0:Int)<=i64.wrap ((l2.length:Int)-1)/\(i64.wrap ((l2.length:Int)-1)).toNat<=l2.length-0)) (.need (decide ((0:Int)<=(p:Int)/\(p:Int)<(d.ps.n:Int))&&decide (d.ps.n<=d.ps.n)) (.need (decide (p<d.ps.n)) (.br (false) (.leaf (.tup (wbK)) (((HP d l2)::(201,.mp E.1 E.2)::(zy d)::List.append (wbj C K ac body) ([(vV d),(zK l2),(zq d p u2),(vf K),jo,(vP C K)])))) (.leaf (.tup (GW d p t tn)) (((HP d l2)::(201,.mp E.1 E.2)::(zy d)::List.append (wbj C K ac body) ([jo,(304,.cellsR 0 105 [.yld 297]),(vP C K),QD3,(vV d),(zK l2),(zq d p u2),(vf K)])))))))))))))))) (.leaf (.tup (QUD d p)) ((Zy C E K ac body d l u))):=by kernel_rfl
noncomputable abbrev QHX:List AV:=
  (List.append (waK) ((vi (d.ps.n:Int)::wbN p t tn)))
abbrev wbe(C:Cap)(K:Rw Pt):List Prop:=[K.n=K.n,C=C,Fn.func (102:FuncId)=Fn.func (102:FuncId)]
abbrev QR8(E:ECt)(K:Rw Pt)(ac:Code)(body:Code)(d:Puz)(l:List Lay)(p:Nat)(t:Nat)(t':Nat)(tn:Int)(u:Nat->Nat->Int):List Prop:=
  (((wbo++[0=0])++waH d p t t' tn)++wab d++((([cO=cO,0=0]++wbp E l)++wag l++((wbH d++[QB 1 d.ps.n u u])++wai++(([Array.mk [8]=Array.mk [(8:Tmp)],ac=ac,body=body,0=0,0 =
  0,0=0,K.n=K.n,C=C,0=0,0=0,0=0,0=0,0=0]++wbe C K++([0=0,0=0,0=0,0=0,false=false,Fn.func
  103=Fn.func (103:FuncId)]++wbo++[0=0,0=0,K.n=K.n,C=C,0=0,0=0]))++wa4 K)))++wae d))
theorem QNh(l:List Lay)(p:Nat)(tn:Int)(t t':Nat):QE 416 (QHX d p t tn) ((Zy C E K ac body d l u)) (vW d E C K ac body u l p tn t')=(some (QR8 C E K ac body d l p t t' tn u)):=by kernel_rfl
theorem QRp(l:List Lay)(p:Nat)(tn:Int)(t t':Nat):QE 416 (QHX d p t tn) ((Zy C E K ac body d l u)) (vW d E C K ac body u l p tn t')=(some (QR8 C E K ac body d l p t t' tn u)):=by kernel_rfl
abbrev XL:List Prop:=
  [0=0,0=0,0=0,0=0]
abbrev QOi(d:Puz)(l:List Lay)(l2:List Lay)(p:Nat)(u2:Nat->Nat->Int)(u3:Nat->Nat->Int):List Prop:=
  ([d.pK.dK.lo=d.pK.dK.lo,d.pK.dK.hi=d.pK.dK.hi,d.wide=d.wide,d.high=d.high,d.turn=d.turn,0=0,d.ps.n=d.ps.n,cO=cO,0=0,(i64.wrap ((l2.length:Int)-1)).toNat=l.length,cO=cO]++waN E l l2++(wbH d++[QB 1 d.ps.n (λi=>bif decide
  (i=p)then Kg [.bool true false] 0 (u2 ((p:Int).toNat+0))else u2 i) u3]))
abbrev QJf:List Prop:=
  [Array.mk [8]=Array.mk [(8:Tmp)],ac=ac,body=body,0=0,0=0,0=0,K.n=K.n,C=C]
abbrev QPS(d:Puz):List Prop:=
  (([0=0,0=0,K.n=K.n,C=C,0=0,0=0]++wa4 K)++wae d)
theorem QhC(u u2 u3:Nat->Nat->Int)(l l2:List Lay)(p:Nat)(tn:Int)(t t':Nat):QE 416 (QHX d p t tn) (((HP d l2)::(201,.mp E.1 E.2)::(zy d)::List.append (wbj C K ac body) ([jo,(304,.cellsR 0 105 [.yld 297]),(vP C K),QD3,(vV d),(zK l2),(zq d p u2),(vf K)]))) (vW d E C K ac body u3 l p tn t')=(some (XL++XL++([0=0,0=0]++waH d p t t' tn++(waY d++[d.pK.oK=d.pK.oK]))++(QOi E d l l2 p u2 u3)++(wai)++(QJf C K ac body)++XL++([0=0]++wbe C K)++XL++[false=false,Fn.func 103=Fn.func (103:FuncId)]++XL++XL++[0=0]++(QPS C K d))):=by kernel_rfl
theorem QLS(l:List Lay)(p:Nat):QE 416 (List.append (waK) ([vi (d.ps.n:Int),vi (p:Int)])) ((Zy C E K ac body d l u)) (QBz d E C K ac body u l p)=(some (XL++XL++(([0=0,0=0]++wbq d p)++wab d++(([cO=cO,0=0]++wbp E l)++wag l++((wbH d++[QB 1 d.ps.n u u])++wai)))++(QJf C K ac body)++XL++([0=0]++wbe C K)++XL++[false=false,Fn.func 103=Fn.func (103:FuncId)]++XL++XL++[0=0]++(QPS C K d))):=by kernel_rfl
noncomputable abbrev waW(C:Cap)(K:Rw Pt)(ac:Code)(body:Code):List (Nat×Blk):=[(297,.lp LoopState.done (some Code.ret) (haT C K) (Array.mk [8]) ac body),(232,.cells 0 4 [.bool true true])]
theorem Qhd(pb1 pb2:List Prop->Bool)(d:Puz)(E:ECt)(C:Cap)(K:Rw Pt)(ac body:Code)(u u2:Nat->Nat->Int)(l l2:List Lay)(v:Bool)(p:Nat)(tn:Int)(t:Nat)(g0:Nat->Value):exec (mkE prog (QA7 pb1 pb2 d E C K l ⟨p,t⟩ v (haV d E C K ac body u2 l2))) (hnd (mkE prog (QA7 pb1 pb2 d E C K l ⟨p,t⟩ v (haV d E C K ac body u2 l2))) 0) (QZ (QI f103 0)) (JSt.inst (vW d E C K ac body u l p tn t) g0) (Q6 Zj QIw) = .br (decide ((t:Int)<tn)) (.need (decide (K.n<=K.n)&&(true&&(true&&true))&&decide (K.n<=1000)) (.br (!Qr K (l.length:Int) (Lay.mk (p:Int) (t:Int))) (.leaf (.tup (GW d p t tn)) ((Zy C E K ac body d l u))) (.need (pb1 ((QJ9 E d l p t))) (.br (!v) (.leaf (.tup (GW d p t tn)) ((Zy C E K ac body d l u))) (.need (decide ((0:Int)<=(p:Int)/\(p:Int)<(d.ps.n:Int))&&decide (d.ps.n<=d.ps.n)) (.need (decide (p<d.ps.n)) (.need (decide (l.length<=l.length)&&(true&&decide ((l.length+1+(l.length+1) / 4+192)*16<=281474976710656/\l.length+1<=9223372036854775807))) (.need (pb2 ((QKE C E K ac body d l l2 p t u u2))) (.need (decide ((0:Int)<=i64.wrap ((l2.length:Int)-1)/\(i64.wrap ((l2.length:Int)-1)).toNat<=l2.length-0)) (.need (decide ((0:Int)<=(p:Int)/\(p:Int)<(d.ps.n:Int))&&decide (d.ps.n<=d.ps.n)) (.need (decide (p<d.ps.n)) (.br (true) (.leaf (.tup (wbK)) (((HP d l2)::(201,.mp E.1 E.2)::(zy d)::List.append (waW C K ac body) ([(vV d),(zK l2),(zq d p u2),(vf K),jo,(vP C K)])))) (.leaf (.tup (GW d p t tn)) (((HP d l2)::(201,.mp E.1 E.2)::(zy d)::List.append (waW C K ac body) ([jo,(304,.cellsR 0 105 [.yld 297]),(vP C K),QD3,(vV d),(zK l2),(zq d p u2),(vf K)])))))))))))))))) (.leaf (.tup (QUD d p)) ((Zy C E K ac body d l u))):=by kernel_rfl
theorem QZE(u2 u3:Nat->Nat->Int)(l l2:List Lay)(p:Nat):QE 416 [.bool true false] (((HP d l2)::(201,.mp E.1 E.2)::(zy d)::List.append (waW C K ac body) ([(vV d),(zK l2),(zq d p u2),(vf K),jo,(vP C K)]))) (haF d E C K ac body u3 l)=(some (([false=false]++waY d++[d.pK.oK=d.pK.oK])++(QOi E d l l2 p u2 u3)++[LoopState.done=LoopState.done,some Code.ret=some Code.ret]++(QJf C K ac body)++XL++([0=0]++wbe C K)++XL++[true=true])):=by kernel_rfl
def Wm(pb:List Prop->Bool)(d:Puz)(n:Nat)(a:Int):Tab:=Qa QT 52 (KG pb (tnU d n a))
abbrev QDc(P:Program)(pb:List Prop->Bool)(d:Puz)(E:ECt)(C:Cap)(K:Rw Pt)(ac body:Code)(u:Nat->Nat->Int)(l:List Lay)(p:Nat)(X:List (Prop×Ex×JSt)):Hnd:={ hnd (mkE P (Wm pb d l.length p)) 0 with loop:=λ_=>JP (p<d.ps.n/\u p 0=0) (KH 416 Zj (vW d E C K ac body u l p (tnV d p) (0:Nat)) X) }
noncomputable abbrev QQt:List AV:=
  (.nilp::.ptr 101 0 0::List.append (waK) ([vi (d.ps.n:Int),vi (i64.wrap ((p:Int)+1))]))
noncomputable abbrev YJ:Nat×Blk:=
  (200,.cells 0 152 (List.append (waf d) ([.map 201,.slz 424 0 l.length cO])))
noncomputable abbrev Xo:Nat×Blk:=
  (368,.cells 0 114 [.slz 432 0 d.ps.n cO])
noncomputable abbrev Hh:Nat×Blk:=
  (297,.lp LoopState.ready none (haT C K) (Array.mk [8]) ac body)
noncomputable abbrev ji:Nat×Blk:=
  (256,.cellsR 0 90 [.ptr 200 0 0])
noncomputable abbrev vF:Nat×Blk:=
  (264,.cellsR 0 96 [.slz 216 0 K.n C])
noncomputable abbrev QDR:Nat×Blk:=
  (384,.cellsR 0 31 [.fn (Fn.func 103) (waK)])
noncomputable abbrev q7:Nat×Blk:=
  (0,.frz (List.append (waa) ((List.append (waA) ((List.append (waZ) ([.int .i64])))))) d.ps.n λi=>QA.enc (d.ps.get i))
noncomputable abbrev Xv:Nat×Blk:=
  (424,.rowz true 49 kB l.length λi=>QA.enc (l.getD i (Lay.mk (0:Int) (0:Int))))
noncomputable abbrev jM:Nat×Blk:=
  (216,.frz [.int .i64,.int .i64,.int .i64] K.n λi=>QA.enc (K.get i))
theorem QSM(pb:List Prop->Bool)(d:Puz)(E:ECt)(C:Cap)(K:Rw Pt)(ac body:Code)(u u':Nat->Nat->Int)(l:List Lay)(p:Nat)(A B:Prop)(g0:Nat->Value):exec (mkE prog (Wm pb d l.length p)) (QDc prog pb d E C K ac body u l p [(A,.exit 2,QBz d E C K ac body u' l p),(B,.ret,haF d E C K ac body u' l)]) (QI f103 0) (JSt.inst (GP d E C K ac body u l p) g0) (Q6 Zj QLw) = .br (decide ((p:Int)<(d.ps.n:Int))) (.need (decide ((0:Int)<=(p:Int)/\(p:Int)<(d.ps.n:Int))&&decide (d.ps.n<=d.ps.n)) (.need (decide (p<d.ps.n)) (.br (decide (u ((p:Int).toNat+0) 0=1)) (.leaf (.tup (QQt d p)) ([(YJ d l),(201,.mp E.1 E.2),(Xo d), (Hh C K ac body),(232,.cells 0 4 [.bool true false]),ji,(304,.cellsR 0 105 [.yld 297]),(vF C K),QDR,(q7 d),(Xv l),(432,.rowz true 4 [CK.bool] d.ps.n u),(jM K)])) (.need (pb (([0=0,0=0,(p:Int)=(p:Int)]++wab d++([cO=cO,0=0,l.length=l.length,cO=cO]++wae d)))) (.ak [p<d.ps.n/\u p 0=0] (.ak (rz 10) (.ak ((wbq d p++[(p:Int)=(p:Int),tnV d (p:Int)=tnV d (p:Int),(0:Int)=0])++wab d++(([cO=cO,0=0]++wbp E l)++wag l++((wbH d++[QB 1 d.ps.n u u])++wai++([Array.mk [(8:Tmp)]=Array.mk [(8:Tmp)],ac=ac,body=body,0=0,0=0,0=0,K.n=K.n,C=C,0=0,0=0,0=0,0=0,0=0]++wbe C K++[0=0,0=0,0=0,0=0,false=false,Fn.func (103:FuncId)=Fn.func (103:FuncId)])))) (.ak (rz 11) (.ak (([K.n=K.n,C=C,0=0,0=0]++wa4 K)++wae d) (.both (.asm (A) (.all (λ(g0:Nat->Value)=>.leaf (.tup (QQt d p)) ([(YJ d l),(201,.mp E.1 E.2),(Xo d),(Hh C K ac body),(232,.cells 0 4 [.bool true false]),ji,(304,.cellsR 0 105 [.yld 297]),(vF C K),QDR,(q7 d),(Xv l),(432,.rowz true 4 [CK.bool] d.ps.n u'),(jM K)])))) (.asm (B) (.all (λ(g1:Nat->Value)=>.leaf (.tup [.nili,.ptr 101 0 0, .bool false false]) (((YJ d l)::(201,.mp E.1 E.2)::(Xo d)::List.append (waW C K ac body) ([(Xv l),(432,.rowz true 4 [CK.bool] d.ps.n u')])))))))))))))))) (.leaf (.tup [.ptr 0 0 0,.ptr 101 0 0]) ([(YJ d l),(201,.mp E.1 E.2),(Xo d),(Hh C K ac body),(232,.cells 0 4 [.bool true false]),(q7 d),(Xv l),(432,.rowz true 4 [CK.bool] d.ps.n u),(jM K), ji,(vF C K)])):=by kernel_rfl
noncomputable abbrev QKx:List AV:=
  (List.append (waK) ([vi (d.ps.n:Int),vi (i64.wrap ((p:Int)+1))]))
abbrev Jc:List Prop:=
  [0=0,0=0,0=0,0=0]
abbrev vS(d:Puz)(l:List Lay):List Prop:=
  (([d.pK.aK=d.pK.aK]++waD d++([0 =
  0,d.ps.n=d.ps.n,cO=cO,0=0]++wbp E l))++wag l++[0=0,d.ps.n=d.ps.n,cO=cO])
abbrev QGr:List Prop:=
  (wai++[Array.mk [8]=Array.mk [(8:Tmp)],ac=ac])
abbrev WK:List Prop:=
  [0=0,0=0,0=0,K.n=K.n,C=C]
abbrev jm:List Prop:=
  ([0=0]++wbe C K)
abbrev QNW(d:Puz):List Prop:=
  (([0=0,0=0]++wa4 K)++wae d)
theorem QQT(l:List Lay)(p p':Nat):QE 416 (QKx d p) ([(YJ d l),(201,.mp E.1 E.2),(Xo d),(Hh C K ac body),(232,.cells 0 4 [.bool true false]),ji,(304,.cellsR 0 105 [.yld 297]),(vF C K),QDR, (q7 d),(Xv l),(432,.rowz true 4 [CK.bool] d.ps.n u),(jM K)]) (GP d E C K ac body u l p')=(some (Jc++Jc++([0=0,0=0]++wbI d p p')++(vS E d l)++[d.ps.n<=d.ps.n,QB 1 d.ps.n u u]++(QGr ac)++[body=body]++(WK C K)++Jc++(jm C K)++Jc++[false=false,Fn.func 103=Fn.func (103:FuncId)]++Jc++Jc++(WK C K)++(QNW K d))):=by kernel_rfl
theorem Qh9(p p':Nat):QE 416 (QKx d p) ([(YJ d l),(201,.mp E.1 E.2),(Xo d),(Hh C K ac body),(232,.cells 0 4 [.bool true false]),ji,(304,.cellsR 0 105 [.yld 297]),(vF C K),QDR, (q7 d),(Xv l),(432,.rowz true 4 [CK.bool] d.ps.n u'),(jM K)]) (GP d E C K ac body u' l p')=(some (Jc++Jc++([0=0,0=0]++wbI d p p')++(vS E d l)++[d.ps.n<=d.ps.n,QB 1 d.ps.n u' u']++(QGr ac)++[body=body]++(WK C K)++Jc++(jm C K)++Jc++[false=false,Fn.func 103=Fn.func (103:FuncId)]++Jc++Jc++(WK C K)++(QNW K d))):=by kernel_rfl
theorem QZD :QE 416 [.bool false false] (((YJ d l)::(201,.mp E.1 E.2)::(Xo d)::List.append (waW C K ac body) ([(Xv l),(432,.rowz true 4 [CK.bool] d.ps.n u')]))) (haF d E C K ac body u' l)=(some ([false=false,d.pK.length=d.pK.length]++(vS E d l)++[d.ps.n<=d.ps.n, QB 1 d.ps.n u' u',LoopState.done=LoopState.done,some Code.ret=some Code.ret,Array.mk [8]=Array.mk [(8:Tmp)],ac=ac,body=body]++(WK C K)++Jc++(jm C K)++Jc++[true=true])):=by kernel_rfl
theorem QTV(l:List Lay):QE 416 [] ([(YJ d l),(201,.mp E.1 E.2),(Xo d),(Hh C K ac body),(232,.cells 0 4 [.bool true false]),(q7 d),(Xv l),(432,.rowz true 4 [CK.bool] d.ps.n u),(jM K),ji,(vF C K)]) (vp d E C K ac body u l)=(some ([d.pK.length=d.pK.length]++(vS E d l)++[d.ps.n<=d.ps.n,QB 1 d.ps.n u u]++(QGr ac)++[body=body] ++ (WK C K)++Jc++(jm C K)++Jc++[false=false])):=by kernel_rfl
abbrev haN(P : Program)(T : Tab): Hnd := { hnd (mkE P T) 2 with loop := λ_ _ _=>.fail "a loop" }
abbrev haX(P:Program)(J:JSt)(X:List (Prop×Ex×JSt)):Hnd:={ hnd (mkE P QT) 2 with loop:=λ_=>KH 416 Zj J X }
noncomputable abbrev QF0:Nat×Blk:=
  (297,.lp LoopState.done (some Code.ret) (haT C K) (Array.mk [8]) (QN f53 0).1 (QN f53 0).2)
noncomputable abbrev QH4(E:ECt)(K:Rw Pt)(d:Puz)(l:List Lay)(u:Nat->Nat->Int):List (Nat×Blk):=
  [(200,.cells 0 152 (List.append (waf d) ([.map 201,.slz 400 0 l.length cO]))),(201,.mp E.1 E.2),(368,.cells 0 114 [.slz
  408 0 d.ps.n cO]),(QF0 C K),(232,.cells 0 4 [.bool true true]),(q7 d),(400,.rowz true 49 kB l.length λi=>QA.enc (l.getD i (Lay.mk (0 :
  Int) (0:Int)))),(408,.rowz true 4 [CK.bool] d.ps.n u),(jM K),ji,(vF C K)]
theorem QYT(l:List Lay):(Vt (mkE prog QT) (haN prog QT) f103 QHc (ze d E C K (QN f53 0).1 (QN f53 0).2 u l).hp 416 λv h _=>ZC Zj v h) = .br
  ((l.length : Int) == (d.ps.n : Int)) (.leaf (.bool true false) ((QH4 C E K d l u))) (.fail ("a loop")) := by kernel_rfl
abbrev wbE:List Prop:=[(QN f53 0).1=(QN f53 0).1,(QN f53 0).2=(QN f53 0).2]
theorem QTR(u u':Nat->Nat->Int)(l:List Lay)(A B:Prop):(Vt (mkE prog QT) (haX prog (GP d E C K (QN f53 0).1 (QN f53 0).2 u l 0) [(A,.exit 0,vp d E C K (QN f53 0).1 (QN f53 0).2 u' l),(B,.ret,haF d E C K (QN f53 0).1 (QN f53 0).2 u' l)]) f103 QHc (ze d E C K (QN f53 0).1 (QN f53 0).2 u l).hp 416 λv h _=>ZC Zj v h) = .br ((l.length:Int)==(d.ps.n:Int)) (.leaf (.bool true false) ((QH4 C E K d l u))) (.ak (rz 10) (.ak ([(d.ps.n:Int)=(d.ps.n:Int),(0:Int)=0]++wab d++(([cO=cO,0=0]++wbp E l)++wag l++((wbH d++[QB 1 d.ps.n u u])++wai++(([Array.mk [(8:Tmp)]=Array.mk [(8:Tmp)]]++wbE++[0=0,0=0,0=0,K.n=K.n,C=C,0=0,0=0,0=0,0=0,0=0])++wbe C K++[0=0,0=0,0=0,0=0,false=false,Fn.func (103:FuncId)=Fn.func (103:FuncId)])))) (.ak (rz 11) (.ak (([K.n=K.n,C=C,0=0,0=0]++wa4 K)++wae d) (.both (.asm (A) (.all (λ(g0:Nat->Value)=>.leaf (.bool true true) ([(YJ d l),(201,.mp E.1 E.2),(Xo d),(297,.lp LoopState.ready none (haT C K) (Array.mk [8]) (QN f53 0).1 (QN f53 0).2),(232,.cells 0 4 [.bool true false]),(Xv l),(432,.rowz true 4 [CK.bool] d.ps.n u')])))) (.asm (B) (.all (λ(g1:Nat->Value)=>.leaf (.bool false false) ([(YJ d l),(201,.mp E.1 E.2),(Xo d), (QF0 C K),(232,.cells 0 4 [.bool true true]),(Xv l),(432,.rowz true 4 [CK.bool] d.ps.n u')]))))))))):=by kernel_rfl
abbrev QLj:List Prop:=
  ([LoopState.done=LoopState.done,some Code.ret=some Code.ret,Array.mk [8]=Array.mk [(8:Tmp)]]++wbE)
theorem QbR(l:List Lay):QE 416 [(.bool true false)] ((QH4 C E K d l u)) (KR (haV d E C K (QN f53 0).1 (QN f53 0).2 u l))=(some ([false=false,d.pK.length=d.pK.length] ++ (vS E d l)++[d.ps.n<=d.ps.n,QB 1 d.ps.n u u]++QLj++(WK C K)++Jc++(jm C K)++Jc++[true=true])):=by kernel_rfl
theorem QYF(u u':Nat->Nat->Int)(l:List Lay):QE 416 [(.bool true true)] ([(YJ d l),(201,.mp E.1 E.2),(Xo d),(297,.lp LoopState.ready none (haT C K) (Array.mk [8]) (QN f53 0).1 (QN f53 0).2),(232, .cells 0 4 [.bool true false]),(Xv l),(432,.rowz true 4 [CK.bool] d.ps.n u')]) (KR (haU d E C K (QN f53 0).1 (QN f53 0).2 u l))=(some ([true=true, d.pK.length=d.pK.length]++(vS E d l)++([d.ps.n<=d.ps.n,QB 1 d.ps.n u' u]++wai++([Array.mk [8]=Array.mk [(8:Tmp)]]++wbE))++(WK C K)++Jc++(jm C K)++Jc++[false=false])):=by kernel_rfl
theorem QZw(u u':Nat->Nat->Int)(l:List Lay):QE 416 [(.bool false false)] ([(YJ d l),(201,.mp E.1 E.2),(Xo d),(QF0 C K),(232,.cells 0 4 [.bool true true]),(Xv l),(432,.rowz true 4 [CK.bool] d.ps.n u')]) (KR (haV d E C K (QN f53 0).1 (QN f53 0).2 u l))=(some ([false=false,d.pK.length=d.pK.length]++(vS E d l)++[d.ps.n<=d.ps.n,QB 1 d.ps.n u' u]++QLj++(WK C K)++Jc++(jm C K)++Jc++[true=true])):=by kernel_rfl
def WO(_:Unit):Qb Unit->UC
 | .go _=>haU d E C K ac body (QD l) l
 | .stop _=>haV d E C K ac body (QD l) l
open Classical in
noncomputable def Z4:List Prop->Bool:=if t<QY d p then QQ else λ_=>false
noncomputable def jb(P:Program)(d:Puz)(E:ECt)(C:Cap)(K:Rw Pt)(ac body:Code)(rec:List Lay->Unit->Qb Unit)(l:List Lay)(p:Nat)(k:Nat×Unit):Env:=
 mkE P (QA7 (Z4 d p k.1) (Z4 d p k.1) d E C K l ⟨p,k.1⟩ (Qy d E l ⟨p,k.1⟩) (WO d E C K ac body (l++[⟨p,k.1⟩]) k.2 (rec (l++[⟨p,k.1⟩]) k.2)))
def ZS(p:Nat)(k:Nat×Unit)(e:Ex)(J:JSt):Prop:=match Qv (Ju (Qr K) d E rec l p) ((List.range (QY d p)).drop k.1) k.2 with
 | .go _=>e = .exit 2/\J=QBz d E C K ac body (QD l) l p
 | .stop _=>e = .ret/\J=haF d E C K ac body (QD l) l
set_option maxHeartbeats 1000000 in
theorem Qeb(p:Nat)(hp:p<d.ps.n)(hn:d.ps.n<=1000)(hK:K.n<=1000)(hl:l.length<=1000)(hu:KK l p=false):JW (λk:Nat×Unit=>vW d E C K ac body (QD l) l p (tnV d p) k.1) (λk=>k.1<=QY d p) (λk=>QY d p-k.1) (ZS d E C K ac body rec l p) 416 QIw Zj (jb prog d E C K ac body rec l p) (λk=>hnd (jb prog d E C K ac body rec l p k) 0) (QZ (QI f103 0)):=by
 refine⟨λk g0 hk=>?_⟩;obtain⟨t,s⟩:=k;have hk:t<=QY d p:=hk;obtain⟨ht1,ht4⟩:=WX d p;have hlen:(l++[(⟨p,t⟩:Lay)]).length=l.length+1:=by rw[List.length_append,List.length_singleton]
 have hw1:i64.wrap (((l++[(⟨p,t⟩:Lay)]).length:Int)-1)=l.length:=(w64 (by omega) (by omega)).trans (by omega)
 have hpop:(i64.wrap (((l++[(⟨p,t⟩:Lay)]).length:Int)-1)).toNat=l.length:=by rw[hw1];exact Int.toNat_natCast _
 have hle:l.length<=(l++[(⟨p,t⟩:Lay)]).length:=by omega
 have hpb:t<QY d p->Z4 d p t=QQ:=λh=>by unfold Z4;rw[if_pos h]
 have wt:t<QY d p->i64.wrap ((t:Int)+1)=((t+1:Nat):Int):=λh=>(w64 (by omega) (by omega)).trans (by omega)
 have step:=λh:t<QY d p=>Wx (f:=Ju (Qr K) d E rec l p) h s;unfold jb;simp only
 have next:t<QY d p->∀{s2:Unit},Ju (Qr K) d E rec l p s t = .go s2->∀ e J,ZS d E C K ac body rec l p (t+1,s2) e J->ZS d E C K ac body rec l p (t,s) e J:=by
  intro h s2 he e J hr;unfold ZS at hr ⊢;simp only at hr ⊢;rw[step h,he];exact hr
 have last:QY d p<=t->ZS d E C K ac body rec l p (t,s) (.exit 2) (QBz d E C K ac body (QD l) l p):=by
  intro h;unfold ZS;simp only[qe h,and_self]
 cases hr:rec (l++[⟨p,t⟩]) s with
 | go s'=>
  simp only[WO];have et:=QZv (Z4 d p t) (Z4 d p t) d E C K ac body (QD l) (QD (l++[⟨p,t⟩])) l (l++[⟨p,t⟩]) (Qy d E l ⟨p,t⟩) p (tnV d p) t g0;refine Qg et ?_;clear et;refine QF (λb0=>?_) (λb0=>?_);have h:t<QY d p:=by have:=qdt b0;omega
  rw[hpb h];have hw:=wt h;refine QG ?_ ?_;rotate_left;refine QF (λb1=>?_) (λb1=>?_);have hA:Qr K l.length ⟨p,t⟩=false:=by simpa using b1
  have ho:Ju (Qr K) d E rec l p s t = .go s:=by unfold Ju;rw[hA];rfl
  refine⟨(t+1,s),h,by show QY d p-(t+1)<QY d p-t;omega,next h ho,rfl,rfl,_,QNh d E C K ac body (QD l) l p (tnV d p) t (t+1),?_⟩
  rotate_left
  refine QG ?_ ?_;rotate_left;refine QF (λb2=>?_) (λb2=>?_);have hA:Qr K l.length ⟨p,t⟩=true:=by simpa using b1
  have hv:Qy d E l ⟨p,t⟩=false:=by simpa using b2
  have ho:Ju (Qr K) d E rec l p s t = .go s:=by unfold Ju KE;rw[hA,hv];rfl
  refine⟨(t+1,s),h,by show QY d p-(t+1)<QY d p-t;omega,next h ho,rfl,rfl,_,QRp d E C K ac body (QD l) l p (tnV d p) t (t+1),?_⟩
  rotate_left
  iterate 7 (refine QG ?_ ?_;rotate_left)
  refine QF ?_ ?_<;>intro b3
  .cases b3
  have hA:Qr K l.length ⟨p,t⟩=true:=by simpa using b1
  have hv:Qy d E l ⟨p,t⟩=true:=by simpa using b2
  have ho:Ju (Qr K) d E rec l p s t = .go s':=by unfold Ju KE;rw[hA,hv];exact hr
  have hb:=qM l d.ps.n p t hu;have hq:=qo l ⟨p,t⟩;have hnx:=next h ho
  clear next last step hr ho
  generalize QD (l++[⟨p,t⟩])=u2 at hb ⊢;generalize l++[⟨p,t⟩]=l2 at hpop hle hq ⊢;generalize hu1:QD l=u1 at hb ⊢;refine⟨(t+1,s'),h,by show QY d p-(t+1)<QY d p-t;omega,hnx,rfl,rfl,_,QhC d E C K ac body u1 u2 u1 l l2 p (tnV d p) t (t+1),?_⟩
  rotate_left
  have h:QY d p<=t:=by have:=qdf b0;omega
  refine⟨_,last h,rfl,rfl,_,QLS d E C K ac body (QD l) l p,?_⟩
  rotate_left
  all_goals first|((with_reducible show _=true);(first|rfl|exact qde hK|(refine KA.2 ?_;repeat' first|with_reducible refine QP ?_ ?_|exact tv|with_reducible exact qRr|with_reducible exact hlen|with_reducible exact hlen.symm|with_reducible exact Nat.le_of_eq hlen|with_reducible exact qD l ⟨p,t⟩|with_reducible exact W9 l _ p t|exact rfl|refine aI ?_ ?_)|(rw[hw1];simp)|(simp;omega)))|(repeat' first|with_reducible refine QP ?_ ?_|exact tv|with_reducible exact qRr|with_reducible exact hw|with_reducible exact hpop|with_reducible exact hle|with_reducible exact hq|with_reducible exact hb|exact rfl|refine aI ?_ ?_)
 | stop s'=>
  simp only[WO];have et:=Qhd (Z4 d p t) (Z4 d p t) d E C K ac body (QD l) (QD (l++[⟨p,t⟩])) l (l++[⟨p,t⟩]) (Qy d E l ⟨p,t⟩) p (tnV d p) t g0;refine Qg et ?_;clear et;refine QF (λb0=>?_) (λb0=>?_);have h:t<QY d p:=by have:=qdt b0;omega
  rw[hpb h];have hw:=wt h;refine QG ?_ ?_;rotate_left;refine QF (λb1=>?_) (λb1=>?_);have hA:Qr K l.length ⟨p,t⟩=false:=by simpa using b1
  have ho:Ju (Qr K) d E rec l p s t = .go s:=by unfold Ju;rw[hA];rfl
  refine⟨(t+1,s),h,by show QY d p-(t+1)<QY d p-t;omega,next h ho,rfl,rfl,_,QNh d E C K ac body (QD l) l p (tnV d p) t (t+1),?_⟩
  rotate_left
  refine QG ?_ ?_;rotate_left;refine QF (λb2=>?_) (λb2=>?_);have hA:Qr K l.length ⟨p,t⟩=true:=by simpa using b1
  have hv:Qy d E l ⟨p,t⟩=false:=by simpa using b2
  have ho:Ju (Qr K) d E rec l p s t = .go s:=by unfold Ju KE;rw[hA,hv];rfl
  refine⟨(t+1,s),h,by show QY d p-(t+1)<QY d p-t;omega,next h ho,rfl,rfl,_,QRp d E C K ac body (QD l) l p (tnV d p) t (t+1),?_⟩
  rotate_left
  iterate 7 (refine QG ?_ ?_;rotate_left)
  refine QF (λb3=>?_) (λb3=>?_);have hA:Qr K l.length ⟨p,t⟩=true:=by simpa using b1
  have hv:Qy d E l ⟨p,t⟩=true:=by simpa using b2
  have ho:Ju (Qr K) d E rec l p s t = .stop s':=by unfold Ju KE;rw[hA,hv];exact hr
  have hrel:ZS d E C K ac body rec l p (t,s) .ret (haF d E C K ac body (QD l) l):=by
   unfold ZS;simp only[step h,ho,and_self]
  have hb:=qM l d.ps.n p t hu;have hq:=qo l ⟨p,t⟩;clear next last step hr ho
  generalize QD (l++[⟨p,t⟩])=u2 at hb ⊢;generalize l++[⟨p,t⟩]=l2 at hpop hle hq ⊢;generalize hu1:QD l=u1 at hb hrel ⊢;refine⟨_,hrel,rfl,rfl,_,QZE d E C K ac body u2 u1 l l2 p,?_⟩
  rotate_left
  .cases b3
  have h:QY d p<=t:=by have:=qdf b0;omega
  refine⟨_,last h,rfl,rfl,_,QLS d E C K ac body (QD l) l p,?_⟩
  rotate_left
  all_goals first|((with_reducible show _=true);(first|rfl|exact qde hK|(refine KA.2 ?_;repeat' first|with_reducible refine QP ?_ ?_|exact tv|with_reducible exact qRr|with_reducible exact hlen|with_reducible exact hlen.symm|with_reducible exact Nat.le_of_eq hlen|with_reducible exact qD l ⟨p,t⟩|with_reducible exact W9 l _ p t|exact rfl|refine aI ?_ ?_)|(rw[hw1];simp)|(simp;omega)))|(repeat' first|with_reducible refine QP ?_ ?_|exact tv|with_reducible exact qRr|with_reducible exact hw|with_reducible exact hpop|with_reducible exact hle|with_reducible exact hq|with_reducible exact hb|exact rfl|refine aI ?_ ?_)
def QD4(p:Nat):Prop:=∀ t,t<QY d p->∀ s,QS prog 103 (uFC (WO d E C K ac body (l++[⟨p,t⟩]) s (rec (l++[⟨p,t⟩]) s)))
theorem QV7{d:Puz}{E:ECt}{C:Cap}{K:Rw Pt}{ac body:Code}{rec:List Lay->Unit->Qb Unit}{l:List Lay}{p:Nat}(hd:KB d)(hE:WfE E)(hK:K.n<=1000)(hl:l.length<=1000)(hL:∀ y∈l,Q8 d y)(hp:p<d.ps.n)(IH:QD4 d E C K ac body rec l p)(k:Nat×Unit):(jb prog d E C K ac body rec l p k).Sound:=by
 unfold jb Z4
 by_cases h:k.1<QY d p
 .rw[if_pos h];have h4:=(WX d p).2;exact QO ((Qf.add (QDD d E l ⟨p,k.1⟩ hd hE hl hL ⟨⟨by show(0:Int)<=p;omega,by show(p:Int)<_;omega⟩,by show(0:Int)<=k.1;omega,by show(k.1:Int)<=3;omega⟩)).add (IH k.1 h k.2))
 .rw[if_neg h];exact QO ((Qf.add (Jr (by kernel_rfl) _)).add (Jr (by kernel_rfl) _))
def QAN(p:Nat)(s:Unit):List (Prop×Ex×JSt):=
 [((inA (Qr K) d E rec l p s).isGo=true,.exit 2,QBz d E C K ac body (QD l) l p),((inA (Qr K) d E rec l p s).isGo=false,.ret,haF d E C K ac body (QD l) l)]
theorem Qb5{d:Puz}{E:ECt}{C:Cap}{K:Rw Pt}{ac body:Code}{rec:List Lay->Unit->Qb Unit}{l:List Lay}(hd:KB d)(hE:WfE E)(hK:K.n<=1000)(hl:l.length<=1000)(hL:∀ y∈l,Q8 d y)(p:Nat)(s:Unit)(IH:p<d.ps.n->QD4 d E C K ac body rec l p)(G:Ctx)(hrd:G.rd=none)(hG:G.n<=416):
  Qx (mkE prog (Wm QQ d l.length p)) G (QDc prog QQ d E C K ac body (QD l) l p (QAN d E C K ac body rec l p s)) (QI f103 0):=by
 have hT:Qd (Wm QQ d l.length p):=Qf.add (YR d l.length p);refine KO (body:=QZ (QI f103 0)) (QO hT) hrd (by kernel_rfl) ?_
 refine Jj λhp=>?_;have hu:=QCq hp.2;have hEnv:=QV7 (ac:=ac) (body:=body) hd hE hK hl hL hp.1 (IH hp.1);refine Jq (E0:=mkE prog (Wm QQ d l.length p)) (E:=jb prog d E C K ac body rec l p) (H:=λk=>hnd (jb prog d E C K ac body rec l p k) 0) (n0:=416) (s0:=(0,s)) (λ_=>rfl) hEnv hG (λk _=>Qw (hEnv k) 0 G _ hrd) (λk _=>(by decide:416<=440)) ?_ (Qeb d E C K ac body rec l p hp.1 hd.n hK hl hu) (Nat.zero_le _) ?_
 .intro k e J hr;unfold ZS at hr;split at hr<;>(rw[hr.2];exact(by decide:416<=440))
 .intro e J hr;unfold ZS at hr;simp only[List.drop_zero]at hr;have hi:inA (Qr K) d E rec l p s=Qv (Ju (Qr K) d E rec l p) (List.range (QY d p)) s:=rfl;unfold QAN;rw[hi];cases hc:Qv (Ju (Qr K) d E rec l p) (List.range (QY d p)) s with
  | go s'=>
   rw[hc]at hr;exact⟨_,qmc,rfl,hr.1.symm,hr.2.symm⟩
  | stop s'=>
   rw[hc]at hr;exact⟨_,List.mem_cons_of_mem _ qmc,rfl,hr.1.symm,hr.2.symm⟩
def Xr(k:Nat×Unit)(e:Ex)(J:JSt):Prop:=match Qv (Xg (Qr K) d E rec l) ((List.range d.ps.n).drop k.1) k.2 with
 | .go s'=>e = .exit 0/\J=vp d E C K ac body (QD l) l
 | .stop s'=>e = .ret/\J=haF d E C K ac body (QD l) l
set_option maxHeartbeats 1000000 in
theorem QbS(hn:d.ps.n<=1000):JW (λk:Nat×Unit=>GP d E C K ac body (QD l) l k.1) (λk=>k.1<=d.ps.n) (λk=>d.ps.n-k.1) (Xr d E C K ac body rec l) 416 QLw Zj (λk=>mkE prog (Wm QQ d l.length k.1)) (λk=>QDc prog QQ d E C K ac body (QD l) l k.1 (QAN d E C K ac body rec l k.1 k.2)) (QI f103 0):=by
 refine⟨λk g0 hk=>?_⟩;obtain⟨p,s⟩:=k;have hk:p<=d.ps.n:=hk;have wp:p<d.ps.n->i64.wrap ((p:Int)+1)=((p+1:Nat):Int):=λh=>VT h hn;have step:=λh:p<d.ps.n=>Wx (f:=Xg (Qr K) d E rec l) h s
 have next:p<d.ps.n->∀{s2:Unit},Xg (Qr K) d E rec l s p = .go s2->∀ e J,Xr d E C K ac body rec l (p+1,s2) e J->Xr d E C K ac body rec l (p,s) e J:=by
  intro h s2 he e J hr;unfold Xr at hr ⊢;simp only at hr ⊢;rw[step h,he];exact hr
 have stop:p<d.ps.n->∀{s2:Unit},Xg (Qr K) d E rec l s p = .stop s2->Xr d E C K ac body rec l (p,s) .ret (haF d E C K ac body (QD l) l):=by
  intro h s2 he;unfold Xr;simp only[step h,he,and_self]
 have last:d.ps.n<=p->Xr d E C K ac body rec l (p,s) (.exit 0) (vp d E C K ac body (QD l) l):=by
  intro h;unfold Xr;simp only[qe h,and_self]
 have hpz:KK l p=false->Xg (Qr K) d E rec l s p=inA (Qr K) d E rec l p s:=λh=>by unfold Xg;rw[h];rfl
 have hpu:KK l p=true->Xg (Qr K) d E rec l s p = .go s:=λh=>by unfold Xg;rw[h];rfl
 unfold QAN;simp only;cases hr:inA (Qr K) d E rec l p s with
 | go s'=>
  simp only[Qb.isGo,Qb.s,Bool.true_eq_false,Bool.false_eq_true];have et:=QSM QQ d E C K ac body (QD l) (QD l) l p True False g0;refine Qg et ?_;clear et;refine QF (λb0=>?_) (λb0=>?_);have h:p<d.ps.n:=by have:=qdt b0;omega
  have hw:=wp h
  iterate 2 (refine QG ?_ ?_;rotate_left)
  refine QF (λb1=>?_) (λb1=>?_);have hub:KK l p=true:=Ve.symm.trans b1;refine⟨(p+1,s),h,by show d.ps.n-(p+1)<d.ps.n-p;omega,next h (hpu hub),rfl,rfl,_,QQT d E C K ac body (QD l) l p (p+1),?_⟩
  rotate_left
  have hub:KK l p=false:=Ve.symm.trans b1;have hu0:QD l p 0=0:=by unfold QD;rw[hub];rfl
  refine QG ?_ ?_;rotate_left
  iterate 82 refine Qq (by first|exact tv|exact⟨h,hu0⟩|with_reducible exact qRr|exact rfl) ?_
  refine Kf ?_ ?_;refine Qh λa0=>?_;refine Qj λg0=>?_;refine⟨(p+1,s'),h,by show d.ps.n-(p+1)<d.ps.n-p;omega,next h ((hpz hub).trans hr),rfl,rfl,_,Qh9 d E C K ac body (QD l) l p (p+1),?_⟩
  rotate_left
  refine Qh λa1=>?_;refine Qj λg1=>?_
  .exact a1.elim
  have h:d.ps.n<=p:=by have:=qdf b0;omega
  refine⟨_,last h,rfl,rfl,_,QTV d E C K ac body (QD l) l,?_⟩
  rotate_left
  all_goals first|((with_reducible show _=true);(first|(refine KA.2 ?_;repeat' first|exact tv|with_reducible exact qRr|exact rfl|refine aI ?_ ?_)|(simp;omega)))|(repeat' first|with_reducible refine QP ?_ ?_|exact tv|with_reducible exact qRr|with_reducible exact hw|exact rfl|refine aI ?_ ?_)
 | stop s'=>
  simp only[Qb.isGo,Qb.s,Bool.true_eq_false,Bool.false_eq_true];have et:=QSM QQ d E C K ac body (QD l) (QD l) l p False True g0;refine Qg et ?_;clear et;refine QF (λb0=>?_) (λb0=>?_);have h:p<d.ps.n:=by have:=qdt b0;omega
  have hw:=wp h
  iterate 2 (refine QG ?_ ?_;rotate_left)
  refine QF (λb1=>?_) (λb1=>?_);have hub:KK l p=true:=Ve.symm.trans b1;refine⟨(p+1,s),h,by show d.ps.n-(p+1)<d.ps.n-p;omega,next h (hpu hub),rfl,rfl,_,QQT d E C K ac body (QD l) l p (p+1),?_⟩
  rotate_left
  have hub:KK l p=false:=Ve.symm.trans b1;have hu0:QD l p 0=0:=by unfold QD;rw[hub];rfl
  refine QG ?_ ?_;rotate_left
  iterate 82 refine Qq (by first|exact tv|exact⟨h,hu0⟩|with_reducible exact qRr|exact rfl) ?_
  refine Kf ?_ ?_;refine Qh λa0=>?_;refine Qj λg0=>?_
  .exact a0.elim
  refine Qh λa1=>?_;refine Qj λg1=>?_;refine⟨_,stop h ((hpz hub).trans hr),rfl,rfl,_,QZD d E C K ac body (QD l) l,?_⟩
  rotate_left
  have h:d.ps.n<=p:=by have:=qdf b0;omega
  refine⟨_,last h,rfl,rfl,_,QTV d E C K ac body (QD l) l,?_⟩
  rotate_left
  all_goals first|((with_reducible show _=true);(first|(refine KA.2 ?_;repeat' first|exact tv|with_reducible exact qRr|exact rfl|refine aI ?_ ?_)|(simp;omega)))|(repeat' first|with_reducible refine QP ?_ ?_|exact tv|with_reducible exact qRr|with_reducible exact hw|exact rfl|refine aI ?_ ?_)
noncomputable abbrev Xe:Code:=(QN f53 0).1
noncomputable abbrev Xb:Code:=(QN f53 0).2
theorem QaP(l:List Lay)  :(haU d E C K ac body u l).Ok:=by
 refine⟨(by decide:392<=416),rfl,rfl,?_,rfl,λ_ _=>rfl,λnid h=>?_⟩
 .intro q hq;simp only[UC.po,haU,haW,rwY,rwU,List.mem_cons,List.not_mem_nil,or_false]at hq;rcases hq with rfl|rfl|rfl|rfl|rfl|rfl|rfl|rfl|rfl|rfl|rfl<;>refine⟨rfl,rfl,rfl,?_⟩<;>first|exact λ_=>rfl|exact λh=>absurd (show 416<392 from h) (by decide)|exact λh=>absurd (show 417<392 from h) (by decide)|exact λh=>absurd (show 418<392 from h) (by decide)|exact λh=>absurd (show 419<392 from h) (by decide)
 .have e0:=KZ 392 416 0 nid (by decide)
  have e1:=KZ 392 416 1 nid (by decide)
  simp only[UC.po,haU,haW,rwY,rwU,ze,haT,KX,Qm.val,List.cons_append,List.nil_append,List.map_cons,List.map_nil,Blk.mapId,AV.mapId,AV.mapIdL,Nat.add_zero]at e0 e1 ⊢;rw[e0,e1];rfl
theorem QOW(l:List Lay)  :(haV d E C K ac body u l).Ok:=by
 refine⟨(by decide:392<=416),rfl,rfl,?_,rfl,λ_ _=>rfl,λnid h=>?_⟩
 .intro q hq;simp only[UC.po,haV,haW,rwY,rwU,List.mem_cons,List.not_mem_nil,or_false]at hq;rcases hq with rfl|rfl|rfl|rfl|rfl|rfl|rfl|rfl|rfl|rfl|rfl<;>refine⟨rfl,rfl,rfl,?_⟩<;>first|exact λ_=>rfl|exact λh=>absurd (show 416<392 from h) (by decide)|exact λh=>absurd (show 417<392 from h) (by decide)|exact λh=>absurd (show 418<392 from h) (by decide)|exact λh=>absurd (show 419<392 from h) (by decide)
 .have e0:=KZ 392 416 0 nid (by decide)
  have e1:=KZ 392 416 1 nid (by decide)
  simp only[UC.po,haV,haW,rwY,rwU,ze,haT,KX,Qm.val,List.cons_append,List.nil_append,List.map_cons,List.map_nil,Blk.mapId,AV.mapId,AV.mapIdL,Nat.add_zero]at e0 e1 ⊢;rw[e0,e1];rfl
theorem QeQ(T:Tab)(hT:Qd T)(G:Ctx)(hrd:G.rd=none):Qx (mkE prog T) G (haN prog T) (Ql f103):=
 KO (body:=QI f103 0) (QO hT) hrd (by kernel_rfl) (λ_ _ _ _ _ _ _ h _ _=>h.elim)
set_option maxHeartbeats 1000000 in
theorem QWB(hn:l.length=d.ps.n):QS prog 103 (uFC (haV d E C K Xe Xb (QD l) l)):=by
 have et:=QYT d E C K (QD l) l;have hlen:((l.length:Int)==(d.ps.n:Int))=true:=by rw[hn];simp
 refine Ky (E:=mkE prog QT) (QO Qf) func103 (by kernel_rfl) (by kernel_rfl) (QOW ..) (λG hG _=>QeQ _ Qf G hG) ⟨?_⟩
 refine Qg et ?_;clear et;refine QF (λb0=>?_) (λb0=>?_);refine⟨rfl,rfl,_,QbR d E C K (QD l) l,?_⟩
 rotate_left
 .exact Bool.noConfusion (hlen.symm.trans b0)
 all_goals (repeat' first|with_reducible refine QP ?_ ?_|exact tv|with_reducible exact qRr|exact rfl|refine aI ?_ ?_)
theorem QKs{d:Puz}{E:ECt}{C:Cap}{K:Rw Pt}{ac body:Code}{rec:List Lay->Unit->Qb Unit}{l:List Lay}(hd:KB d)(hE:WfE E)(hK:K.n<=1000)(hl:l.length<=1000)(hL:∀ y∈l,Q8 d y)(s:Unit)(IH:∀ p,p<d.ps.n->QD4 d E C K ac body rec l p){X:List (Prop×Ex×JSt)}(hX:∀ e J,Xr d E C K ac body rec l (0,s) e J->∃ y∈X,y.1/\y.2.1=e/\y.2.2=J)(G:Ctx)(hrd:G.rd=none)(hG:G.n=416):
  Qx (mkE prog QT) G (haX prog (GP d E C K ac body (QD l) l 0) X) (Ql f103):=by
 refine KO (body:=QI f103 0) (QO Qf) hrd (by kernel_rfl) ?_
 have hEnv:∀ k:Nat×Unit,(mkE prog (Wm QQ d l.length k.1)).Sound:=λk=>QO (Qf.add (YR d l.length k.1));refine Jq (E0:=mkE prog QT) (E:=λk:Nat×Unit=>mkE prog (Wm QQ d l.length k.1)) (H:=λk=>QDc prog QQ d E C K ac body (QD l) l k.1 (QAN d E C K ac body rec l k.1 k.2)) (n0:=416) (s0:=(0,s)) (λ_=>rfl) hEnv (by omega) (λk _=>Qb5 hd hE hK hl hL k.1 k.2 (IH k.1) G hrd (by omega)) (λk _=>(by decide:416<=440)) ?_ (QbS d E C K ac body rec l hd.n) (Nat.zero_le _) hX
 intro k e J hr;unfold Xr at hr;split at hr<;>(rw[hr.2];exact(by decide:416<=440))
set_option maxHeartbeats 1000000 in
theorem QUs{d:Puz}{E:ECt}{C:Cap}{K:Rw Pt}(hd:KB d)(hE:WfE E)(hK:K.n<=1000){k:Nat}{l:List Lay}(hk:l.length+(k+1)=d.ps.n)(hL:∀ y∈l,Q8 d y)(IH:∀ p,p<d.ps.n->QD4 d E C K Xe Xb (onA (Qr K) d E WD k) l p)(s:Unit):QS prog 103 (uFC (WO d E C K Xe Xb l s (onA (Qr K) d E WD (k+1) l s))):=by
 have hdn:=hd.n;have hr0:onA (Qr K) d E WD (k+1) l s=Qv (Xg (Qr K) d E (onA (Qr K) d E WD k) l) (List.range d.ps.n) s:=rfl;rw[hr0];have hne:((l.length:Int)==(d.ps.n:Int))=false:=by rw[beq_eq_false_iff_ne];omega
 cases hc:Qv (Xg (Qr K) d E (onA (Qr K) d E WD k) l) (List.range d.ps.n) s with
 | go s'=>
  simp only[WO];have et:=QTR d E C K (QD l) (QD l) l True False;refine Ky (E:=mkE prog QT) (QO Qf) func103 (by kernel_rfl) (by kernel_rfl) (QaP ..) (QKs hd hE hK (by omega) hL s IH (X:=[(True,.exit 0,vp d E C K Xe Xb (QD l) l),(False,.ret,haF d E C K Xe Xb (QD l) l)]) ?_) ⟨?_⟩
  .intro e J hr;unfold Xr at hr;simp only[List.drop_zero,hc]at hr;exact⟨_,qmc,trivial,hr.1.symm,hr.2.symm⟩
  refine Qg et ?_;clear et;refine QF ?_ ?_<;>intro b0
  .exact Bool.noConfusion (hne.symm.trans b0)
  iterate 78 refine Qq (by first|exact tv|with_reducible exact qRr|exact rfl) ?_
  refine Kf ?_ ?_;refine Qh λa0=>?_;refine Qj λg0=>?_;refine⟨rfl,rfl,_,QYF d E C K (QD l) (QD l) l,?_⟩
  rotate_left
  refine Qh λa1=>?_;refine Qj λg1=>?_
  .exact a1.elim
  all_goals (repeat' first|with_reducible refine QP ?_ ?_|exact tv|with_reducible exact qRr|exact rfl|refine aI ?_ ?_)
 | stop s'=>
  simp only[WO];have et:=QTR d E C K (QD l) (QD l) l False True;refine Ky (E:=mkE prog QT) (QO Qf) func103 (by kernel_rfl) (by kernel_rfl) (QOW ..) (QKs hd hE hK (by omega) hL s IH (X:=[(False,.exit 0,vp d E C K Xe Xb (QD l) l),(True,.ret,haF d E C K Xe Xb (QD l) l)]) ?_) ⟨?_⟩
  .intro e J hr;unfold Xr at hr;simp only[List.drop_zero,hc]at hr;exact⟨_,List.mem_cons_of_mem _ qmc,trivial,hr.1.symm,hr.2.symm⟩
  refine Qg et ?_;clear et;refine QF ?_ ?_<;>intro b0
  .exact Bool.noConfusion (hne.symm.trans b0)
  iterate 78 refine Qq (by first|exact tv|with_reducible exact qRr|exact rfl) ?_
  refine Kf ?_ ?_;refine Qh λa0=>?_;refine Qj λg0=>?_
  .exact a0.elim
  refine Qh λa1=>?_;refine Qj λg1=>?_;refine⟨rfl,rfl,_,QZw d E C K (QD l) (QD l) l,?_⟩
  rotate_left
  all_goals (repeat' first|with_reducible refine QP ?_ ?_|exact tv|with_reducible exact qRr|exact rfl|refine aI ?_ ?_)
theorem QXR{d:Puz}{E:ECt}{C:Cap}{K:Rw Pt}(s:Unit)(hk:l.length=d.ps.n):QS prog 103 (uFC (WO d E C K Xe Xb l s (onA (Qr K) d E WD 0 l s))):=QWB d E C K l hk
theorem Qbo{d:Puz}{E:ECt}{C:Cap}{K:Rw Pt}(hd:KB d)(hE:WfE E)(hK:K.n<=1000)(k:Nat):∀(l:List Lay) (s:Unit),l.length+k=d.ps.n->(∀ y∈l,Q8 d y)->QS prog 103 (uFC (WO d E C K Xe Xb l s (onA (Qr K) d E WD k l s))):=by
 induction k with
 | zero=>exact λl s hk _=>QXR l s hk
 | succ k ih=>
  intro l s hk hL;refine QUs hd hE hK hk hL ?_ s;intro p hp t ht s;exact ih _ s (QCj l _ hk) (QCK hp ht hL)
