/- - -/
import Derived.Test.YtekbmehgcofnkaaGreatMzo
open Go.Proofs.Tryz
open Go.IntKind (i64)
set_option maxRecDepth 100000
namespace Go.Proofs.YtekbmehgcofnkaaGreat
open Go.SX Go.SX.Told
abbrev TJ:={f:Nat // True}
structure TwP where
 o:List Tw
 o2:List Tw
 p:Nat
 q:Nat
 g:Nat->Value
def rwT(id:Nat)(o:List Tw):Nat×Blk:=(id,.rowz true 89 kB o.length λi=>QA.enc (o.getD i ⟨0,0⟩))
variable (d:Puz)(E:ECt)(ac body:Code)(l2 l:List Lay)(p:Nat)(u2:Nat->Nat->Int)(f t:Nat)(tn:Int)(f':Nat)
def twT(w0:TwP):List AV:=[.raw (w0.g 0),.ptr 112 0 0,.ptr 120 0 0,.raw (w0.g 3),.ptr 200 0 0,.ptr 296 0 0,.ptr 400 0 0,.ptr 432 0 0,.raw (w0.g 8),.raw (w0.g 9),.raw (w0.g 10),.raw (w0.g 11),.raw (w0.g 12),.raw (w0.g 13),.raw (w0.g 14),.raw (w0.g 15),.raw (w0.g 16),.raw (w0.g 17),.raw (w0.g 18),.raw (w0.g 19),.raw (w0.g 20),.int false .i64 d.ps.n,.int false .i64 w0.p,.raw (w0.g 23),.raw (w0.g 24),.int false .i64 w0.p,.int false .i64 w0.q,.bool true true,.int false .i64 w0.q,.ptr 200 0 0,.fn (.func 102) [.ptr 456 0 0,.ptr 464 0 0],.raw (w0.g 31),.raw (w0.g 32),.raw (w0.g 33),.raw (w0.g 34),.raw (w0.g 35),.raw (w0.g 36),.raw (w0.g 37),.raw (w0.g 38),.raw (w0.g 39),.raw (w0.g 40),.raw (w0.g 41),.raw (w0.g 42),.raw (w0.g 43),.raw (w0.g 44),.raw (w0.g 45),.raw (w0.g 46),.raw (w0.g 47)]
def QGm:List AV:=[.ptr 456 0 0,.ptr 504 0 0,.ptr 568 0 0,.ptr 464 0 0,.ptr 584 0 0]
def twR(w0:TwP):List (Nat×Blk):=
 [(584,.cellsR 0 31 [.fn (.func 103) QGm]),(504,.cellsR 0 105 [.yld 497]),(464,.cellsR 0 96 [.nils]),(456,.cellsR 0 90 [.ptr 200 0 0]),(432,.cellsR 0 3 [vi w0.q]),(400,.cellsR 0 3 [vi w0.p]),(296,.cellsR 0 90 [.ptr 288 0 0])]++Qm.blk 0 d.ps
def twW(ls:LoopState)(pe:Option Code)(oo:List Tw)(d:Puz)(E:ECt)(w0:TwP)(ac body:Code)(u:Nat->Nat->Int)(l:List Lay)(a w c b:Nat)(f:Nat):List (Nat×Blk):=
 [(200,.cells 0 152 (KX d++[.map 201,.slz a 0 l.length (.of 0)])),(201,.mp E.1 E.2),rwY a l,(568,.cells 0 114 [.slz w 0 d.ps.n (.of 0)]),rwU w d u,(497,.lp ls pe (twT d w0) #[31] ac body),(120,.cells 0 36 [.slz c 0 oo.length (.of 0)]),rwT c oo,bdZ d b f,(289,.mp E.1 E.2)]
def twS:List (Nat×AV):=[(0,.ptr 456 0 0),(1,.ptr 504 0 0),(2,.ptr 568 0 0),(3,.ptr 464 0 0),(4,.ptr 584 0 0)]
def Gs(w0:TwP)(ac body:Code)(u:Nat->Nat->Int)(l:List Lay)(f:Nat):JSt:=⟨5,twS,twW .ready none w0.o d E w0 ac body u l 600 608 616 624 f++twR d w0,632⟩
def twU(w0:TwP)(ac body:Code)(u:Nat->Nat->Int)(l:List Lay)(f:Nat)(f':Nat):UC:=
 ⟨592,Gs d E w0 ac body u l f,λ_=>.bool false true,λm=>twW .ready none w0.o d E w0 ac body u l m (m+1) (m+2) (m+3) f'⟩
def twV(w0:TwP)(ac body:Code)(u:Nat->Nat->Int)(l:List Lay)(f:Nat)(f':Nat):UC:=
 ⟨592,Gs d E w0 ac body u l f,λ_=>.bool false false,λm=>twW .done (some (.exit 4)) w0.o2 d E w0 ac body u l m (m+1) (m+2) (m+3) f'⟩
def Z1:List Nat:=[200,201,568,497,120,288,289]
def QI8(n:Nat)(p:Nat):List (Nat×AV):=twS++[(33,.int false .i64 n),(34,.int false .i64 p)]
def QUS(n:Nat)(p:Nat)(tn:Int)(t:Nat):List (Nat×AV):=QI8 n p++[(6,.int false .i64 p),(43,.int false .i64 tn),(44,.int false .i64 t)]
def zM(w0:TwP)(ac body:Code)(u:Nat->Nat->Int)(l:List Lay)(f:Nat)(p:Nat):JSt:=⟨101,QI8 d.ps.n p,twW .ready none w0.o d E w0 ac body u l 640 648 656 664 f++twR d w0,672⟩
def zh(w0:TwP)(ac body:Code)(u:Nat->Nat->Int)(l:List Lay)(f:Nat)(p:Nat)(tn:Int)(t:Nat):JSt:=⟨101,QUS d.ps.n p tn t,twW .ready none w0.o d E w0 ac body u l 640 648 656 664 f++twR d w0,672⟩
def vv(w0:TwP)(ac body:Code)(u:Nat->Nat->Int)(l:List Lay)(f:Nat):JSt:=⟨101,[],twW .ready none w0.o d E w0 ac body u l 640 648 656 664 f,672⟩
def QBq(w0:TwP)(ac body:Code)(u:Nat->Nat->Int)(l:List Lay)(f:Nat)(p:Nat):JSt:=⟨101,QI8 d.ps.n p,twW .ready none w0.o d E w0 ac body u l 640 648 656 664 f++twR d w0,672⟩
def twF(w0:TwP)(ac body:Code)(u:Nat->Nat->Int)(l:List Lay)(f:Nat):JSt:=⟨101,[(5,.bool false false)],twW .done (some (.exit 4)) w0.o2 d E w0 ac body u l 640 648 656 664 f,672⟩
def QJ7:Ex->List Nat
 | .normal=>[0,1,2,3,4,33,34]
 | .exit _=>[]
 | .ret=>[5]
def QGh:Ex->List Nat
 | .normal=>[0,1,2,3,4,33,34,6,43,44]
 | .exit _=>[0,1,2,3,4,33,34]
 | .ret=>[5]
def QAK(pb1 pb2:List Prop->Bool)(d:Puz)(E:ECt)(w0:TwP)(l:List Lay)(x:Lay)(v:Bool)(U:UC):Tab:=Qa (Qa QT 105 (KG pb1 (myU d E l x v))) 103 (KG pb2 U)
noncomputable abbrev waL:List AV:=[.ptr 456 0 0,.ptr 504 0 0,.ptr 568 0 0,.ptr 464 0 0,.ptr 584 0 0]
noncomputable abbrev Gn:List AV:=
  (.nilp::.ptr 101 0 0::List.append (waL) ((wbw d p t tn)))
noncomputable abbrev ja:Nat×Blk:=
  (456,.cellsR 0 90 [.ptr 200 0 0])
noncomputable abbrev QEn:Nat×Blk:=
  (584,.cellsR 0 31 [.fn (Fn.func 103) (waL)])
noncomputable abbrev vh:Nat×Blk:=
  (0,.frz (List.append (waa) ((List.append (waA) ((List.append (waZ) ([.int .i64])))))) d.ps.n λi=>QA.enc (d.ps.get i))
noncomputable abbrev vZ:Nat×Blk:=
  (296,.cellsR 0 90 [.ptr 288 0 0])
noncomputable abbrev jt(w0:TwP):Nat×Blk:=
  (400,.cellsR 0 3 [vi (w0.p:Int)])
noncomputable abbrev j4(w0:TwP):Nat×Blk:=
  (432,.cellsR 0 3 [vi (w0.q:Int)])
noncomputable abbrev waU:List (Nat×Blk):=[(504,.cellsR 0 105 [.yld 497]),(464,.cellsR 0 96
  [.nils])]
noncomputable abbrev qS(d:Puz)(f:Nat)(l:List Lay)(u:Nat->Nat->Int)(w0:TwP):List (Nat×Blk):=
  ((200,.cells 0 152 (List.append (waf d) ([.map 201,.slz 640 0 l.length cO])))::(201,.mp E.1 E.2)::(568,.cells 0 114 [.slz
  648 0 d.ps.n cO])::(497,.lp LoopState.ready none (twT d w0) (Array.mk [31]) ac body)::(120,.cells 0 36 [.slz 656 0 w0.o.length cO])::(288,.cells 0 152 (.int false
  .i64 d.pK.length::vi d.pK.aK::vi d.pK.oK::vi d.pK.dK.lo::vi d.pK.dK.hi::vi d.wide::.int false
  .i64 d.high::List.append (wbv d) ([.slz 664 0 f cO])))::(289,.mp E.1 E.2)::ja::List.append (waU) ([QEn,(vh d),(640,.rowz true 49 kB l.length λi=>QA.enc (l.getD i (Lay.mk (0:Int) (0:Int)))),(648,.rowz true 4 [CK.bool] d.ps.n u),vZ,(jt w0),(j4 w0),(656,.rowz true 89 kB w0.o.length λi=>QA.enc (w0.o.getD i (Tw.mk (0:Int) (0:Int))))]))
abbrev QSp(d:Puz)(l:List Lay)(p:Nat)(t:Nat):List Prop:=
  ([0=0,0=0,(p:Int)=(p:Int),(t:Int)=(t:Int)]++wab d++(([cO=cO,0=0,l.length=l.length,cO
  = cO]++wag l++[E.1=E.1,E.2=E.2])++wae d))
abbrev war(w0:TwP):List Prop:=[w0.o.length <=
  w0.o.length,QB 2 w0.o.length (λi=>QA.enc (w0.o.getD i (Tw.mk (0:Int) (0:Int)))) λi=>QA.enc (w0.o.getD i (Tw.mk (0:Int) (0:Int)))]
abbrev wb0(w0:TwP):List Prop:=[(w0.q:Int)=(w0.q:Int),(w0.p:Int)=(w0.p:Int),0=0,0=0]
abbrev QOm(d:Puz)(f:Nat)(l:List Lay)(l2:List Lay)(p:Nat)(t:Nat)(u:Nat->Nat->Int)(u2:Nat->Nat->Int)(w0:TwP):List Prop:=
  ((wbo++[0=0])++wab d++(([cO=cO,0=0,l.length+1=l2.length,cO=cO,E.1=E.1,E.2=E.2]++waV l l2 p t++(wbH d++[QB 1 d.ps.n (λi=>bif decide (i=p)then Kg [.bool true true] 0 (u ((p:Int).toNat+0))else u i) u2]))++wai++(([Array.mk [31]=Array.mk [31],ac=ac,body=body,w0.5 0=w0.5 0,0=0,0=0,0=0,0=0,w0.5 3=w0.5 3,0=0,0=0,0=0,0=0,0=0,0=0,0=0,0=0,w0.5 8 =
  w0.5 8,w0.5 9=w0.5 9,w0.5 10=w0.5 10,w0.5 11=w0.5 11,w0.5 12=w0.5 12,w0.5 13=w0.5 13,w0.5 14=w0.5 14,w0.5 15=w0.5 15,w0.5 16=w0.5 16,w0.5 17=w0.5 17,w0.5
  18=w0.5 18,w0.5 19=w0.5 19,w0.5 20=w0.5 20,(d.ps.n:Int)=(d.ps.n:Int),(w0.p:Int)=(w0.p:Int),w0.5 23=w0.5 23,w0.5 24=w0.5 24,(w0.p:Int)=(w0.p:Int),(w0.q:Int)=(w0.q:Int),true=true,(w0.q:Int)=(w0.q:Int),0=0,0=0]++wbX++[w0.5 31=w0.5 31,w0.5 32=w0.5 32,w0.5 33=w0.5 33,w0.5 34=w0.5 34,w0.5 35=w0.5 35,w0.5 36=w0.5 36,w0.5 37=w0.5 37,w0.5 38=w0.5 38,w0.5 39=w0.5 39,w0.5 40=w0.5 40,w0.5 41=w0.5 41,w0.5 42 =
  w0.5 42,w0.5 43=w0.5 43,w0.5 44=w0.5 44,w0.5 45=w0.5 45,w0.5 46=w0.5 46,w0.5 47=w0.5 47,0=0,w0.o.length=w0.o.length,cO=cO])++war w0))++wab d++(([cO=cO,0=0,f=f,cO=cO,E.1=E.1,E.2=E.2,Fn.func 103=Fn.func 103]++wbo++([0=0,0=0,0=0]++wb0 w0))++wae d))
noncomputable abbrev Hf:Nat×Blk:=
  (200,.cells 0 152 (List.append (waf d) ([.map 201,.slz 984 0 (i64.wrap ((l2.length:Int)-1)).toNat cO])))
noncomputable abbrev G0:Nat×Blk:=
  (568,.cells 0 114 [.slz 985 0 d.ps.n cO])
noncomputable abbrev QFm(w0:TwP):Nat×Blk:=
  (120,.cells 0 36 [.slz 986 0 w0.o.length cO])
noncomputable abbrev G2:Nat×Blk:=
  (288,.cells 0 152 (List.append (waf d) ([.map 289,.slz 987 0 f' cO])))
noncomputable abbrev Gb:Nat×Blk:=
  (984,.rowz true 49 kB l2.length λi=>QA.enc (l2.getD i (Lay.mk (0:Int) (0:Int))))
noncomputable abbrev zT:Nat×Blk:=
  (985,.rowz true 4 [CK.bool] d.ps.n λi=>bif decide (i=p)then Kg [.bool true false] 0 (u2 ((p:Int).toNat+0))else u2 i)
noncomputable abbrev QHL(w0:TwP):Nat×Blk:=
  (986,.rowz true 89 kB w0.o.length λi=>QA.enc (w0.o.getD i (Tw.mk (0:Int) (0:Int))))
noncomputable abbrev QKI:List AV:=
  (.ptr 2 0 0::.ptr 101 0 0::List.append (waL) ([vi (d.ps.n:Int),vi (p:Int)]))
theorem QVE(pb1 pb2:List Prop->Bool)(d:Puz)(E:ECt)(w0:TwP)(ac body:Code)(u u2:Nat->Nat->Int)(l l2:List Lay)(v:Bool)(f:Nat)(p:Nat)(tn:Int)(t:Nat)(f':Nat)(g0:Nat->Value):exec (mkE prog (QAK pb1 pb2 d E w0 l ⟨p,t⟩ v (twU d E w0 ac body u2 l2 f f'))) (hnd (mkE prog (QAK pb1 pb2 d E w0 l ⟨p,t⟩ v (twU d E w0 ac body u2 l2 f f'))) 0) (QZ (QI f103 0)) (JSt.inst (zh d E w0 ac body u l f p tn t) g0) (Q6 Z1 QGh) = .br (decide ((t:Int)<tn)) (.need (true) (.br (!Qr (Rw.mk 0 λi=>Pt.mk (0:Int) (Lay.mk (0:Int) (0:Int))) (l.length:Int) (Lay.mk (p:Int) (t:Int))) (.leaf (.tup (Gn d p t tn)) ((qS E ac body d f l u w0))) (.need (pb1 ((QSp E d l p t))) (.br (!v) (.leaf (.tup (Gn d p t tn)) ((qS E ac body d f l u w0))) (.need (decide ((0:Int)<=(p:Int)/\(p:Int)<(d.ps.n:Int))&&decide (d.ps.n<=d.ps.n)) (.need (decide (p<d.ps.n)) (.need (decide (l.length<=l.length)&&(true&&decide ((l.length+1+(l.length+1) / 4+192)*16<=281474976710656/\l.length+1<=9223372036854775807))) (.need (pb2 ((QOm E ac body d f l l2 p t u u2 w0))) (.need (decide ((0:Int)<=i64.wrap ((l2.length:Int)-1)/\(i64.wrap ((l2.length:Int)-1)).toNat<=l2.length-0)) (.need (decide ((0:Int)<=(p:Int)/\(p:Int)<(d.ps.n:Int))&&decide (d.ps.n<=d.ps.n)) (.need (decide (p<d.ps.n)) (.br (false) (.leaf (.tup (wbK)) ([(Hf d l2),(201,.mp E.1 E.2),(G0 d),(497,.lp LoopState.ready none (twT d w0) (Array.mk [31]) ac body),(QFm w0),(G2 d f'),(289,.mp E.1 E.2),(vh d),(Gb l2),(zT d p u2),vZ,(jt w0),(j4 w0),ja,(464,.cellsR 0 96 [.nils]),(QHL w0)])) (.leaf (.tup (Gn d p t tn)) (((Hf d l2)::(201,.mp E.1 E.2)::(G0 d)::(497,.lp LoopState.ready none (twT d w0) (Array.mk [31]) ac body)::(QFm w0)::(G2 d f')::(289,.mp E.1 E.2)::ja::List.append (waU) ([QEn,(vh d),(Gb l2),(zT d p u2),vZ,(jt w0),(j4 w0),(QHL w0)])))))))))))))))) (.leaf (.tup (QKI d p)) ((qS E ac body d f l u w0))):=by kernel_rfl
noncomputable abbrev QSt:List AV:=
  (List.append (waL) ((vi (d.ps.n:Int)::wbN p t tn)))
abbrev wan(d:Puz)(w0:TwP):List Prop:=[w0.g 11=w0.g 11,w0.g 12=w0.g 12,w0.g 13=w0.g 13,w0.g 14=w0.g 14,w0.g 15=w0.g 15,w0.g 16=w0.g 16,w0.g 17=w0.g 17,w0.g 18=w0.g 18,w0.g 19=w0.g 19,w0.g 20=w0.g 20,(d.ps.n :
  Int)=(d.ps.n:Int),(w0.p:Int)=(w0.p:Int),w0.g 23=w0.g 23,w0.g 24=w0.g 24,(w0.p:Int)=(w0.p:Int),(w0.q:Int)=(w0.q:Int)]
abbrev wbc(w0:TwP):List Prop:=[w0.g 45=w0.g 45,w0.g 46=w0.g 46,w0.g 47=w0.g 47]
abbrev wbr(w0:TwP):List Prop:=[w0.g 31=w0.g 31,w0.g 32=w0.g 32,w0.g 33=w0.g 33,w0.g 34=w0.g 34,w0.g
  35=w0.g 35,w0.g 36=w0.g 36,w0.g 37=w0.g 37,w0.g 38=w0.g 38,w0.g 39=w0.g 39,w0.g 40=w0.g 40,w0.g 41=w0.g 41,w0.g 42=w0.g 42,w0.g 43=w0.g 43,w0.g 44=w0.g
  44]
abbrev wbL(E:ECt):List Prop:=[E.1=E.1,E.2=E.2,Fn.func 103=Fn.func (103:FuncId)]
abbrev QYB(d:Puz)(f:Nat)(l:List Lay)(p:Nat)(t:Nat)(t':Nat)(tn:Int)(u:Nat->Nat->Int)(w0:TwP):List Prop:=
  (((wbo++[0=0])++waH d p t t' tn)++wab d++(([cO=cO,0=0]++wbp E l)++wag l++((wbH d++[QB 1 d.ps.n u u])++wai++([Array.mk [31]=Array.mk [(31:Tmp)],ac=ac,body=body,w0.g 0 =
  w0.g 0,0=0,0=0,0=0,0=0,w0.g 3=w0.g 3,0=0,0=0,0=0,0=0,0=0,0=0,0=0,0=0,w0.g 8=w0.g 8,w0.g 9=w0.g 9,w0.g 10=w0.g 10]++wan d w0++((([true=true,(w0.q:Int)=(w0.q
  : Int),0=0,0=0]++wbR)++wbr w0)++wbc w0++[0=0,w0.o.length=w0.o.length,cO=cO,w0.o.length<=w0.o.length,QB 2 w0.o.length (λi=>
  QA.enc (w0.o.getD i (Tw.mk (0:Int) (0:Int)))) λi=>QA.enc (w0.o.getD i (Tw.mk (0:Int) (0:Int)))]))))++wab d++((([cO =
  cO,0=0,f=f,cO=cO]++wbL E)++wbo++([0=0,0=0,0=0]++wb0 w0))++wae d))
theorem QPn(w0:TwP)(ac body:Code)(u:Nat->Nat->Int)(l:List Lay)(f:Nat)(p:Nat)(tn:Int)(t t':Nat):QE 632 (QSt d p t tn) ((qS E ac body d f l u w0)) (zh d E w0 ac body u l f p tn t')=(some (QYB E ac body d f l p t t' tn u w0)):=by kernel_rfl
abbrev WY:List Prop:=
  [0=0,0=0,0=0,0=0,0=0,0=0]
abbrev QBd:List Prop:=
  [0=0,0=0,0=0,0=0]
abbrev Gg:List Prop:=
  (wab d++[cO=cO,0=0])
abbrev QRT(d:Puz)(l:List Lay)(l2:List Lay)(p:Nat)(u2:Nat->Nat->Int)(u3:Nat->Nat->Int):List Prop:=
  ([cO=cO]++waN E l l2++(wbH d++[QB 1 d.ps.n (λi=>bif decide (i=p)then Kg [.bool true false] 0 (u2 ((p:Int).toNat
  + 0))else u2 i) u3]))
abbrev QI1(w0:TwP):List Prop:=
  [0=0,0=0,w0.g 8=w0.g 8,w0.g 9=w0.g 9]
abbrev wbd(w0:TwP):List Prop:=(wbr w0)
abbrev wao(w0:TwP):List Prop:=(wbd w0)
abbrev QGI(w0:TwP):List Prop:=
  ([w0.g 10=w0.g 10]++wan d w0++(([true=true,(w0.q:Int)=(w0.q:Int),0=0,0=0]++wbR)++wao w0))
abbrev QTn(w0:TwP):List Prop:=
  ((wbc w0++[0=0,w0.o.length=w0.o.length,cO=cO])++war w0)
abbrev QKi(w0:TwP):List Prop:=
  ((wb0 w0)++wae d)
theorem Qdh(w0:TwP)(ac body:Code)(u u2 u3:Nat->Nat->Int)(l l2:List Lay)(p:Nat)(tn:Int)(t t':Nat)(f':Nat):QE 632 (QSt d p t tn) (((Hf d l2)::(201,.mp E.1 E.2)::(G0 d)::(497,.lp LoopState.ready none (twT d w0) (Array.mk [31]) ac body)::(QFm w0)::(G2 d f')::(289,.mp E.1 E.2)::ja::List.append (waU) ([QEn,(vh d),(Gb l2),(zT d p u2),vZ,(jt w0),(j4 w0),(QHL w0)]))) (zh d E w0 ac body u3 l f' p tn t')=(some (WY++QBd++(waH d p t t' tn)++(Gg d)++[(i64.wrap ((l2.length:Int)-1)).toNat=l.length]++(QRT E d l l2 p u2 u3)++(wai++[Array.mk [31]=Array.mk [(31:Tmp)],ac=ac,body=body,w0.g 0=w0.g 0])++QBd++[w0.g 3=w0.g 3]++WY++(QI1 w0)++(QGI d w0)++(QTn w0)++(Gg d)++([f'=f',cO=cO]++wbL E)++WY++WY++(QKi d w0))):=by kernel_rfl
theorem QT4(w0:TwP)(ac body:Code)(u:Nat->Nat->Int)(l:List Lay)(f:Nat)(p:Nat):QE 632 (List.append (waL) ([vi (d.ps.n:Int),vi (p:Int)])) ((qS E ac body d f l u w0)) (QBq d E w0 ac body u l f p)=(some (WY++QBd++(wbq d p)++(Gg d)++((wbp E l)++wag l++((wbH d++[QB 1 d.ps.n u u])++wai++[Array.mk [31]=Array.mk [(31:Tmp)],ac=ac,body=body,w0.g 0=w0.g 0]))++QBd++[w0.g 3=w0.g 3]++WY++(QI1 w0)++(QGI d w0)++(QTn w0)++(Gg d)++([f=f,cO=cO]++wbL E)++WY++WY++(QKi d w0))):=by kernel_rfl
noncomputable abbrev QJw(w0:TwP):Nat×Blk:=
  (120,.cells 0 36 [.slz 986 0 w0.o2.length cO])
noncomputable abbrev QHV(w0:TwP):Nat×Blk:=
  (986,.rowz true 89 kB w0.o2.length λi=>QA.enc (w0.o2.getD i (Tw.mk (0:Int) (0:Int))))
theorem QWD(pb1 pb2:List Prop->Bool)(d:Puz)(E:ECt)(w0:TwP)(ac body:Code)(u u2:Nat->Nat->Int)(l l2:List Lay)(v:Bool)(f:Nat)(p:Nat)(tn:Int)(t:Nat)(f':Nat)(g0:Nat->Value):exec (mkE prog (QAK pb1 pb2 d E w0 l ⟨p,t⟩ v (twV d E w0 ac body u2 l2 f f'))) (hnd (mkE prog (QAK pb1 pb2 d E w0 l ⟨p,t⟩ v (twV d E w0 ac body u2 l2 f f'))) 0) (QZ (QI f103 0)) (JSt.inst (zh d E w0 ac body u l f p tn t) g0) (Q6 Z1 QGh) = .br (decide ((t:Int)<tn)) (.need (true) (.br (!Qr (Rw.mk 0 λi=>Pt.mk (0:Int) (Lay.mk (0:Int) (0:Int))) (l.length:Int) (Lay.mk (p:Int) (t:Int))) (.leaf (.tup (Gn d p t tn)) ((qS E ac body d f l u w0))) (.need (pb1 ((QSp E d l p t))) (.br (!v) (.leaf (.tup (Gn d p t tn)) ((qS E ac body d f l u w0))) (.need (decide ((0:Int)<=(p:Int)/\(p:Int)<(d.ps.n:Int))&&decide (d.ps.n<=d.ps.n)) (.need (decide (p<d.ps.n)) (.need (decide (l.length<=l.length)&&(true&&decide ((l.length+1+(l.length+1) / 4+192)*16<=281474976710656/\l.length+1<=9223372036854775807))) (.need (pb2 ((QOm E ac body d f l l2 p t u u2 w0))) (.need (decide ((0:Int)<=i64.wrap ((l2.length:Int)-1)/\(i64.wrap ((l2.length:Int)-1)).toNat<=l2.length-0)) (.need (decide ((0:Int)<=(p:Int)/\(p:Int)<(d.ps.n:Int))&&decide (d.ps.n<=d.ps.n)) (.need (decide (p<d.ps.n)) (.br (true) (.leaf (.tup (wbK)) ([(Hf d l2),(201,.mp E.1 E.2),(G0 d),(497,.lp LoopState.done (some (Code.exit 4)) (twT d w0) (Array.mk [31]) ac body), (QJw w0),(G2 d f'),(289,.mp E.1 E.2),(vh d),(Gb l2),(zT d p u2),vZ,(jt w0),(j4 w0),ja,(464,.cellsR 0 96 [.nils]),(QHV w0)])) (.leaf (.tup (Gn d p t tn)) (((Hf d l2)::(201,.mp E.1 E.2)::(G0 d)::(497,.lp LoopState.done (some (Code.exit 4)) (twT d w0) (Array.mk [31]) ac body)::(QJw w0)::(G2 d f')::(289,.mp E.1 E.2)::ja::List.append (waU) ([QEn,(vh d),(Gb l2),(zT d p u2),vZ,(jt w0),(j4 w0),(QHV w0)])))))))))))))))) (.leaf (.tup (QKI d p)) ((qS E ac body d f l u w0))):=by kernel_rfl
noncomputable abbrev wbi:List Prop:=[LoopState.done=LoopState.done,some (Code.exit 4)=some (Code.exit 4),Array.mk [31]=Array.mk [(31:Tmp)]]
abbrev wbC(w0:TwP):List Prop:=[w0.o2.length<=w0.o2.length,QB 2 w0.o2.length (λi=>QA.enc (w0.o2.getD i (Tw.mk (0:Int) (0:Int)))) λi=>QA.enc (w0.o2.getD i (Tw.mk (0:Int) (0:Int)))]
theorem QiA(w0:TwP)(ac body:Code)(u2 u3:Nat->Nat->Int)(l l2:List Lay)(p:Nat)(f':Nat):QE 632 [.bool true false] ([(Hf d l2),(201,.mp E.1 E.2),(G0 d),(497,.lp LoopState.done (some (Code.exit 4)) (twT d w0) (Array.mk [31]) ac body),(QJw w0),(G2 d f'), (289,.mp E.1 E.2),(vh d),(Gb l2),(zT d p u2),vZ,(jt w0),(j4 w0),ja,(464,.cellsR 0 96 [.nils]),(QHV w0)]) (twF d E w0 ac body u3 l f')=(some ([false=false]++(Gg d)++[(i64.wrap ((l2.length:Int)-1)).toNat=l.length]++(QRT E d l l2 p u2 u3)++(wbi++[ac=ac,body=body,w0.g 0=w0.g 0])++QBd++[w0.g 3=w0.g 3]++WY++(QI1 w0)++(QGI d w0)++(wbc w0++([0=0,w0.o2.length=w0.o2.length,cO=cO]++wbC w0))++(Gg d)++[f'=f',cO=cO,E.1=E.1,E.2=E.2])):=by kernel_rfl
def qv(pb:List Prop->Bool)(d:Puz)(n:Nat)(a:Int):Tab:=Qa QT 52 (KG pb (tnU d n a))
abbrev QES(P:Program)(pb:List Prop->Bool)(d:Puz)(E:ECt)(w0:TwP)(ac body:Code)(u:Nat->Nat->Int)(l:List Lay)(f:Nat)(p:Nat)(X:List (Prop×Ex×JSt)):Hnd:={ hnd (mkE P (qv pb d l.length p)) 0 with loop:=λ_=>JP (p<d.ps.n/\u p 0=0) (KH 632 Z1 (zh d E w0 ac body u l f p (tnV d p) (0:Nat)) X) }
noncomputable abbrev QKa:List AV:=
  (.nilp::.ptr 101 0 0::List.append (waL) ([vi (d.ps.n:Int),vi (i64.wrap ((p:Int)+1))]))
noncomputable abbrev Ya:Nat×Blk:=
  (200,.cells 0 152 (List.append (waf d) ([.map 201,.slz 640 0 l.length cO])))
noncomputable abbrev Xn:Nat×Blk:=
  (568,.cells 0 114 [.slz 648 0 d.ps.n cO])
noncomputable abbrev HB(d:Puz)(w0:TwP):Nat×Blk:=
  (497,.lp LoopState.ready none (twT d w0) (Array.mk [31]) ac body)
noncomputable abbrev Wv(w0:TwP):Nat×Blk:=
  (120,.cells 0 36 [.slz 656 0 w0.o.length cO])
noncomputable abbrev QEJ:Nat×Blk:=
  (288,.cells 0 152 (List.append (waf d) ([.map 289,.slz 664 0 f cO])))
noncomputable abbrev GH:Nat×Blk:=
  (456,.cellsR 0 90 [.ptr 200 0 0])
noncomputable abbrev QDW:Nat×Blk:=
  (584,.cellsR 0 31 [.fn (Fn.func 103) (waL)])
noncomputable abbrev za:Nat×Blk:=
  (0,.frz (List.append (waa) ((List.append (waA) ((List.append (waZ) ([.int .i64])))))) d.ps.n λi=>QA.enc (d.ps.get i))
noncomputable abbrev X6:Nat×Blk:=
  (640,.rowz true 49 kB l.length λi=>QA.enc (l.getD i (Lay.mk (0:Int) (0:Int))))
noncomputable abbrev GS:Nat×Blk:=
  (296,.cellsR 0 90 [.ptr 288 0 0])
noncomputable abbrev HL(w0:TwP):Nat×Blk:=
  (400,.cellsR 0 3 [vi (w0.p:Int)])
noncomputable abbrev zi(w0:TwP):Nat×Blk:=
  (432,.cellsR 0 3 [vi (w0.q:Int)])
noncomputable abbrev qm(w0:TwP):Nat×Blk:=
  (656,.rowz true 89 kB w0.o.length λi=>QA.enc (w0.o.getD i (Tw.mk (0:Int) (0:Int))))
noncomputable abbrev qO:Nat×Blk:=
  (288,.cells 0 152 (List.append (waf d) ([.map 289,.slz 664 0 f' cO])))
noncomputable abbrev QCB(w0:TwP):Nat×Blk:=
  (120,.cells 0 36 [.slz 656 0 w0.o2.length cO])
noncomputable abbrev QED(w0:TwP):Nat×Blk:=
  (656,.rowz true 89 kB w0.o2.length λi=>QA.enc (w0.o2.getD i (Tw.mk (0:Int) (0:Int))))
theorem QSH(pb:List Prop->Bool)(d:Puz)(E:ECt)(w0:TwP)(ac body:Code)(u u':Nat->Nat->Int)(l:List Lay)(f:Nat)(p:Nat)(A B:Prop)(f':Nat)(g0:Nat->Value):exec (mkE prog (qv pb d l.length p)) (QES prog pb d E w0 ac body u l f p [(A,.exit 2,QBq d E w0 ac body u' l f' p),(B,.ret,twF d E w0 ac body u' l f')]) (QI f103 0) (JSt.inst (zM d E w0 ac body u l f p) g0) (Q6 Z1 QJ7) = .br (decide ((p:Int)<(d.ps.n:Int))) (.need (decide ((0:Int)<=(p:Int)/\(p:Int)<(d.ps.n:Int))&&decide (d.ps.n<=d.ps.n)) (.need (decide (p<d.ps.n)) (.br (decide (u ((p:Int).toNat+0) 0=1)) (.leaf (.tup (QKa d p)) (((Ya d l)::(201,.mp E.1 E.2)::(Xn d)::(HB ac body d w0)::(Wv w0)::(QEJ d f)::(289,.mp E.1 E.2)::GH::List.append (waU) ([QDW,(za d),(X6 l),(648,.rowz true 4 [CK.bool] d.ps.n u),GS,(HL w0),(zi w0),(qm w0)])))) (.need (pb (([0=0,0=0,(p:Int)=(p:Int)]++wab d++([cO=cO,0=0,l.length=l.length,cO=cO]++wae d)))) (.ak [p<d.ps.n/\u p 0=0] (.ak (rz 10) (.ak ((wbq d p++[(p:Int)=(p:Int),tnV d (p:Int)=tnV d (p:Int),(0:Int)=0])++wab d++(([cO=cO,0=0]++wbp E l)++wag l++((wbH d++[QB 1 d.ps.n u u])++wai++[Array.mk [(31:Tmp)]=Array.mk [(31:Tmp)],ac=ac,body=body,w0.g 0=w0.g 0,0=0,0=0,0=0,0=0,w0.g 3=w0.g 3]))) (.ak (rz 8) (.ak (([w0.g 8=w0.g 8,w0.g 9=w0.g 9,w0.g 10=w0.g 10]++wan d w0++(([true=true,(w0.q:Int)=(w0.q:Int),0=0,0=0]++wbR)++wao w0++((wbc w0++[0=0,w0.o.length=w0.o.length,cO=cO])++war w0)))++wab d++[cO=cO,0=0,f=f,cO=cO,E.1=E.1,E.2=E.2,Fn.func (103:FuncId)=Fn.func (103:FuncId)]) (.ak (rz 12) (.ak ((wb0 w0)++wae d) (.both (.asm (A) (.all (λ(g0:Nat -> Value)=>.leaf (.tup (QKa d p)) (((Ya d l)::(201,.mp E.1 E.2)::(Xn d)::(HB ac body d w0)::(Wv w0)::(qO d f')::(289,.mp E.1 E.2)::GH::List.append (waU) ([QDW,(za d),(X6 l),(648,.rowz true 4 [CK.bool] d.ps.n u'),GS,(HL w0),(zi w0),(qm w0)])))))) (.asm (B) (.all (λ(g1:Nat -> Value)=>.leaf (.tup [.nili,.ptr 101 0 0,.bool false false]) ([(Ya d l),(201,.mp E.1 E.2),(Xn d),(497,.lp LoopState.done (some (Code.exit 4)) (twT d w0) (Array.mk [31]) ac body),(QCB w0),(qO d f'),(289,.mp E.1 E.2),(X6 l),(648,.rowz true 4 [CK.bool] d.ps.n u'),(QED w0)])))))))))))))))) (.leaf (.tup [.ptr 0 0 0,.ptr 101 0 0]) ([(Ya d l),(201,.mp E.1 E.2),(Xn d),(HB ac body d w0),(Wv w0),(QEJ d f),(289,.mp E.1 E.2),(za d),(X6 l),(648,.rowz true 4 [CK.bool] d.ps.n u),GS,(HL w0),(zi w0),GH,(464,.cellsR 0 96 [.nils]),(qm w0)])):=by kernel_rfl
noncomputable abbrev QNe:List AV:=
  (List.append (waL) ([vi (d.ps.n:Int),vi (i64.wrap ((p:Int)+1))]))
abbrev XJ:List Prop:=
  [0=0,0=0,0=0,0=0,0=0]
abbrev Xp:List Prop:=
  (wab d++[cO=cO,0=0])
abbrev zu(d:Puz)(l:List Lay):List Prop:=
  ((wbp E l)++wag l++(wbH d))
abbrev QHl:List Prop:=
  (wai++[Array.mk [31]=Array.mk [(31:Tmp)],ac=ac])
abbrev HZ(w0:TwP):List Prop:=
  [w0.g 0=w0.g 0,0=0,0=0,0=0,0=0,w0.g 3=w0.g 3]
abbrev GQ(w0:TwP):List Prop:=
  [0=0,0=0,0=0,w0.g 8=w0.g 8,w0.g 9=w0.g 9]
abbrev zl(w0:TwP):List Prop:=
  ([w0.g 10=w0.g 10]++wan d w0++(([true=true,(w0.q:Int)=(w0.q:Int),0=0,0=0]++wbR)++wao w0))
abbrev QDj(w0:TwP):List Prop:=
  ((wbc w0++[0=0,w0.o.length=w0.o.length,cO=cO])++war w0)
abbrev QPJ(w0:TwP):List Prop:=
  (([0=0,0=0]++wb0 w0)++wae d)
theorem QMS(w0:TwP)(ac body:Code)(u:Nat->Nat->Int)(l:List Lay)(f:Nat)(p p':Nat):QE 632 (QNe d p) (((Ya d l)::(201,.mp E.1 E.2)::(Xn d)::(HB ac body d w0)::(Wv w0)::(QEJ d f)::(289,.mp E.1 E.2)::GH::List.append (waU) ([QDW,(za d),(X6 l),(648,.rowz true 4 [CK.bool] d.ps.n u),GS,(HL w0),(zi w0),(qm w0)]))) (zM d E w0 ac body u l f p')=(some (XJ ++ XJ++[(d.ps.n:Int)=(d.ps.n:Int),i64.wrap ((p:Int)+1)=(p':Int)]++(Xp d)++(zu E d l)++[QB 1 d.ps.n u u]++(QHl ac)++[body=body] ++ (HZ w0)++XJ++(GQ w0)++(zl d w0)++(QDj w0)++(Xp d)++([f=f,cO=cO]++wbL E)++XJ ++ XJ++(QPJ d w0))):=by kernel_rfl
theorem Qea(w0:TwP)(ac body:Code)(u':Nat->Nat->Int)(l:List Lay)(p p':Nat)(f':Nat):QE 632 (QNe d p) (((Ya d l)::(201,.mp E.1 E.2)::(Xn d)::(HB ac body d w0)::(Wv w0)::(qO d f')::(289,.mp E.1 E.2)::GH::List.append (waU) ([QDW,(za d),(X6 l),(648,.rowz true 4 [CK.bool] d.ps.n u'),GS,(HL w0),(zi w0),(qm w0)]))) (zM d E w0 ac body u' l f' p')=(some (XJ ++ XJ++[(d.ps.n:Int)=(d.ps.n:Int),i64.wrap ((p:Int)+1)=(p':Int)]++(Xp d)++(zu E d l)++[QB 1 d.ps.n u' u']++(QHl ac)++[body=body] ++ (HZ w0)++XJ++(GQ w0)++(zl d w0)++(QDj w0)++(Xp d)++([f'=f',cO=cO]++wbL E) ++ XJ++XJ++(QPJ d w0))):=by kernel_rfl
abbrev QP1(w0:TwP):List Prop:=
  (wbc w0++([0=0,w0.o2.length=w0.o2.length,cO=cO]++wbC w0))
theorem Qcw(w0:TwP)(ac body:Code)(u':Nat->Nat->Int)(l:List Lay)(f':Nat):QE 632 [.bool false false] ([(Ya d l),(201,.mp E.1 E.2),(Xn d),(497,.lp LoopState.done (some (Code.exit 4)) (twT d w0) (Array.mk [31]) ac body),(QCB w0),(qO d f'), (289,.mp E.1 E.2),(X6 l),(648,.rowz true 4 [CK.bool] d.ps.n u'),(QED w0)]) (twF d E w0 ac body u' l f')=(some ([false=false]++(Xp d)++(zu E d l)++([QB 1 d.ps.n u' u']++wbi++[ac=ac,body=body])++(HZ w0)++XJ++(GQ w0)++(zl d w0)++(QP1 w0)++(Xp d)++[f'=f',cO=cO,E.1=E.1,E.2=E.2])):=by kernel_rfl
theorem QNA(w0:TwP)(ac body:Code)(u:Nat->Nat->Int)(l:List Lay)(f:Nat):QE 632 [] ([(Ya d l),(201,.mp E.1 E.2),(Xn d),(HB ac body d w0),(Wv w0),(QEJ d f),(289,.mp E.1 E.2),(za d),(X6 l),(648,.rowz true 4 [CK.bool] d.ps.n u), GS,(HL w0),(zi w0),GH,(464,.cellsR 0 96 [.nils]),(qm w0)]) (vv d E w0 ac body u l f)=(some ((Xp d)++(zu E d l)++[QB 1 d.ps.n u u]++(QHl ac)++[body=body]++(HZ w0)++XJ++(GQ w0)++(zl d w0)++(QDj w0)++(Xp d)++[f=f,cO=cO,E.1=E.1,E.2=E.2])):=by kernel_rfl
abbrev twX(P:Program)(J:JSt)(X:List (Prop×Ex×JSt)):Hnd:={ hnd (mkE P QT) 0 with loop:=λ_=>KH 632 Z1 J X }
noncomputable abbrev QSF(w0:TwP):Nat×Blk:=
  (497,.lp LoopState.done (some (Code.exit 4)) (twT d w0) (Array.mk [31]) (Q1 (QZ (QI f21 0))).1 (Q1 (QZ (QI f21 0))).2)
theorem QSk(w0:TwP)(u u':Nat->Nat->Int)(l:List Lay)(f:Nat)(A B:Prop)(f':Nat):(Vt (mkE prog QT) (twX prog (zM d E w0 (Q1 (QZ (QI f21 0))).1 (Q1 (QZ (QI f21 0))).2 u l f 0) [(A,.exit 0,vv d E w0 (Q1
  (QZ (QI f21 0))).1 (Q1 (QZ (QI f21 0))).2 u' l f'),(B,.ret,twF d E w0 (Q1 (QZ (QI f21 0))).1 (Q1 (QZ (QI f21 0))).2
  u' l f')]) f103 QGm (Gs d E w0 (Q1 (QZ (QI f21 0))).1 (Q1 (QZ (QI f21 0))).2 u l f).hp 632 λv h _=>ZC Z1 v h) = .br ((l.length
  : Int) == (d.ps.n : Int)) (.fail ("yield")) (.ak (rz 9) (.ak [0 =
  0,(d.ps.n:Int)=(d.ps.n:Int),(0:Int)=0,d.pK.length=d.pK.length,d.pK.aK=d.pK.aK,d.pK.oK=d.pK.oK] (.ask
  (d.pK.dK.lo=d.pK.dK.lo) (.ak [d.pK.dK.hi=d.pK.dK.hi,d.wide=d.wide,d.high=d.high,d.turn=d.turn,0=0,d.ps.n =
  d.ps.n,Cap.of 0=Cap.of 0,0=0,l.length=l.length,Cap.of 0=Cap.of 0,E.1=E.1,E.2=E.2,l.length<=l.length] (.ask
  (QB 2 l.length (λi=>QA.enc (l.getD i (Lay.mk (0:Int) (0:Int)))) λi=>QA.enc (l.getD i (Lay.mk (0:Int) (0:Int)))) (.ak [0=0,d.ps.n=d.ps.n] (.ask
  (Cap.of 0=Cap.of 0) (.ak [d.ps.n<=d.ps.n,QB 1 d.ps.n u u,LoopState.ready=LoopState.ready,(none:Option Code)=none,Array.mk [(31:Tmp)]
  = Array.mk [(31:Tmp)],(Q1 (QZ (QI f21 0))).1=(Q1 (QZ (QI f21 0))).1,(Q1 (QZ (QI f21 0))).2=(Q1 (QZ
  (QI f21 0))).2,w0.g 0=w0.g 0,0=0,0=0,0=0,0=0,w0.g 3=w0.g 3,0=0,0=0,0=0,0 =
  0,0=0,0=0,0=0,0=0,w0.g 8=w0.g 8,w0.g 9=w0.g 9,w0.g 10=w0.g 10,w0.g 11=w0.g 11,w0.g 12=w0.g
  12,w0.g 13=w0.g 13,w0.g 14=w0.g 14,w0.g 15=w0.g 15,w0.g 16=w0.g 16,w0.g 17=w0.g 17,w0.g 18=w0.g 18,w0.g 19=w0.g
  19,w0.g 20=w0.g 20,(d.ps.n:Int)=(d.ps.n:Int),(w0.p:Int)=(w0.p:Int),w0.g 23=w0.g 23,w0.g 24=w0.g 24,(w0.p:Int) =
  (w0.p:Int),(w0.q:Int)=(w0.q:Int),true=true,(w0.q:Int)=(w0.q:Int),0=0,0=0,Fn.func (102:FuncId)=Fn.func (102 :
  FuncId),0=0,0=0,0=0,0=0,w0.g 31=w0.g 31,w0.g 32=w0.g 32,w0.g 33=w0.g 33,w0.g 34=w0.g 34,w0.g
  35=w0.g 35,w0.g 36=w0.g 36,w0.g 37=w0.g 37,w0.g 38=w0.g 38,w0.g 39=w0.g 39,w0.g 40=w0.g 40,w0.g 41=w0.g 41,w0.g
  42=w0.g 42,w0.g 43=w0.g 43,w0.g 44=w0.g 44,w0.g 45=w0.g 45,w0.g 46=w0.g 46,w0.g 47=w0.g 47,0=0,w0.o.length =
  w0.o.length,Cap.of 0=Cap.of 0,w0.o.length<=w0.o.length,QB 2 w0.o.length (λi=>QA.enc (w0.o.getD i (Tw.mk (0:Int) (0:Int)))) λi=>
  QA.enc (w0.o.getD i (Tw.mk (0:Int) (0:Int))),d.pK.length=d.pK.length,d.pK.aK=d.pK.aK,d.pK.oK=d.pK.oK] (.ask
  (d.pK.dK.lo=d.pK.dK.lo) (.ask (d.pK.dK.hi=d.pK.dK.hi) (.ask (d.wide=d.wide) (.ask (d.high=d.high) (.ask (d.turn=d.turn) (.ask (0=0) (.ask (d.ps.n =
  d.ps.n) (.ask (Cap.of 0=Cap.of 0) (.ask (0=0) (.ask (f=f) (.ask (Cap.of 0=Cap.of 0) (.ask (E.1=E.1) (.ask (E.2=E.2) (.ask (Fn.func (103:FuncId)=Fn.func (103 :
  FuncId)) (.ask (0=0) (.ask (0=0) (.ask (0=0) (.ask (0=0) (.ask (0=0) (.ask (0=0) (.ask (0=0) (.ask (0=0) (.ask (0=0) (.ask (0=0) (.ask (0=0) (.ask (0=0)
  (.ak [(w0.q:Int)=(w0.q:Int),(w0.p:Int)=(w0.p:Int),0=0,0=0,d.ps.n<=d.ps.n,QB 28 d.ps.n (λi=>QA.enc (d.ps.get i))
  λi=>QA.enc (d.ps.get i)] (.both (.asm (A) (.all (λ(g0:Nat->Value)=>.leaf (.bool true true) ([(Ya d l),(201,.mp E.1 E.2),(Xn d),(497,.lp LoopState.ready none
  (twT d w0) (Array.mk [31]) (Q1 (QZ (QI f21 0))).1 (Q1 (QZ (QI f21 0))).2),(Wv w0),(qO d f'),(289,.mp E.1 E.2),(X6 l),(648,.rowz true 4
  [CK.bool] d.ps.n u'),(qm w0)])))) (.asm (B) (.all (λ(g1:Nat->Value)=>.leaf (.bool false false) ([(Ya d l),(201,.mp E.1 E.2),(Xn d),(QSF d w0),(QCB w0),(qO
  d f'),(289,.mp E.1 E.2),(X6 l),(648,.rowz true 4 [CK.bool] d.ps.n u'),(QED
  w0)])))))))))))))))))))))))))))))))))))))))):=by kernel_rfl
abbrev wba:List Prop:=[(Q1 (QZ (QI f21 0))).1=(Q1 (QZ (QI f21 0))).1,(Q1 (QZ (QI f21 0))).2=(Q1 (QZ (QI f21 0))).2]
theorem QUU(w0:TwP)(u u':Nat->Nat->Int)(l:List Lay)(f:Nat)(f':Nat):QE 632 [(.bool true true)] ([(Ya d l),(201,.mp E.1 E.2),(Xn d),(497,.lp LoopState.ready none (twT d w0) (Array.mk [31]) (Q1 (QZ (QI f21 0))).1 (Q1 (QZ (QI f21 0))).2),(Wv w0),(qO d f'),(289,.mp E.1 E.2),(X6 l),(648,.rowz true 4 [CK.bool] d.ps.n u'),(qm w0)]) (KR (twU d E w0 (Q1 (QZ (QI f21 0))).1 (Q1 (QZ (QI f21 0))).2 u l f f'))=(some ([true=true]++(Xp d)++(zu E d l)++([QB 1 d.ps.n u' u]++wai++([Array.mk [31]=Array.mk [(31:Tmp)]]++wba))++(HZ w0)++XJ++(GQ w0)++(zl d w0)++(QDj w0)++(Xp d)++[f'=f',cO=cO,E.1=E.1,E.2=E.2])):=by kernel_rfl
theorem QfH(w0:TwP)(u u':Nat->Nat->Int)(l:List Lay)(f:Nat)(f':Nat):QE 632 [(.bool false false)] ([(Ya d l),(201,.mp E.1 E.2),(Xn d),(QSF d w0),(QCB w0),(qO d f'),(289,.mp E.1 E.2),(X6 l),(648,.rowz true 4 [CK.bool] d.ps.n u'),(QED w0)]) (KR (twV d E w0 (Q1 (QZ (QI f21 0))).1 (Q1 (QZ (QI f21 0))).2 u l f f'))=(some ([false=false]++(Xp d)++(zu E d l) ++ (([QB 1 d.ps.n u' u]++wbi)++wba)++(HZ w0)++XJ++(GQ w0)++(zl d w0) ++ (QP1 w0)++(Xp d)++[f'=f',cO=cO,E.1=E.1,E.2=E.2])):=by kernel_rfl
def XM(w0:TwP)(ac body:Code)(l:List Lay)(s:TJ):Qb TJ->UC
 | .go s'=>twU d E w0 ac body (QD l) l s.1 s'.1
 | .stop s'=>twV d E w0 ac body (QD l) l s.1 s'.1
open Classical in
noncomputable def Zp:List Prop->Bool:=if t<QY d p then QQ else λ_=>false
noncomputable def jp(P:Program)(d:Puz)(E:ECt)(w0:TwP)(ac body:Code)(rec:List Lay->TJ->Qb TJ)(l:List Lay)(p:Nat)(k:Nat×TJ):Env:=
 mkE P (QAK (Zp d p k.1) (Zp d p k.1) d E w0 l ⟨p,k.1⟩ (Qy d E l ⟨p,k.1⟩) (XM d E w0 ac body (l++[⟨p,k.1⟩]) k.2 (rec (l++[⟨p,k.1⟩]) k.2)))
def ZG(w0:TwP)(ac body:Code)(rec:List Lay->TJ->Qb TJ)(l:List Lay)(p:Nat)(k:Nat×TJ)(e:Ex)(J:JSt):Prop:=match Qv (KE d E rec l p) ((List.range (QY d p)).drop k.1) k.2 with
 | .go s'=>e = .exit 2/\J=QBq d E w0 ac body (QD l) l s'.1 p
 | .stop s'=>e = .ret/\J=twF d E w0 ac body (QD l) l s'.1
set_option maxHeartbeats 1000000 in
theorem Qgs(w0:TwP)(ac body:Code)(rec:List Lay->TJ->Qb TJ)(l:List Lay)(p:Nat)(hp:p<d.ps.n)(hn:d.ps.n<=1000)(hl:l.length<=1000)(hu:KK l p=false):JW (λk:Nat×TJ=>zh d E w0 ac body (QD l) l k.2.1 p (tnV d p) k.1) (λk=>k.1<=QY d p) (λk=>QY d p-k.1) (ZG d E w0 ac body rec l p) 632 QGh Z1 (jp prog d E w0 ac body rec l p) (λk=>hnd (jp prog d E w0 ac body rec l p k) 0) (QZ (QI f103 0)):=by
 refine⟨λk g0 hk=>?_⟩;obtain⟨t,f,hq0⟩:=k;have hk:t<=QY d p:=hk;obtain⟨ht1,ht4⟩:=WX d p;have hlen:(l++[(⟨p,t⟩:Lay)]).length=l.length+1:=by rw[List.length_append,List.length_singleton]
 have hw1:i64.wrap (((l++[(⟨p,t⟩:Lay)]).length:Int)-1)=l.length:=(w64 (by omega) (by omega)).trans (by omega)
 have hpop:(i64.wrap (((l++[(⟨p,t⟩:Lay)]).length:Int)-1)).toNat=l.length:=by rw[hw1];exact Int.toNat_natCast _
 have hle:l.length<=(l++[(⟨p,t⟩:Lay)]).length:=by omega
 have hpb:t<QY d p->Zp d p t=QQ:=λh=>by unfold Zp;rw[if_pos h]
 have wt:t<QY d p->i64.wrap ((t:Int)+1)=((t+1:Nat):Int):=λh=>(w64 (by omega) (by omega)).trans (by omega)
 have step:=λh:t<QY d p=>Wx (f:=KE d E rec l p) h ⟨f,hq0⟩;unfold jp;simp only
 have next:t<QY d p->∀{s2:TJ},KE d E rec l p ⟨f,hq0⟩ t = .go s2->∀ e J,ZG d E w0 ac body rec l p (t+1,s2) e J->ZG d E w0 ac body rec l p (t,⟨f,hq0⟩) e J:=by
  intro h s2 he e J hr;unfold ZG at hr ⊢;simp only at hr ⊢;rw[step h,he];exact hr
 have last:QY d p<=t->ZG d E w0 ac body rec l p (t,⟨f,hq0⟩) (.exit 2) (QBq d E w0 ac body (QD l) l f p):=by
  intro h;unfold ZG;simp only[qe h,and_self]
 cases hr:rec (l++[⟨p,t⟩]) ⟨f,hq0⟩with
 | go s'=>
  obtain⟨f',hq1⟩:=s';simp only[XM];have et:=QVE (Zp d p t) (Zp d p t) d E w0 ac body (QD l) (QD (l++[⟨p,t⟩])) l (l++[⟨p,t⟩]) (Qy d E l ⟨p,t⟩) f p (tnV d p) t f' g0;refine Qg et ?_;clear et;refine QF (λb0=>?_) (λb0=>?_);have h:t<QY d p:=by have:=qdt b0;omega
  rw[hpb h];have hw:=wt h;refine QG ?_ ?_;rotate_left;refine QF ?_ ?_<;>intro b1
  .exact Bool.noConfusion (show false=true from b1)
  refine QG ?_ ?_;rotate_left;refine QF (λb2=>?_) (λb2=>?_);have hv:Qy d E l ⟨p,t⟩=false:=by simpa using b2
  have ho:KE d E rec l p ⟨f,hq0⟩ t = .go ⟨f,hq0⟩:=by unfold KE;rw[hv];rfl
  refine⟨(t+1,⟨f,hq0⟩),h,by show QY d p-(t+1)<QY d p-t;omega,next h ho,rfl,rfl,_,QPn d E w0 ac body (QD l) l f p (tnV d p) t (t+1),?_⟩
  rotate_left
  iterate 7 (refine QG ?_ ?_;rotate_left)
  refine QF ?_ ?_<;>intro b3
  .cases b3
  have hv:Qy d E l ⟨p,t⟩=true:=by simpa using b2
  have ho:KE d E rec l p ⟨f,hq0⟩ t = .go ⟨f',hq1⟩:=by unfold KE;rw[hv];exact hr
  have hb:=qM l d.ps.n p t hu;have hq:=qo l ⟨p,t⟩;have hnx:=next h ho
  clear next last step hr ho
  generalize QD (l++[⟨p,t⟩])=u2 at hb ⊢;generalize l++[⟨p,t⟩]=l2 at hpop hle hq ⊢;generalize hu1:QD l=u1 at hb ⊢;refine⟨(t+1,⟨f',hq1⟩),h,by show QY d p-(t+1)<QY d p-t;omega,hnx,rfl,rfl,_,Qdh d E w0 ac body u1 u2 u1 l l2 p (tnV d p) t (t+1) f',?_⟩
  rotate_left
  have h:QY d p<=t:=by have:=qdf b0;omega
  refine⟨_,last h,rfl,rfl,_,QT4 d E w0 ac body (QD l) l f p,?_⟩
  rotate_left
  all_goals first|((with_reducible show _=true);(first|rfl|(refine KA.2 ?_;repeat' first|with_reducible refine QP ?_ ?_|exact tv|with_reducible exact qRr|with_reducible exact hlen|with_reducible exact hlen.symm|with_reducible exact Nat.le_of_eq hlen|with_reducible exact qD l ⟨p,t⟩|with_reducible exact W9 l _ p t|exact rfl|refine aI ?_ ?_)|(rw[hw1];simp)|(simp;omega)))|(repeat' first|with_reducible refine QP ?_ ?_|exact tv|with_reducible exact qRr|with_reducible exact hw|with_reducible exact hpop|with_reducible exact hle|with_reducible exact hq|with_reducible exact hb|exact rfl|refine aI ?_ ?_)
 | stop s'=>
  obtain⟨f',hq1⟩:=s';simp only[XM];have et:=QWD (Zp d p t) (Zp d p t) d E w0 ac body (QD l) (QD (l++[⟨p,t⟩])) l (l++[⟨p,t⟩]) (Qy d E l ⟨p,t⟩) f p (tnV d p) t f' g0;refine Qg et ?_;clear et;refine QF (λb0=>?_) (λb0=>?_);have h:t<QY d p:=by have:=qdt b0;omega
  rw[hpb h];have hw:=wt h;refine QG ?_ ?_;rotate_left;refine QF ?_ ?_<;>intro b1
  .exact Bool.noConfusion (show false=true from b1)
  refine QG ?_ ?_;rotate_left;refine QF (λb2=>?_) (λb2=>?_);have hv:Qy d E l ⟨p,t⟩=false:=by simpa using b2
  have ho:KE d E rec l p ⟨f,hq0⟩ t = .go ⟨f,hq0⟩:=by unfold KE;rw[hv];rfl
  refine⟨(t+1,⟨f,hq0⟩),h,by show QY d p-(t+1)<QY d p-t;omega,next h ho,rfl,rfl,_,QPn d E w0 ac body (QD l) l f p (tnV d p) t (t+1),?_⟩
  rotate_left
  iterate 7 (refine QG ?_ ?_;rotate_left)
  refine QF (λb3=>?_) (λb3=>?_);have hv:Qy d E l ⟨p,t⟩=true:=by simpa using b2
  have ho:KE d E rec l p ⟨f,hq0⟩ t = .stop ⟨f',hq1⟩:=by unfold KE;rw[hv];exact hr
  have hrel:ZG d E w0 ac body rec l p (t,⟨f,hq0⟩) .ret (twF d E w0 ac body (QD l) l f'):=by
   unfold ZG;simp only[step h,ho,and_self]
  have hb:=qM l d.ps.n p t hu;have hq:=qo l ⟨p,t⟩;clear next last step hr ho
  generalize QD (l++[⟨p,t⟩])=u2 at hb ⊢;generalize l++[⟨p,t⟩]=l2 at hpop hle hq ⊢;generalize hu1:QD l=u1 at hb hrel ⊢;refine⟨_,hrel,rfl,rfl,_,QiA d E w0 ac body u2 u1 l l2 p f',?_⟩
  rotate_left
  .cases b3
  have h:QY d p<=t:=by have:=qdf b0;omega
  refine⟨_,last h,rfl,rfl,_,QT4 d E w0 ac body (QD l) l f p,?_⟩
  rotate_left
  all_goals first|((with_reducible show _=true);(first|rfl|(refine KA.2 ?_;repeat' first|with_reducible refine QP ?_ ?_|exact tv|with_reducible exact qRr|with_reducible exact hlen|with_reducible exact hlen.symm|with_reducible exact Nat.le_of_eq hlen|with_reducible exact qD l ⟨p,t⟩|with_reducible exact W9 l _ p t|exact rfl|refine aI ?_ ?_)|(rw[hw1];simp)|(simp;omega)))|(repeat' first|with_reducible refine QP ?_ ?_|exact tv|with_reducible exact qRr|with_reducible exact hw|with_reducible exact hpop|with_reducible exact hle|with_reducible exact hq|with_reducible exact hb|exact rfl|refine aI ?_ ?_)
def QCe(w0:TwP)(ac body:Code)(rec:List Lay->TJ->Qb TJ)(l:List Lay)(p:Nat):Prop:=∀ t,t<QY d p->∀ s,QS prog 103 (uFC (XM d E w0 ac body (l++[⟨p,t⟩]) s (rec (l++[⟨p,t⟩]) s)))
theorem Qb2{d:Puz}{E:ECt}{w0:TwP}{ac body:Code}{rec:List Lay->TJ->Qb TJ}{l:List Lay}{p:Nat}(hd:KB d)(hE:WfE E)(hl:l.length<=1000)(hL:∀ y∈l,Q8 d y)(hp:p<d.ps.n)(IH:QCe d E w0 ac body rec l p)(k:Nat×TJ):(jp prog d E w0 ac body rec l p k).Sound:=by
 unfold jp Zp
 by_cases h:k.1<QY d p
 .rw[if_pos h];have h4:=(WX d p).2;exact QO ((Qf.add (QDD d E l ⟨p,k.1⟩ hd hE hl hL ⟨⟨by show(0:Int)<=p;omega,by show(p:Int)<_;omega⟩,by show(0:Int)<=k.1;omega,by show(k.1:Int)<=3;omega⟩)).add (IH k.1 h k.2))
 .rw[if_neg h];exact QO ((Qf.add (Jr (by kernel_rfl) _)).add (Jr (by kernel_rfl) _))
def H4(w0:TwP)(ac body:Code)(rec:List Lay->TJ->Qb TJ)(l:List Lay)(p:Nat)(s:TJ):List (Prop×Ex×JSt):=
 [((inZ d E rec l p s).isGo=true,.exit 2,QBq d E w0 ac body (QD l) l (inZ d E rec l p s).s.1 p),((inZ d E rec l p s).isGo=false,.ret,twF d E w0 ac body (QD l) l (inZ d E rec l p s).s.1)]
theorem QXF{d:Puz}{E:ECt}{w0:TwP}{ac body:Code}{rec:List Lay->TJ->Qb TJ}{l:List Lay}(hd:KB d)(hE:WfE E)(hl:l.length<=1000)(hL:∀ y∈l,Q8 d y)(p:Nat)(s:TJ)(IH:p<d.ps.n->QCe d E w0 ac body rec l p)(G:Ctx)(hrd:G.rd=none)(hG:G.n<=632):
  Qx (mkE prog (qv QQ d l.length p)) G (QES prog QQ d E w0 ac body (QD l) l s.1 p (H4 d E w0 ac body rec l p s)) (QI f103 0):=by
 have hT:Qd (qv QQ d l.length p):=Qf.add (YR d l.length p);refine KO (body:=QZ (QI f103 0)) (QO hT) hrd (by kernel_rfl) ?_
 refine Jj λhp=>?_;have hu:=QCq hp.2;have hEnv:=Qb2 (ac:=ac) (body:=body) hd hE hl hL hp.1 (IH hp.1);refine Jq (E0:=mkE prog (qv QQ d l.length p)) (E:=jp prog d E w0 ac body rec l p) (H:=λk=>hnd (jp prog d E w0 ac body rec l p k) 0) (n0:=632) (s0:=(0,s)) (λ_=>rfl) hEnv hG (λk _=>Qw (hEnv k) 0 G _ hrd) (λk _=>(by decide:632<=672)) ?_ (Qgs d E w0 ac body rec l p hp.1 hd.n hl hu) (Nat.zero_le _) ?_
 .intro k e J hr;unfold ZG at hr;split at hr<;>(rw[hr.2];exact(by decide:632<=672))
 .intro e J hr;unfold ZG at hr;simp only[List.drop_zero]at hr;have hi:inZ d E rec l p s=Qv (KE d E rec l p) (List.range (QY d p)) s:=rfl;unfold H4;rw[hi];cases hc:Qv (KE d E rec l p) (List.range (QY d p)) s with
  | go s'=>
   rw[hc]at hr;exact⟨_,qmc,rfl,hr.1.symm,hr.2.symm⟩
  | stop s'=>
   rw[hc]at hr;exact⟨_,List.mem_cons_of_mem _ qmc,rfl,hr.1.symm,hr.2.symm⟩
