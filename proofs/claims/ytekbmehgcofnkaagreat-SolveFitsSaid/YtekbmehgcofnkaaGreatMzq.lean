/- - -/
import Derived.Test.YtekbmehgcofnkaaGreatMzp
open Go.Proofs.Tryz
open Go.IntKind (i64)
set_option maxRecDepth 100000
namespace Go.Proofs.YtekbmehgcofnkaaGreat
open Go.SX Go.SX.Told
abbrev TJ:={f:Nat // True}
structure TwP where
 o:List Tw
 o2:List Tw
 p:Nat
 q:Nat
 g:Nat->Value
def rwT(id:Nat)(o:List Tw):Nat×Blk:=(id,.rowz true 89 kB o.length λi=>QA.enc (o.getD i ⟨0,0⟩))
variable (d:Puz)(E:ECt)(ac body:Code)(l2 l:List Lay)(p:Nat)(u2:Nat->Nat->Int)(f t:Nat)(tn:Int)(f':Nat)
def twT(w0:TwP):List AV:=[.raw (w0.g 0),.ptr 112 0 0,.ptr 120 0 0,.raw (w0.g 3),.ptr 200 0 0,.ptr 296 0 0,.ptr 400 0 0,.ptr 432 0 0,.raw (w0.g 8),.raw (w0.g 9),.raw (w0.g 10),.raw (w0.g 11),.raw (w0.g 12),.raw (w0.g 13),.raw (w0.g 14),.raw (w0.g 15),.raw (w0.g 16),.raw (w0.g 17),.raw (w0.g 18),.raw (w0.g 19),.raw (w0.g 20),.int false .i64 d.ps.n,.int false .i64 w0.p,.raw (w0.g 23),.raw (w0.g 24),.int false .i64 w0.p,.int false .i64 w0.q,.bool true true,.int false .i64 w0.q,.ptr 200 0 0,.fn (.func 102) [.ptr 456 0 0,.ptr 464 0 0],.raw (w0.g 31),.raw (w0.g 32),.raw (w0.g 33),.raw (w0.g 34),.raw (w0.g 35),.raw (w0.g 36),.raw (w0.g 37),.raw (w0.g 38),.raw (w0.g 39),.raw (w0.g 40),.raw (w0.g 41),.raw (w0.g 42),.raw (w0.g 43),.raw (w0.g 44),.raw (w0.g 45),.raw (w0.g 46),.raw (w0.g 47)]
def QGD:List AV:=[.ptr 456 0 0,.ptr 504 0 0,.ptr 568 0 0,.ptr 464 0 0,.ptr 584 0 0]
def twR(w0:TwP):List (Nat×Blk):=
 [(584,.cellsR 0 31 [.fn (.func 103) QGD]),(504,.cellsR 0 105 [.yld 497]),(464,.cellsR 0 96 [.nils]),(456,.cellsR 0 90 [.ptr 200 0 0]),(432,.cellsR 0 3 [vi w0.q]),(400,.cellsR 0 3 [vi w0.p]),(296,.cellsR 0 90 [.ptr 288 0 0])]++Ql.blk 0 d.ps
def twW(ls:LoopState)(pe:Option Code)(oo:List Tw)(d:Puz)(E:ECt)(w0:TwP)(ac body:Code)(u:Nat->Nat->Int)(l:List Lay)(a w c b:Nat)(f:Nat):List (Nat×Blk):=
 [(200,.cells 0 152 (KR d++[.map 201,.slz a 0 l.length (.of 0)])),(201,.mp E.1 E.2),rwY a l,(568,.cells 0 114 [.slz w 0 d.ps.n (.of 0)]),rwU w d u,(497,.lp ls pe (twT d w0) #[31] ac body),(120,.cells 0 36 [.slz c 0 oo.length (.of 0)]),rwT c oo,bdZ d b f,(289,.mp E.1 E.2)]
def twS:List (Nat×AV):=[(0,.ptr 456 0 0),(1,.ptr 504 0 0),(2,.ptr 568 0 0),(3,.ptr 464 0 0),(4,.ptr 584 0 0)]
def GF(w0:TwP)(ac body:Code)(u:Nat->Nat->Int)(l:List Lay)(f:Nat):JSt:=⟨5,twS,twW .ready none w0.o d E w0 ac body u l 600 608 616 624 f++twR d w0,632⟩
def twU(w0:TwP)(ac body:Code)(u:Nat->Nat->Int)(l:List Lay)(f:Nat)(f':Nat):UC:=
 ⟨592,GF d E w0 ac body u l f,λ_=>.bool false true,λm=>twW .ready none w0.o d E w0 ac body u l m (m+1) (m+2) (m+3) f'⟩
def twV(w0:TwP)(ac body:Code)(u:Nat->Nat->Int)(l:List Lay)(f:Nat)(f':Nat):UC:=
 ⟨592,GF d E w0 ac body u l f,λ_=>.bool false false,λm=>twW .done (some (.exit 4)) w0.o2 d E w0 ac body u l m (m+1) (m+2) (m+3) f'⟩
def Z3:List Nat:=[200,201,568,497,120,288,289]
def QIL(n:Nat)(p:Nat):List (Nat×AV):=twS++[(33,.int false .i64 n),(34,.int false .i64 p)]
def QfM(n:Nat)(p:Nat)(tn:Int)(t:Nat):List (Nat×AV):=QIL n p++[(6,.int false .i64 p),(43,.int false .i64 tn),(44,.int false .i64 t)]
def zX(w0:TwP)(ac body:Code)(u:Nat->Nat->Int)(l:List Lay)(f:Nat)(p:Nat):JSt:=⟨101,QIL d.ps.n p,twW .ready none w0.o d E w0 ac body u l 640 648 656 664 f++twR d w0,672⟩
def vu(w0:TwP)(ac body:Code)(u:Nat->Nat->Int)(l:List Lay)(f:Nat)(p:Nat)(tn:Int)(t:Nat):JSt:=⟨101,QfM d.ps.n p tn t,twW .ready none w0.o d E w0 ac body u l 640 648 656 664 f++twR d w0,672⟩
def GW(w0:TwP)(ac body:Code)(u:Nat->Nat->Int)(l:List Lay)(f:Nat):JSt:=⟨101,[],twW .ready none w0.o d E w0 ac body u l 640 648 656 664 f,672⟩
def QAY(w0:TwP)(ac body:Code)(u:Nat->Nat->Int)(l:List Lay)(f:Nat)(p:Nat):JSt:=⟨101,QIL d.ps.n p,twW .ready none w0.o d E w0 ac body u l 640 648 656 664 f++twR d w0,672⟩
def twF(w0:TwP)(ac body:Code)(u:Nat->Nat->Int)(l:List Lay)(f:Nat):JSt:=⟨101,[(5,.bool false false)],twW .done (some (.exit 4)) w0.o2 d E w0 ac body u l 640 648 656 664 f,672⟩
def QJC:Ex->List Nat
 | .normal=>[0,1,2,3,4,33,34]
 | .exit _=>[]
 | .ret=>[5]
def QGa:Ex->List Nat
 | .normal=>[0,1,2,3,4,33,34,6,43,44]
 | .exit _=>[0,1,2,3,4,33,34]
 | .ret=>[5]
def QAQ(pb1 pb2:List Prop->Bool)(d:Puz)(E:ECt)(w0:TwP)(l:List Lay)(x:Lay)(v:Bool)(U:UC):Tab:=Qc (Qc QT 105 (KB pb1 (myU d E l x v))) 103 (KB pb2 U)
noncomputable abbrev wa5:List AV:=[.ptr 456 0 0,.ptr 504 0 0,.ptr 568 0 0,.ptr 464 0 0,.ptr 584 0 0]
noncomputable abbrev zr:List AV:=
  (.nilp::.ptr 101 0 0::List.append (wa5) ((List.append (wcp d p) ([.int false .i64 tn,vi (i64.wrap ((t:Int)+1))]))))
noncomputable abbrev jM:Nat×Blk:=
  (456,.cellsR 0 90 [.ptr 200 0 0])
noncomputable abbrev QEm:Nat×Blk:=
  (584,.cellsR 0 31 [.fn (Fn.func 103) (wa5)])
noncomputable abbrev jl:Nat×Blk:=
  (0,.frz (List.append (waa) ((List.append (waG) ((List.append (wbk) ([.int .i64])))))) d.ps.n λi=>QA.enc (d.ps.get i))
noncomputable abbrev vB:Nat×Blk:=
  (296,.cellsR 0 90 [.ptr 288 0 0])
noncomputable abbrev jF(w0:TwP):Nat×Blk:=
  (400,.cellsR 0 3 [vi (w0.p:Int)])
noncomputable abbrev jU(w0:TwP):Nat×Blk:=
  (432,.cellsR 0 3 [vi (w0.q:Int)])
noncomputable abbrev wbe:List (Nat×Blk):=[(504,.cellsR 0 105 [.yld 497]),(464,.cellsR 0 96
  [.nils])]
noncomputable abbrev qQ(d:Puz)(f:Nat)(l:List Lay)(u:Nat->Nat->Int)(w0:TwP):List (Nat×Blk):=
  ((200,.cells 0 152 (List.append (waf d) ([.map 201,.slz 640 0 l.length cO])))::(201,.mp E.1 E.2)::(568,.cells 0 114 [.slz
  648 0 d.ps.n cO])::(497,.lp LoopState.ready none (twT d w0) (Array.mk [31]) ac body)::(120,.cells 0 36 [.slz 656 0 w0.o.length cO])::(288,.cells 0 152 (.int false
  .i64 d.pK.length::vi d.pK.aK::vi d.pK.oK::vi d.pK.dK.lo::vi d.pK.dK.hi::vi d.wide::.int false
  .i64 d.high::List.append (wbZ d) ([.slz 664 0 f cO])))::(289,.mp E.1 E.2)::jM::List.append (wbe) ([QEm,(jl d),(640,.rowz true 49 kB l.length λi=>QA.enc (l.getD i (Lay.mk (0:Int) (0:Int)))),(648,.rowz true 4 [CK.bool] d.ps.n u),vB,(jF w0),(jU w0),(656,.rowz true 89 kB w0.o.length λi=>QA.enc (w0.o.getD i (Tw.mk (0:Int) (0:Int))))]))
abbrev QMh(d:Puz)(l:List Lay)(p:Nat)(t:Nat):List Prop:=
  ([0=0,0=0,(p:Int)=(p:Int),(t:Int)=(t:Int)]++wab d++(([cO=cO,0=0,l.length=l.length,cO
  = cO]++wag l++[E.1=E.1,E.2=E.2])++wae d))
abbrev waw(w0:TwP):List Prop:=[w0.o.length <=
  w0.o.length,QB 2 w0.o.length (λi=>QA.enc (w0.o.getD i (Tw.mk (0:Int) (0:Int)))) λi=>QA.enc (w0.o.getD i (Tw.mk (0:Int) (0:Int)))]
abbrev wc2(w0:TwP):List Prop:=[(w0.q:Int)=(w0.q:Int),(w0.p:Int)=(w0.p:Int),0=0,0=0]
abbrev QSI(d:Puz)(f:Nat)(l:List Lay)(l2:List Lay)(p:Nat)(t:Nat)(u:Nat->Nat->Int)(u2:Nat->Nat->Int)(w0:TwP):List Prop:=
  ((wb2++[0=0])++wab d++(([cO=cO,0=0,l.length+1=l2.length,cO=cO,E.1=E.1,E.2=E.2]++wbg l l2 p t++(wcN d++[QB 1 d.ps.n (λi=>bif decide (i=p)then KZ [.bool true true] 0 (u ((p:Int).toNat+0))else u i) u2]))++waj++(([Array.mk [31]=Array.mk [31],ac=ac,body=body,w0.5 0=w0.5 0,0=0,0=0,0=0,0=0,w0.5 3=w0.5 3,0=0,0=0,0=0,0=0,0=0,0=0,0=0,0=0,w0.5 8 =
  w0.5 8,w0.5 9=w0.5 9,w0.5 10=w0.5 10,w0.5 11=w0.5 11,w0.5 12=w0.5 12,w0.5 13=w0.5 13,w0.5 14=w0.5 14,w0.5 15=w0.5 15,w0.5 16=w0.5 16,w0.5 17=w0.5 17,w0.5
  18=w0.5 18,w0.5 19=w0.5 19,w0.5 20=w0.5 20,(d.ps.n:Int)=(d.ps.n:Int),(w0.p:Int)=(w0.p:Int),w0.5 23=w0.5 23,w0.5 24=w0.5 24,(w0.p:Int)=(w0.p:Int),(w0.q:Int)=(w0.q:Int),true=true,(w0.q:Int)=(w0.q:Int),0=0,0=0]++wcY++[w0.5 31=w0.5 31,w0.5 32=w0.5 32,w0.5 33=w0.5 33,w0.5 34=w0.5 34,w0.5 35=w0.5 35,w0.5 36=w0.5 36,w0.5 37=w0.5 37,w0.5 38=w0.5 38,w0.5 39=w0.5 39,w0.5 40=w0.5 40,w0.5 41=w0.5 41,w0.5 42 =
  w0.5 42,w0.5 43=w0.5 43,w0.5 44=w0.5 44,w0.5 45=w0.5 45,w0.5 46=w0.5 46,w0.5 47=w0.5 47,0=0,w0.o.length=w0.o.length,cO=cO])++waw w0))++wab d++(([cO=cO,0=0,f=f,cO=cO,E.1=E.1,E.2=E.2,Fn.func 103=Fn.func 103]++wb2++([0=0,0=0,0=0]++wc2 w0))++wae d))
noncomputable abbrev zT:Nat×Blk:=
  (200,.cells 0 152 (List.append (waf d) ([.map 201,.slz 984 0 (i64.wrap ((l2.length:Int)-1)).toNat cO])))
noncomputable abbrev zu:Nat×Blk:=
  (568,.cells 0 114 [.slz 985 0 d.ps.n cO])
noncomputable abbrev QFp(w0:TwP):Nat×Blk:=
  (120,.cells 0 36 [.slz 986 0 w0.o.length cO])
noncomputable abbrev G7:Nat×Blk:=
  (288,.cells 0 152 (List.append (waf d) ([.map 289,.slz 987 0 f' cO])))
noncomputable abbrev zQ:Nat×Blk:=
  (984,.rowz true 49 kB l2.length λi=>QA.enc (l2.getD i (Lay.mk (0:Int) (0:Int))))
noncomputable abbrev zj:Nat×Blk:=
  (985,.rowz true 4 [CK.bool] d.ps.n λi=>bif decide (i=p)then KZ [.bool true false] 0 (u2 ((p:Int).toNat+0))else u2 i)
noncomputable abbrev QIJ(w0:TwP):Nat×Blk:=
  (986,.rowz true 89 kB w0.o.length λi=>QA.enc (w0.o.getD i (Tw.mk (0:Int) (0:Int))))
noncomputable abbrev QNB:List AV:=
  (.ptr 2 0 0::.ptr 101 0 0::List.append (wa5) ([vi (d.ps.n:Int),vi (p:Int)]))
theorem QWp(pb1 pb2:List Prop->Bool)(d:Puz)(E:ECt)(w0:TwP)(ac body:Code)(u u2:Nat->Nat->Int)(l l2:List Lay)(v:Bool)(f:Nat)(p:Nat)(tn:Int)(t:Nat)(f':Nat)(g0:Nat->Value):exec (mkE prog (QAQ pb1 pb2 d E w0 l ⟨p,t⟩ v (twU d E w0 ac body u2 l2 f f'))) (hnd (mkE prog (QAQ pb1 pb2 d E w0 l ⟨p,t⟩ v (twU d E w0 ac body u2 l2 f f'))) 0) (QS (QJ f103 0)) (JSt.inst (vu d E w0 ac body u l f p tn t) g0) (Q9 Z3 QGa) = .br (decide ((t:Int)<tn)) (.need (true) (.br (!Qq (Rw.mk 0 λi=>Pt.mk (0:Int) (Lay.mk (0:Int) (0:Int))) (l.length:Int) (Lay.mk (p:Int) (t:Int))) (.leaf (.tup (zr d p t tn)) ((qQ E ac body d f l u w0))) (.need (pb1 ((QMh E d l p t))) (.br (!v) (.leaf (.tup (zr d p t tn)) ((qQ E ac body d f l u w0))) (.need (decide ((0:Int)<=(p:Int)/\(p:Int)<(d.ps.n:Int))&&decide (d.ps.n<=d.ps.n)) (.need (decide (p<d.ps.n)) (.need (decide (l.length<=l.length)&&(true&&decide ((l.length+1+(l.length+1) / 4+192)*16<=281474976710656/\l.length+1<=9223372036854775807))) (.need (pb2 ((QSI E ac body d f l l2 p t u u2 w0))) (.need (decide ((0:Int)<=i64.wrap ((l2.length:Int)-1)/\(i64.wrap ((l2.length:Int)-1)).toNat<=l2.length-0)) (.need (decide ((0:Int)<=(p:Int)/\(p:Int)<(d.ps.n:Int))&&decide (d.ps.n<=d.ps.n)) (.need (decide (p<d.ps.n)) (.br (false) (.leaf (.tup (wcu)) ([(zT d l2),(201,.mp E.1 E.2),(zu d),(497,.lp LoopState.ready none (twT d w0) (Array.mk [31]) ac body),(QFp w0),(G7 d f'),(289,.mp E.1 E.2),(jl d),(zQ l2),(zj d p u2),vB,(jF w0),(jU w0),jM,(464,.cellsR 0 96 [.nils]),(QIJ w0)])) (.leaf (.tup (zr d p t tn)) (((zT d l2)::(201,.mp E.1 E.2)::(zu d)::(497,.lp LoopState.ready none (twT d w0) (Array.mk [31]) ac body)::(QFp w0)::(G7 d f')::(289,.mp E.1 E.2)::jM::List.append (wbe) ([QEm,(jl d),(zQ l2),(zj d p u2),vB,(jF w0),(jU w0),(QIJ w0)])))))))))))))))) (.leaf (.tup (QNB d p)) ((qQ E ac body d f l u w0))):=by kernel_rfl
noncomputable abbrev QKf:List AV:=
  (List.append (wa5) ((List.append (wcp d p) ([vi tn,.int
  false .i64 (i64.wrap ((t:Int)+1))]))))
abbrev wap(d:Puz)(w0:TwP):List Prop:=[w0.g 11=w0.g 11,w0.g 12=w0.g 12,w0.g 13=w0.g 13,w0.g 14=w0.g 14,w0.g 15=w0.g 15,w0.g 16=w0.g 16,w0.g 17=w0.g 17,w0.g 18=w0.g 18,w0.g 19=w0.g 19,w0.g 20=w0.g 20,(d.ps.n :
  Int)=(d.ps.n:Int),(w0.p:Int)=(w0.p:Int),w0.g 23=w0.g 23,w0.g 24=w0.g 24,(w0.p:Int)=(w0.p:Int),(w0.q:Int)=(w0.q:Int)]
abbrev wbO(w0:TwP):List Prop:=[w0.g 45=w0.g 45,w0.g 46=w0.g 46,w0.g 47=w0.g 47]
abbrev wcr(w0:TwP):List Prop:=[w0.g 31=w0.g 31,w0.g 32=w0.g 32,w0.g 33=w0.g 33,w0.g 34=w0.g 34,w0.g
  35=w0.g 35,w0.g 36=w0.g 36,w0.g 37=w0.g 37,w0.g 38=w0.g 38,w0.g 39=w0.g 39,w0.g 40=w0.g 40,w0.g 41=w0.g 41,w0.g 42=w0.g 42,w0.g 43=w0.g 43,w0.g 44=w0.g
  44]
abbrev wcL(E:ECt):List Prop:=[E.1=E.1,E.2=E.2,Fn.func 103=Fn.func (103:FuncId)]
abbrev Qfa(d:Puz)(f:Nat)(l:List Lay)(p:Nat)(t:Nat)(t':Nat)(tn:Int)(u:Nat->Nat->Int)(w0:TwP):List Prop:=
  (((wb2++[0=0])++waV d p++[tn=tn,i64.wrap ((t :
  Int)+1)=(t':Int)])++wab d++(([cO=cO,0=0]++wcj E l)++wag l++((wcN d++[QB 1 d.ps.n u u])++waj++([Array.mk [31]=Array.mk [(31:Tmp)],ac=ac,body=body,w0.g 0 =
  w0.g 0,0=0,0=0,0=0,0=0,w0.g 3=w0.g 3,0=0,0=0,0=0,0=0,0=0,0=0,0=0,0=0,w0.g 8=w0.g 8,w0.g 9=w0.g 9,w0.g 10=w0.g 10]++wap d w0++((([true=true,(w0.q:Int)=(w0.q
  : Int),0=0,0=0]++wcS)++wcr w0)++wbO w0++[0=0,w0.o.length=w0.o.length,cO=cO,w0.o.length<=w0.o.length,QB 2 w0.o.length (λi=>
  QA.enc (w0.o.getD i (Tw.mk (0:Int) (0:Int)))) λi=>QA.enc (w0.o.getD i (Tw.mk (0:Int) (0:Int)))]))))++wab d++((([cO =
  cO,0=0,f=f,cO=cO]++wcL E)++wb2++([0=0,0=0,0=0]++wc2 w0))++wae d))
theorem QJE(w0:TwP)(ac body:Code)(u:Nat->Nat->Int)(l:List Lay)(f:Nat)(p:Nat)(tn:Int)(t t':Nat):QG 632 (QKf d p t tn) ((qQ E ac body d f l u w0)) (vu d E w0 ac body u l f p tn t')=(some (Qfa E ac body d f l p t t' tn u w0)):=by kernel_rfl
abbrev Ze:List Prop:=
  [0=0,0=0,0=0,0=0,0=0,0=0]
abbrev QAx:List Prop:=
  [0=0,0=0,0=0,0=0]
abbrev Ge:List Prop:=
  (wab d++[cO=cO,0=0])
abbrev QKA(d:Puz)(l:List Lay)(l2:List Lay)(p:Nat)(u2:Nat->Nat->Int)(u3:Nat->Nat->Int):List Prop:=
  ([cO=cO]++wa8 E l l2++(wcN d++[QB 1 d.ps.n (λi=>bif decide (i=p)then KZ [.bool true false] 0 (u2 ((p:Int).toNat
  + 0))else u2 i) u3]))
abbrev QFa(w0:TwP):List Prop:=
  [0=0,0=0,w0.g 8=w0.g 8,w0.g 9=w0.g 9]
abbrev wbP(w0:TwP):List Prop:=(wcr w0)
abbrev waq(w0:TwP):List Prop:=(wbP w0)
abbrev QFW(w0:TwP):List Prop:=
  ([w0.g 10=w0.g 10]++wap d w0++(([true=true,(w0.q:Int)=(w0.q:Int),0=0,0=0]++wcS)++waq w0))
abbrev QKs(w0:TwP):List Prop:=
  ((wbO w0++[0=0,w0.o.length=w0.o.length,cO=cO])++waw w0)
abbrev QPP(w0:TwP):List Prop:=
  ((wc2 w0)++wae d)
theorem QZI(w0:TwP)(ac body:Code)(u u2 u3:Nat->Nat->Int)(l l2:List Lay)(p:Nat)(tn:Int)(t t':Nat)(f':Nat):QG 632 (QKf d p t tn) (((zT d l2)::(201,.mp E.1 E.2)::(zu d)::(497,.lp LoopState.ready none (twT d w0) (Array.mk [31]) ac body)::(QFp w0)::(G7 d f')::(289,.mp E.1 E.2)::jM::List.append (wbe) ([QEm,(jl d),(zQ l2),(zj d p u2),vB,(jF w0),(jU w0),(QIJ w0)]))) (vu d E w0 ac body u3 l f' p tn t')=(some (Ze++QAx++(waV d p++[tn=tn,i64.wrap ((t:Int)+1)=(t':Int)])++(Ge d)++[(i64.wrap ((l2.length:Int)-1)).toNat=l.length]++(QKA E d l l2 p u2 u3)++(waj++[Array.mk [31]=Array.mk [(31:Tmp)],ac=ac,body=body,w0.g 0=w0.g 0])++QAx++[w0.g 3=w0.g 3]++Ze++(QFa w0)++(QFW d w0)++(QKs w0)++(Ge d)++([f'=f',cO=cO]++wcL E)++Ze++Ze++(QPP d w0))):=by kernel_rfl
theorem QON(w0:TwP)(ac body:Code)(u:Nat->Nat->Int)(l:List Lay)(f:Nat)(p:Nat):QG 632 (List.append (wa5) ([vi (d.ps.n:Int),vi (p:Int)])) ((qQ E ac body d f l u w0)) (QAY d E w0 ac body u l f p)=(some (Ze++QAx++[(d.ps.n:Int)=(d.ps.n:Int),(p:Int)=(p:Int)]++(Ge d)++((wcj E l)++wag l++((wcN d++[QB 1 d.ps.n u u])++waj++[Array.mk [31]=Array.mk [(31:Tmp)],ac=ac,body=body,w0.g 0=w0.g 0]))++QAx++[w0.g 3=w0.g 3]++Ze++(QFa w0)++(QFW d w0)++(QKs w0)++(Ge d)++([f=f,cO=cO]++wcL E)++Ze++Ze++(QPP d w0))):=by kernel_rfl
noncomputable abbrev QGz(w0:TwP):Nat×Blk:=
  (120,.cells 0 36 [.slz 986 0 w0.o2.length cO])
noncomputable abbrev QF6(w0:TwP):Nat×Blk:=
  (986,.rowz true 89 kB w0.o2.length λi=>QA.enc (w0.o2.getD i (Tw.mk (0:Int) (0:Int))))
theorem QWy(pb1 pb2:List Prop->Bool)(d:Puz)(E:ECt)(w0:TwP)(ac body:Code)(u u2:Nat->Nat->Int)(l l2:List Lay)(v:Bool)(f:Nat)(p:Nat)(tn:Int)(t:Nat)(f':Nat)(g0:Nat->Value):exec (mkE prog (QAQ pb1 pb2 d E w0 l ⟨p,t⟩ v (twV d E w0 ac body u2 l2 f f'))) (hnd (mkE prog (QAQ pb1 pb2 d E w0 l ⟨p,t⟩ v (twV d E w0 ac body u2 l2 f f'))) 0) (QS (QJ f103 0)) (JSt.inst (vu d E w0 ac body u l f p tn t) g0) (Q9 Z3 QGa) = .br (decide ((t:Int)<tn)) (.need (true) (.br (!Qq (Rw.mk 0 λi=>Pt.mk (0:Int) (Lay.mk (0:Int) (0:Int))) (l.length:Int) (Lay.mk (p:Int) (t:Int))) (.leaf (.tup (zr d p t tn)) ((qQ E ac body d f l u w0))) (.need (pb1 ((QMh E d l p t))) (.br (!v) (.leaf (.tup (zr d p t tn)) ((qQ E ac body d f l u w0))) (.need (decide ((0:Int)<=(p:Int)/\(p:Int)<(d.ps.n:Int))&&decide (d.ps.n<=d.ps.n)) (.need (decide (p<d.ps.n)) (.need (decide (l.length<=l.length)&&(true&&decide ((l.length+1+(l.length+1) / 4+192)*16<=281474976710656/\l.length+1<=9223372036854775807))) (.need (pb2 ((QSI E ac body d f l l2 p t u u2 w0))) (.need (decide ((0:Int)<=i64.wrap ((l2.length:Int)-1)/\(i64.wrap ((l2.length:Int)-1)).toNat<=l2.length-0)) (.need (decide ((0:Int)<=(p:Int)/\(p:Int)<(d.ps.n:Int))&&decide (d.ps.n<=d.ps.n)) (.need (decide (p<d.ps.n)) (.br (true) (.leaf (.tup (wcu)) ([(zT d l2),(201,.mp E.1 E.2),(zu d),(497,.lp LoopState.done (some (Code.exit 4)) (twT d w0) (Array.mk [31]) ac body), (QGz w0),(G7 d f'),(289,.mp E.1 E.2),(jl d),(zQ l2),(zj d p u2),vB,(jF w0),(jU w0),jM,(464,.cellsR 0 96 [.nils]),(QF6 w0)])) (.leaf (.tup (zr d p t tn)) (((zT d l2)::(201,.mp E.1 E.2)::(zu d)::(497,.lp LoopState.done (some (Code.exit 4)) (twT d w0) (Array.mk [31]) ac body)::(QGz w0)::(G7 d f')::(289,.mp E.1 E.2)::jM::List.append (wbe) ([QEm,(jl d),(zQ l2),(zj d p u2),vB,(jF w0),(jU w0),(QF6 w0)])))))))))))))))) (.leaf (.tup (QNB d p)) ((qQ E ac body d f l u w0))):=by kernel_rfl
noncomputable abbrev wbT:List Prop:=[LoopState.done=LoopState.done,some (Code.exit 4)=some (Code.exit 4),Array.mk [31]=Array.mk [(31:Tmp)]]
abbrev wcy(w0:TwP):List Prop:=[w0.o2.length<=w0.o2.length,QB 2 w0.o2.length (λi=>QA.enc (w0.o2.getD i (Tw.mk (0:Int) (0:Int)))) λi=>QA.enc (w0.o2.getD i (Tw.mk (0:Int) (0:Int)))]
theorem QY9(w0:TwP)(ac body:Code)(u2 u3:Nat->Nat->Int)(l l2:List Lay)(p:Nat)(f':Nat):QG 632 [.bool true false] ([(zT d l2),(201,.mp E.1 E.2),(zu d),(497,.lp LoopState.done (some (Code.exit 4)) (twT d w0) (Array.mk [31]) ac body),(QGz w0),(G7 d f'), (289,.mp E.1 E.2),(jl d),(zQ l2),(zj d p u2),vB,(jF w0),(jU w0),jM,(464,.cellsR 0 96 [.nils]),(QF6 w0)]) (twF d E w0 ac body u3 l f')=(some ([false=false]++(Ge d)++[(i64.wrap ((l2.length:Int)-1)).toNat=l.length]++(QKA E d l l2 p u2 u3)++(wbT++[ac=ac,body=body,w0.g 0=w0.g 0])++QAx++[w0.g 3=w0.g 3]++Ze++(QFa w0)++(QFW d w0)++(wbO w0++([0=0,w0.o2.length=w0.o2.length,cO=cO]++wcy w0))++(Ge d)++[f'=f',cO=cO,E.1=E.1,E.2=E.2])):=by kernel_rfl
def Wb(pb:List Prop->Bool)(d:Puz)(n:Nat)(a:Int):Tab:=Qc QT 52 (KB pb (tnU d n a))
abbrev QCP(P:Program)(pb:List Prop->Bool)(d:Puz)(E:ECt)(w0:TwP)(ac body:Code)(u:Nat->Nat->Int)(l:List Lay)(f:Nat)(p:Nat)(X:List (Prop×Ex×JSt)):Hnd:={ hnd (mkE P (Wb pb d l.length p)) 0 with loop:=λ_=>JI (p<d.ps.n/\u p 0=0) (KE 632 Z3 (vu d E w0 ac body u l f p (tnV d p) (0:Nat)) X) }
noncomputable abbrev QJa:List AV:=
  (.nilp::.ptr 101 0 0::List.append (wa5) ([vi (d.ps.n:Int),vi (i64.wrap ((p:Int)+1))]))
noncomputable abbrev YA:Nat×Blk:=
  (200,.cells 0 152 (List.append (waf d) ([.map 201,.slz 640 0 l.length cO])))
noncomputable abbrev YE:Nat×Blk:=
  (568,.cells 0 114 [.slz 648 0 d.ps.n cO])
noncomputable abbrev zN(d:Puz)(w0:TwP):Nat×Blk:=
  (497,.lp LoopState.ready none (twT d w0) (Array.mk [31]) ac body)
noncomputable abbrev Ww(w0:TwP):Nat×Blk:=
  (120,.cells 0 36 [.slz 656 0 w0.o.length cO])
noncomputable abbrev QEv:Nat×Blk:=
  (288,.cells 0 152 (List.append (waf d) ([.map 289,.slz 664 0 f cO])))
noncomputable abbrev zh:Nat×Blk:=
  (456,.cellsR 0 90 [.ptr 200 0 0])
noncomputable abbrev QCl:Nat×Blk:=
  (584,.cellsR 0 31 [.fn (Fn.func 103) (wa5)])
noncomputable abbrev vz:Nat×Blk:=
  (0,.frz (List.append (waa) ((List.append (waG) ((List.append (wbk) ([.int .i64])))))) d.ps.n λi=>QA.enc (d.ps.get i))
noncomputable abbrev Xc:Nat×Blk:=
  (640,.rowz true 49 kB l.length λi=>QA.enc (l.getD i (Lay.mk (0:Int) (0:Int))))
noncomputable abbrev zW:Nat×Blk:=
  (296,.cellsR 0 90 [.ptr 288 0 0])
noncomputable abbrev vm(w0:TwP):Nat×Blk:=
  (400,.cellsR 0 3 [vi (w0.p:Int)])
noncomputable abbrev zI(w0:TwP):Nat×Blk:=
  (432,.cellsR 0 3 [vi (w0.q:Int)])
noncomputable abbrev WB(w0:TwP):Nat×Blk:=
  (656,.rowz true 89 kB w0.o.length λi=>QA.enc (w0.o.getD i (Tw.mk (0:Int) (0:Int))))
noncomputable abbrev WS:Nat×Blk:=
  (288,.cells 0 152 (List.append (waf d) ([.map 289,.slz 664 0 f' cO])))
noncomputable abbrev QEe(w0:TwP):Nat×Blk:=
  (120,.cells 0 36 [.slz 656 0 w0.o2.length cO])
noncomputable abbrev QDi(w0:TwP):Nat×Blk:=
  (656,.rowz true 89 kB w0.o2.length λi=>QA.enc (w0.o2.getD i (Tw.mk (0:Int) (0:Int))))
theorem QKv(pb:List Prop->Bool)(d:Puz)(E:ECt)(w0:TwP)(ac body:Code)(u u':Nat->Nat->Int)(l:List Lay)(f:Nat)(p:Nat)(A B:Prop)(f':Nat)(g0:Nat->Value):exec (mkE prog (Wb pb d l.length p)) (QCP prog pb d E w0 ac body u l f p [(A,.exit 2,QAY d E w0 ac body u' l f' p),(B,.ret,twF d E w0 ac body u' l f')]) (QJ f103 0) (JSt.inst (zX d E w0 ac body u l f p) g0) (Q9 Z3 QJC) = .br (decide ((p:Int)<(d.ps.n:Int))) (.need (decide ((0:Int)<=(p:Int)/\(p:Int)<(d.ps.n:Int))&&decide (d.ps.n<=d.ps.n)) (.need (decide (p<d.ps.n)) (.br (decide (u ((p:Int).toNat+0) 0=1)) (.leaf (.tup (QJa d p)) (((YA d l)::(201,.mp E.1 E.2)::(YE d)::(zN ac body d w0)::(Ww w0)::(QEv d f)::(289,.mp E.1 E.2)::zh::List.append (wbe) ([QCl,(vz d),(Xc l),(648,.rowz true 4 [CK.bool] d.ps.n u),zW,(vm w0),(zI w0),(WB w0)])))) (.need (pb (([0=0,0=0,(p:Int)=(p:Int)]++wab d++([cO=cO,0=0,l.length=l.length,cO=cO]++wae d)))) (.ak [p<d.ps.n/\u p 0=0] (.ak (rz 10) (.ak ((waV d p++[tnV d (p:Int)=tnV d (p:Int),(0:Int)=0])++wab d++(([cO=cO,0=0]++wcj E l)++wag l++((wcN d++[QB 1 d.ps.n u u])++waj++[Array.mk [(31:Tmp)]=Array.mk [(31:Tmp)],ac=ac,body=body,w0.g 0=w0.g 0,0=0,0=0,0=0,0=0,w0.g 3=w0.g 3]))) (.ak (rz 8) (.ak (([w0.g 8=w0.g 8,w0.g 9=w0.g 9,w0.g 10=w0.g 10]++wap d w0++(([true=true,(w0.q:Int)=(w0.q:Int),0=0,0=0]++wcS)++waq w0++((wbO w0++[0=0,w0.o.length=w0.o.length,cO=cO])++waw w0)))++wab d++[cO=cO,0=0,f=f,cO=cO,E.1=E.1,E.2=E.2,Fn.func (103:FuncId)=Fn.func (103:FuncId)]) (.ak (rz 12) (.ak ((wc2 w0)++wae d) (.both (.asm (A) (.all (λ(g0:Nat -> Value)=>.leaf (.tup (QJa d p)) (((YA d l)::(201,.mp E.1 E.2)::(YE d)::(zN ac body d w0)::(Ww w0)::(WS d f')::(289,.mp E.1 E.2)::zh::List.append (wbe) ([QCl,(vz d),(Xc l),(648,.rowz true 4 [CK.bool] d.ps.n u'),zW,(vm w0),(zI w0),(WB w0)])))))) (.asm (B) (.all (λ(g1:Nat -> Value)=>.leaf (.tup [.nili,.ptr 101 0 0,.bool false false]) ([(YA d l),(201,.mp E.1 E.2),(YE d),(497,.lp LoopState.done (some (Code.exit 4)) (twT d w0) (Array.mk [31]) ac body),(QEe w0),(WS d f'),(289,.mp E.1 E.2),(Xc l),(648,.rowz true 4 [CK.bool] d.ps.n u'),(QDi w0)])))))))))))))))) (.leaf (.tup [.ptr 0 0 0,.ptr 101 0 0]) ([(YA d l),(201,.mp E.1 E.2),(YE d),(zN ac body d w0),(Ww w0),(QEv d f),(289,.mp E.1 E.2),(vz d),(Xc l),(648,.rowz true 4 [CK.bool] d.ps.n u),zW,(vm w0),(zI w0),zh,(464,.cellsR 0 96 [.nils]),(WB w0)])):=by kernel_rfl
noncomputable abbrev QJN:List AV:=
  (List.append (wa5) ([vi (d.ps.n:Int),vi (i64.wrap ((p:Int)+1))]))
abbrev V5:List Prop:=
  [0=0,0=0,0=0,0=0,0=0]
abbrev YQ:List Prop:=
  (wab d++[cO=cO,0=0])
abbrev zH(d:Puz)(l:List Lay):List Prop:=
  ((wcj E l)++wag l++(wcN d))
abbrev QGl:List Prop:=
  (waj++[Array.mk [31]=Array.mk [(31:Tmp)],ac=ac])
abbrev GP(w0:TwP):List Prop:=
  [w0.g 0=w0.g 0,0=0,0=0,0=0,0=0,w0.g 3=w0.g 3]
abbrev zV(w0:TwP):List Prop:=
  [0=0,0=0,0=0,w0.g 8=w0.g 8,w0.g 9=w0.g 9]
abbrev zv(w0:TwP):List Prop:=
  ([w0.g 10=w0.g 10]++wap d w0++(([true=true,(w0.q:Int)=(w0.q:Int),0=0,0=0]++wcS)++waq w0))
abbrev QCQ(w0:TwP):List Prop:=
  ((wbO w0++[0=0,w0.o.length=w0.o.length,cO=cO])++waw w0)
abbrev QLD(w0:TwP):List Prop:=
  (([0=0,0=0]++wc2 w0)++wae d)
theorem QJy(w0:TwP)(ac body:Code)(u:Nat->Nat->Int)(l:List Lay)(f:Nat)(p p':Nat):QG 632 (QJN d p) (((YA d l)::(201,.mp E.1 E.2)::(YE d)::(zN ac body d w0)::(Ww w0)::(QEv d f)::(289,.mp E.1 E.2)::zh::List.append (wbe) ([QCl,(vz d),(Xc l),(648,.rowz true 4 [CK.bool] d.ps.n u),zW,(vm w0),(zI w0),(WB w0)]))) (zX d E w0 ac body u l f p')=(some (V5 ++ V5++[(d.ps.n:Int)=(d.ps.n:Int),i64.wrap ((p:Int)+1)=(p':Int)]++(YQ d)++(zH E d l)++[QB 1 d.ps.n u u]++(QGl ac)++[body=body] ++ (GP w0)++V5++(zV w0)++(zv d w0)++(QCQ w0)++(YQ d)++([f=f,cO=cO]++wcL E)++V5 ++ V5++(QLD d w0))):=by kernel_rfl
theorem QZV(w0:TwP)(ac body:Code)(u':Nat->Nat->Int)(l:List Lay)(p p':Nat)(f':Nat):QG 632 (QJN d p) (((YA d l)::(201,.mp E.1 E.2)::(YE d)::(zN ac body d w0)::(Ww w0)::(WS d f')::(289,.mp E.1 E.2)::zh::List.append (wbe) ([QCl,(vz d),(Xc l),(648,.rowz true 4 [CK.bool] d.ps.n u'),zW,(vm w0),(zI w0),(WB w0)]))) (zX d E w0 ac body u' l f' p')=(some (V5 ++ V5++[(d.ps.n:Int)=(d.ps.n:Int),i64.wrap ((p:Int)+1)=(p':Int)]++(YQ d)++(zH E d l)++[QB 1 d.ps.n u' u']++(QGl ac)++[body=body] ++ (GP w0)++V5++(zV w0)++(zv d w0)++(QCQ w0)++(YQ d)++([f'=f',cO=cO]++wcL E) ++ V5++V5++(QLD d w0))):=by kernel_rfl
abbrev QKC(w0:TwP):List Prop:=
  (wbO w0++([0=0,w0.o2.length=w0.o2.length,cO=cO]++wcy w0))
theorem QbT(w0:TwP)(ac body:Code)(u':Nat->Nat->Int)(l:List Lay)(f':Nat):QG 632 [.bool false false] ([(YA d l),(201,.mp E.1 E.2),(YE d),(497,.lp LoopState.done (some (Code.exit 4)) (twT d w0) (Array.mk [31]) ac body),(QEe w0),(WS d f'), (289,.mp E.1 E.2),(Xc l),(648,.rowz true 4 [CK.bool] d.ps.n u'),(QDi w0)]) (twF d E w0 ac body u' l f')=(some ([false=false]++(YQ d)++(zH E d l)++([QB 1 d.ps.n u' u']++wbT++[ac=ac,body=body])++(GP w0)++V5++(zV w0)++(zv d w0)++(QKC w0)++(YQ d)++[f'=f',cO=cO,E.1=E.1,E.2=E.2])):=by kernel_rfl
theorem QOe(w0:TwP)(ac body:Code)(u:Nat->Nat->Int)(l:List Lay)(f:Nat):QG 632 [] ([(YA d l),(201,.mp E.1 E.2),(YE d),(zN ac body d w0),(Ww w0),(QEv d f),(289,.mp E.1 E.2),(vz d),(Xc l),(648,.rowz true 4 [CK.bool] d.ps.n u), zW,(vm w0),(zI w0),zh,(464,.cellsR 0 96 [.nils]),(WB w0)]) (GW d E w0 ac body u l f)=(some ((YQ d)++(zH E d l)++[QB 1 d.ps.n u u]++(QGl ac)++[body=body]++(GP w0)++V5++(zV w0)++(zv d w0)++(QCQ w0)++(YQ d)++[f=f,cO=cO,E.1=E.1,E.2=E.2])):=by kernel_rfl
abbrev twX(P:Program)(J:JSt)(X:List (Prop×Ex×JSt)):Hnd:={ hnd (mkE P QT) 0 with loop:=λ_=>KE 632 Z3 J X }
noncomputable abbrev QRt(w0:TwP):Nat×Blk:=
  (497,.lp LoopState.done (some (Code.exit 4)) (twT d w0) (Array.mk [31]) (Qw (QS (QJ f21 0))).1 (Qw (QS (QJ f21 0))).2)
theorem QQ5(w0:TwP)(u u':Nat->Nat->Int)(l:List Lay)(f:Nat)(A B:Prop)(f':Nat):(VR (mkE prog QT) (twX prog (zX d E w0 (Qw (QS (QJ f21 0))).1 (Qw (QS (QJ f21 0))).2 u l f 0) [(A,.exit 0,GW d E w0 (Qw
  (QS (QJ f21 0))).1 (Qw (QS (QJ f21 0))).2 u' l f'),(B,.ret,twF d E w0 (Qw (QS (QJ f21 0))).1 (Qw (QS (QJ f21 0))).2
  u' l f')]) f103 QGD (GF d E w0 (Qw (QS (QJ f21 0))).1 (Qw (QS (QJ f21 0))).2 u l f).hp 632 λv h _=>ZE Z3 v h) = .br ((l.length
  : Int) == (d.ps.n : Int)) (.fail ("yield")) (.ak (rz 9) (.ak [0 =
  0,(d.ps.n:Int)=(d.ps.n:Int),(0:Int)=0,d.pK.length=d.pK.length,d.pK.aK=d.pK.aK,d.pK.oK=d.pK.oK] (.ask
  (d.pK.dK.lo=d.pK.dK.lo) (.ak [d.pK.dK.hi=d.pK.dK.hi,d.wide=d.wide,d.high=d.high,d.turn=d.turn,0=0,d.ps.n =
  d.ps.n,Cap.of 0=Cap.of 0,0=0,l.length=l.length,Cap.of 0=Cap.of 0,E.1=E.1,E.2=E.2,l.length<=l.length] (.ask
  (QB 2 l.length (λi=>QA.enc (l.getD i (Lay.mk (0:Int) (0:Int)))) λi=>QA.enc (l.getD i (Lay.mk (0:Int) (0:Int)))) (.ak [0=0,d.ps.n=d.ps.n] (.ask
  (Cap.of 0=Cap.of 0) (.ak [d.ps.n<=d.ps.n,QB 1 d.ps.n u u,LoopState.ready=LoopState.ready,(none:Option Code)=none,Array.mk [(31:Tmp)]
  = Array.mk [(31:Tmp)],(Qw (QS (QJ f21 0))).1=(Qw (QS (QJ f21 0))).1,(Qw (QS (QJ f21 0))).2=(Qw (QS
  (QJ f21 0))).2,w0.g 0=w0.g 0,0=0,0=0,0=0,0=0,w0.g 3=w0.g 3,0=0,0=0,0=0,0 =
  0,0=0,0=0,0=0,0=0,w0.g 8=w0.g 8,w0.g 9=w0.g 9,w0.g 10=w0.g 10,w0.g 11=w0.g 11,w0.g 12=w0.g
  12,w0.g 13=w0.g 13,w0.g 14=w0.g 14,w0.g 15=w0.g 15,w0.g 16=w0.g 16,w0.g 17=w0.g 17,w0.g 18=w0.g 18,w0.g 19=w0.g
  19,w0.g 20=w0.g 20,(d.ps.n:Int)=(d.ps.n:Int),(w0.p:Int)=(w0.p:Int),w0.g 23=w0.g 23,w0.g 24=w0.g 24,(w0.p:Int) =
  (w0.p:Int),(w0.q:Int)=(w0.q:Int),true=true,(w0.q:Int)=(w0.q:Int),0=0,0=0,Fn.func (102:FuncId)=Fn.func (102 :
  FuncId),0=0,0=0,0=0,0=0,w0.g 31=w0.g 31,w0.g 32=w0.g 32,w0.g 33=w0.g 33,w0.g 34=w0.g 34,w0.g
  35=w0.g 35,w0.g 36=w0.g 36,w0.g 37=w0.g 37,w0.g 38=w0.g 38,w0.g 39=w0.g 39,w0.g 40=w0.g 40,w0.g 41=w0.g 41,w0.g
  42=w0.g 42,w0.g 43=w0.g 43,w0.g 44=w0.g 44,w0.g 45=w0.g 45,w0.g 46=w0.g 46,w0.g 47=w0.g 47,0=0,w0.o.length =
  w0.o.length,Cap.of 0=Cap.of 0,w0.o.length<=w0.o.length,QB 2 w0.o.length (λi=>QA.enc (w0.o.getD i (Tw.mk (0:Int) (0:Int)))) λi=>
  QA.enc (w0.o.getD i (Tw.mk (0:Int) (0:Int))),d.pK.length=d.pK.length,d.pK.aK=d.pK.aK,d.pK.oK=d.pK.oK] (.ask
  (d.pK.dK.lo=d.pK.dK.lo) (.ask (d.pK.dK.hi=d.pK.dK.hi) (.ask (d.wide=d.wide) (.ask (d.high=d.high) (.ask (d.turn=d.turn) (.ask (0=0) (.ask (d.ps.n =
  d.ps.n) (.ask (Cap.of 0=Cap.of 0) (.ask (0=0) (.ask (f=f) (.ask (Cap.of 0=Cap.of 0) (.ask (E.1=E.1) (.ask (E.2=E.2) (.ask (Fn.func (103:FuncId)=Fn.func (103 :
  FuncId)) (.ask (0=0) (.ask (0=0) (.ask (0=0) (.ask (0=0) (.ask (0=0) (.ask (0=0) (.ask (0=0) (.ask (0=0) (.ask (0=0) (.ask (0=0) (.ask (0=0) (.ask (0=0)
  (.ak [(w0.q:Int)=(w0.q:Int),(w0.p:Int)=(w0.p:Int),0=0,0=0,d.ps.n<=d.ps.n,QB 28 d.ps.n (λi=>QA.enc (d.ps.get i))
  λi=>QA.enc (d.ps.get i)] (.both (.asm (A) (.all (λ(g0:Nat->Value)=>.leaf (.bool true true) ([(YA d l),(201,.mp E.1 E.2),(YE d),(497,.lp LoopState.ready none
  (twT d w0) (Array.mk [31]) (Qw (QS (QJ f21 0))).1 (Qw (QS (QJ f21 0))).2),(Ww w0),(WS d f'),(289,.mp E.1 E.2),(Xc l),(648,.rowz true 4
  [CK.bool] d.ps.n u'),(WB w0)])))) (.asm (B) (.all (λ(g1:Nat->Value)=>.leaf (.bool false false) ([(YA d l),(201,.mp E.1 E.2),(YE d),(QRt d w0),(QEe w0),(WS
  d f'),(289,.mp E.1 E.2),(Xc l),(648,.rowz true 4 [CK.bool] d.ps.n u'),(QDi
  w0)])))))))))))))))))))))))))))))))))))))))):=by kernel_rfl
abbrev wbN:List Prop:=[(Qw (QS (QJ f21 0))).1=(Qw (QS (QJ f21 0))).1,(Qw (QS (QJ f21 0))).2=(Qw (QS (QJ f21 0))).2]
theorem QSz(w0:TwP)(u u':Nat->Nat->Int)(l:List Lay)(f:Nat)(f':Nat):QG 632 [(.bool true true)] ([(YA d l),(201,.mp E.1 E.2),(YE d),(497,.lp LoopState.ready none (twT d w0) (Array.mk [31]) (Qw (QS (QJ f21 0))).1 (Qw (QS (QJ f21 0))).2),(Ww w0),(WS d f'),(289,.mp E.1 E.2),(Xc l),(648,.rowz true 4 [CK.bool] d.ps.n u'),(WB w0)]) (KP (twU d E w0 (Qw (QS (QJ f21 0))).1 (Qw (QS (QJ f21 0))).2 u l f f'))=(some ([true=true]++(YQ d)++(zH E d l)++([QB 1 d.ps.n u' u]++waj++([Array.mk [31]=Array.mk [(31:Tmp)]]++wbN))++(GP w0)++V5++(zV w0)++(zv d w0)++(QCQ w0)++(YQ d)++[f'=f',cO=cO,E.1=E.1,E.2=E.2])):=by kernel_rfl
theorem Qac(w0:TwP)(u u':Nat->Nat->Int)(l:List Lay)(f:Nat)(f':Nat):QG 632 [(.bool false false)] ([(YA d l),(201,.mp E.1 E.2),(YE d),(QRt d w0),(QEe w0),(WS d f'),(289,.mp E.1 E.2),(Xc l),(648,.rowz true 4 [CK.bool] d.ps.n u'),(QDi w0)]) (KP (twV d E w0 (Qw (QS (QJ f21 0))).1 (Qw (QS (QJ f21 0))).2 u l f f'))=(some ([false=false]++(YQ d)++(zH E d l) ++ (([QB 1 d.ps.n u' u]++wbT)++wbN)++(GP w0)++V5++(zV w0)++(zv d w0) ++ (QKC w0)++(YQ d)++[f'=f',cO=cO,E.1=E.1,E.2=E.2])):=by kernel_rfl
def V1(w0:TwP)(ac body:Code)(l:List Lay)(s:TJ):QZ TJ->UC
 | .go s'=>twU d E w0 ac body (QD l) l s.1 s'.1
 | .stop s'=>twV d E w0 ac body (QD l) l s.1 s'.1
open Classical in
noncomputable def ZV:List Prop->Bool:=if t<QY d p then QO else λ_=>false
noncomputable def jN(P:Program)(d:Puz)(E:ECt)(w0:TwP)(ac body:Code)(rec:List Lay->TJ->QZ TJ)(l:List Lay)(p:Nat)(k:Nat×TJ):Env:=
 mkE P (QAQ (ZV d p k.1) (ZV d p k.1) d E w0 l ⟨p,k.1⟩ (Q0 d E l ⟨p,k.1⟩) (V1 d E w0 ac body (l++[⟨p,k.1⟩]) k.2 (rec (l++[⟨p,k.1⟩]) k.2)))
def Yx(w0:TwP)(ac body:Code)(rec:List Lay->TJ->QZ TJ)(l:List Lay)(p:Nat)(k:Nat×TJ)(e:Ex)(J:JSt):Prop:=match Qz (KA d E rec l p) ((List.range (QY d p)).drop k.1) k.2 with
 | .go s'=>e = .exit 2/\J=QAY d E w0 ac body (QD l) l s'.1 p
 | .stop s'=>e = .ret/\J=twF d E w0 ac body (QD l) l s'.1
set_option maxHeartbeats 1000000 in
theorem QYx(w0:TwP)(ac body:Code)(rec:List Lay->TJ->QZ TJ)(l:List Lay)(p:Nat)(hp:p<d.ps.n)(hn:d.ps.n<=1000)(hl:l.length<=1000)(hu:KG l p=false):Jd (λk:Nat×TJ=>vu d E w0 ac body (QD l) l k.2.1 p (tnV d p) k.1) (λk=>k.1<=QY d p) (λk=>QY d p-k.1) (Yx d E w0 ac body rec l p) 632 QGa Z3 (jN prog d E w0 ac body rec l p) (λk=>hnd (jN prog d E w0 ac body rec l p k) 0) (QS (QJ f103 0)):=by
 refine⟨λk g0 hk=>?_⟩;obtain⟨t,f,hq0⟩:=k;have hk:t<=QY d p:=hk;obtain⟨ht1,ht4⟩:=Zo d p;have hlen:(l++[(⟨p,t⟩:Lay)]).length=l.length+1:=by rw[List.length_append,List.length_singleton]
 have hw1:i64.wrap (((l++[(⟨p,t⟩:Lay)]).length:Int)-1)=l.length:=(w64 (by omega) (by omega)).trans (by omega)
 have hpop:(i64.wrap (((l++[(⟨p,t⟩:Lay)]).length:Int)-1)).toNat=l.length:=by rw[hw1];exact Int.toNat_natCast _
 have hle:l.length<=(l++[(⟨p,t⟩:Lay)]).length:=by omega
 have hpb:t<QY d p->ZV d p t=QO:=λh=>by unfold ZV;rw[if_pos h]
 have wt:t<QY d p->i64.wrap ((t:Int)+1)=((t+1:Nat):Int):=λh=>(w64 (by omega) (by omega)).trans (by omega)
 have step:=λh:t<QY d p=>Wp (f:=KA d E rec l p) h ⟨f,hq0⟩;unfold jN;simp only
 have next:t<QY d p->∀{s2:TJ},KA d E rec l p ⟨f,hq0⟩ t = .go s2->∀ e J,Yx d E w0 ac body rec l p (t+1,s2) e J->Yx d E w0 ac body rec l p (t,⟨f,hq0⟩) e J:=by
  intro h s2 he e J hr;unfold Yx at hr ⊢;simp only at hr ⊢;rw[step h,he];exact hr
 have last:QY d p<=t->Yx d E w0 ac body rec l p (t,⟨f,hq0⟩) (.exit 2) (QAY d E w0 ac body (QD l) l f p):=by
  intro h;unfold Yx;simp only[Wz h,and_self]
 cases hr:rec (l++[⟨p,t⟩]) ⟨f,hq0⟩with
 | go s'=>
  obtain⟨f',hq1⟩:=s';simp only[V1];have et:=QWp (ZV d p t) (ZV d p t) d E w0 ac body (QD l) (QD (l++[⟨p,t⟩])) l (l++[⟨p,t⟩]) (Q0 d E l ⟨p,t⟩) f p (tnV d p) t f' g0;refine Qf et ?_;clear et;refine QF (λb0=>?_) (λb0=>?_);have h:t<QY d p:=by have:=qdt b0;omega
  rw[hpb h];have hw:=wt h;refine QH ?_ ?_;rotate_left;refine QF ?_ ?_<;>intro b1
  .exact Bool.noConfusion (show false=true from b1)
  refine QH ?_ ?_;rotate_left;refine QF (λb2=>?_) (λb2=>?_);have hv:Q0 d E l ⟨p,t⟩=false:=by simpa using b2
  have ho:KA d E rec l p ⟨f,hq0⟩ t = .go ⟨f,hq0⟩:=by unfold KA;rw[hv];rfl
  refine⟨(t+1,⟨f,hq0⟩),h,by show QY d p-(t+1)<QY d p-t;omega,next h ho,rfl,rfl,_,QJE d E w0 ac body (QD l) l f p (tnV d p) t (t+1),?_⟩
  rotate_left
  iterate 7 (refine QH ?_ ?_;rotate_left)
  refine QF ?_ ?_<;>intro b3
  .cases b3
  have hv:Q0 d E l ⟨p,t⟩=true:=by simpa using b2
  have ho:KA d E rec l p ⟨f,hq0⟩ t = .go ⟨f',hq1⟩:=by unfold KA;rw[hv];exact hr
  have hb:=Wt l d.ps.n p t hu;have hq:=qU l ⟨p,t⟩;have hnx:=next h ho
  clear next last step hr ho
  generalize QD (l++[⟨p,t⟩])=u2 at hb ⊢;generalize l++[⟨p,t⟩]=l2 at hpop hle hq ⊢;generalize hu1:QD l=u1 at hb ⊢;refine⟨(t+1,⟨f',hq1⟩),h,by show QY d p-(t+1)<QY d p-t;omega,hnx,rfl,rfl,_,QZI d E w0 ac body u1 u2 u1 l l2 p (tnV d p) t (t+1) f',?_⟩
  rotate_left
  have h:QY d p<=t:=by have:=qdf b0;omega
  refine⟨_,last h,rfl,rfl,_,QON d E w0 ac body (QD l) l f p,?_⟩
  rotate_left
  all_goals first|((with_reducible show _=true);(first|rfl|(refine Q6.2 ?_;repeat' first|with_reducible refine QP ?_ ?_|exact tv|with_reducible exact qRr|with_reducible exact hlen|with_reducible exact hlen.symm|with_reducible exact Nat.le_of_eq hlen|with_reducible exact WC l ⟨p,t⟩|with_reducible exact Wr l _ p t|exact rfl|refine aI ?_ ?_)|(rw[hw1];simp)|(simp;omega)))|(repeat' first|with_reducible refine QP ?_ ?_|exact tv|with_reducible exact qRr|with_reducible exact hw|with_reducible exact hpop|with_reducible exact hle|with_reducible exact hq|with_reducible exact hb|exact rfl|refine aI ?_ ?_)
 | stop s'=>
  obtain⟨f',hq1⟩:=s';simp only[V1];have et:=QWy (ZV d p t) (ZV d p t) d E w0 ac body (QD l) (QD (l++[⟨p,t⟩])) l (l++[⟨p,t⟩]) (Q0 d E l ⟨p,t⟩) f p (tnV d p) t f' g0;refine Qf et ?_;clear et;refine QF (λb0=>?_) (λb0=>?_);have h:t<QY d p:=by have:=qdt b0;omega
  rw[hpb h];have hw:=wt h;refine QH ?_ ?_;rotate_left;refine QF ?_ ?_<;>intro b1
  .exact Bool.noConfusion (show false=true from b1)
  refine QH ?_ ?_;rotate_left;refine QF (λb2=>?_) (λb2=>?_);have hv:Q0 d E l ⟨p,t⟩=false:=by simpa using b2
  have ho:KA d E rec l p ⟨f,hq0⟩ t = .go ⟨f,hq0⟩:=by unfold KA;rw[hv];rfl
  refine⟨(t+1,⟨f,hq0⟩),h,by show QY d p-(t+1)<QY d p-t;omega,next h ho,rfl,rfl,_,QJE d E w0 ac body (QD l) l f p (tnV d p) t (t+1),?_⟩
  rotate_left
  iterate 7 (refine QH ?_ ?_;rotate_left)
  refine QF (λb3=>?_) (λb3=>?_);have hv:Q0 d E l ⟨p,t⟩=true:=by simpa using b2
  have ho:KA d E rec l p ⟨f,hq0⟩ t = .stop ⟨f',hq1⟩:=by unfold KA;rw[hv];exact hr
  have hrel:Yx d E w0 ac body rec l p (t,⟨f,hq0⟩) .ret (twF d E w0 ac body (QD l) l f'):=by
   unfold Yx;simp only[step h,ho,and_self]
  have hb:=Wt l d.ps.n p t hu;have hq:=qU l ⟨p,t⟩;clear next last step hr ho
  generalize QD (l++[⟨p,t⟩])=u2 at hb ⊢;generalize l++[⟨p,t⟩]=l2 at hpop hle hq ⊢;generalize hu1:QD l=u1 at hb hrel ⊢;refine⟨_,hrel,rfl,rfl,_,QY9 d E w0 ac body u2 u1 l l2 p f',?_⟩
  rotate_left
  .cases b3
  have h:QY d p<=t:=by have:=qdf b0;omega
  refine⟨_,last h,rfl,rfl,_,QON d E w0 ac body (QD l) l f p,?_⟩
  rotate_left
  all_goals first|((with_reducible show _=true);(first|rfl|(refine Q6.2 ?_;repeat' first|with_reducible refine QP ?_ ?_|exact tv|with_reducible exact qRr|with_reducible exact hlen|with_reducible exact hlen.symm|with_reducible exact Nat.le_of_eq hlen|with_reducible exact WC l ⟨p,t⟩|with_reducible exact Wr l _ p t|exact rfl|refine aI ?_ ?_)|(rw[hw1];simp)|(simp;omega)))|(repeat' first|with_reducible refine QP ?_ ?_|exact tv|with_reducible exact qRr|with_reducible exact hw|with_reducible exact hpop|with_reducible exact hle|with_reducible exact hq|with_reducible exact hb|exact rfl|refine aI ?_ ?_)
def QCG(w0:TwP)(ac body:Code)(rec:List Lay->TJ->QZ TJ)(l:List Lay)(p:Nat):Prop:=∀ t,t<QY d p->∀ s,QR prog 103 (uFC (V1 d E w0 ac body (l++[⟨p,t⟩]) s (rec (l++[⟨p,t⟩]) s)))
theorem Qat{d:Puz}{E:ECt}{w0:TwP}{ac body:Code}{rec:List Lay->TJ->QZ TJ}{l:List Lay}{p:Nat}(hd:KI d)(hE:WfE E)(hl:l.length<=1000)(hL:∀ y∈l,KC d y)(hp:p<d.ps.n)(IH:QCG d E w0 ac body rec l p)(k:Nat×TJ):(jN prog d E w0 ac body rec l p k).Sound:=by
 unfold jN ZV
 by_cases h:k.1<QY d p
 .rw[if_pos h];have h4:=(Zo d p).2;exact QQ ((Qd.add (QCK d E l ⟨p,k.1⟩ hd hE hl hL ⟨⟨by show(0:Int)<=p;omega,by show(p:Int)<_;omega⟩,by show(0:Int)<=k.1;omega,by show(k.1:Int)<=3;omega⟩)).add (IH k.1 h k.2))
 .rw[if_neg h];exact QQ ((Qd.add (JY (by kernel_rfl) _)).add (JY (by kernel_rfl) _))
def QA9(w0:TwP)(ac body:Code)(rec:List Lay->TJ->QZ TJ)(l:List Lay)(p:Nat)(s:TJ):List (Prop×Ex×JSt):=
 [((inZ d E rec l p s).isGo=true,.exit 2,QAY d E w0 ac body (QD l) l (inZ d E rec l p s).s.1 p),((inZ d E rec l p s).isGo=false,.ret,twF d E w0 ac body (QD l) l (inZ d E rec l p s).s.1)]
theorem QWe{d:Puz}{E:ECt}{w0:TwP}{ac body:Code}{rec:List Lay->TJ->QZ TJ}{l:List Lay}(hd:KI d)(hE:WfE E)(hl:l.length<=1000)(hL:∀ y∈l,KC d y)(p:Nat)(s:TJ)(IH:p<d.ps.n->QCG d E w0 ac body rec l p)(G:Ctx)(hrd:G.rd=none)(hG:G.n<=632):
  Qu (mkE prog (Wb QO d l.length p)) G (QCP prog QO d E w0 ac body (QD l) l s.1 p (QA9 d E w0 ac body rec l p s)) (QJ f103 0):=by
 have hT:Qe (Wb QO d l.length p):=Qd.add (YL d l.length p);refine KM (body:=QS (QJ f103 0)) (QQ hT) hrd (by kernel_rfl) ?_
 refine Jm λhp=>?_;have hu:=QEd hp.2;have hEnv:=Qat (ac:=ac) (body:=body) hd hE hl hL hp.1 (IH hp.1);refine Jt (E0:=mkE prog (Wb QO d l.length p)) (E:=jN prog d E w0 ac body rec l p) (H:=λk=>hnd (jN prog d E w0 ac body rec l p k) 0) (n0:=632) (s0:=(0,s)) (λ_=>rfl) hEnv hG (λk _=>Q1 (hEnv k) 0 G _ hrd) (λk _=>(by decide:632<=672)) ?_ (QYx d E w0 ac body rec l p hp.1 hd.n hl hu) (Nat.zero_le _) ?_
 .intro k e J hr;unfold Yx at hr;split at hr<;>(rw[hr.2];exact(by decide:632<=672))
 .intro e J hr;unfold Yx at hr;simp only[List.drop_zero]at hr;have hi:inZ d E rec l p s=Qz (KA d E rec l p) (List.range (QY d p)) s:=rfl;unfold QA9;rw[hi];cases hc:Qz (KA d E rec l p) (List.range (QY d p)) s with
  | go s'=>
   rw[hc]at hr;exact⟨_,qmc,rfl,hr.1.symm,hr.2.symm⟩
  | stop s'=>
   rw[hc]at hr;exact⟨_,List.mem_cons_of_mem _ qmc,rfl,hr.1.symm,hr.2.symm⟩
