/- - -/
import Derived.Test.YtekbmehgcofnkaaGreatMzg
open Go.Proofs.Tryz
open Go.IntKind (i64)
set_option maxRecDepth 100000
namespace Go.Proofs.YtekbmehgcofnkaaGreat
open Go.SX Go.SX.Told
variable (d:Puz)(E:ECt)(C:Cap)(K:Rw Pt)(ac body:Code)(l2:List Lay)(u':Nat->Nat->Int)(rec:List Lay->Unit->QZ Unit)(p:Nat)(l:List Lay)(u u2:Nat->Nat->Int)(t:Nat)(tn:Int)
def haT:List AV:=[.ptr 200 0 0,(.slz 216 0 K.n C),.tup [],.tup [],.ptr 232 0 0,.ptr 200 0 0,(.slz 216 0 K.n C),.fn (.func 102) [.ptr 256 0 0,.ptr 264 0 0],.tup []]
def QIH:List AV:=[.ptr 256 0 0,.ptr 304 0 0,.ptr 368 0 0,.ptr 264 0 0,.ptr 384 0 0]
def haR:List (Nat×Blk):=
 [(384,.cellsR 0 31 [.fn (.func 103) QIH]),(304,.cellsR 0 105 [.yld 297]),(264,.cellsR 0 96 [(.slz 216 0 K.n C)]),(256,.cellsR 0 90 [.ptr 200 0 0])]++Ql.blk 216 K++Ql.blk 0 d.ps
def haW(ls:LoopState)(pe:Option Code)(v:Bool)(d:Puz)(E:ECt)(C:Cap)(K:Rw Pt)(ac body:Code)(u:Nat->Nat->Int)(l:List Lay)(a w:Nat):List (Nat×Blk):=
 [(200,.cells 0 152 (KR d++[.map 201,.slz a 0 l.length (.of 0)])),(201,.mp E.1 E.2),rwY a l,(368,.cells 0 114 [.slz w 0 d.ps.n (.of 0)]),rwU w d u,(297,.lp ls pe (haT C K) #[8] ac body),(232,.cells 0 4 [.bool true v])]
def haS:List (Nat×AV):=[(0,.ptr 256 0 0),(1,.ptr 304 0 0),(2,.ptr 368 0 0),(3,.ptr 264 0 0),(4,.ptr 384 0 0)]
def GE(l:List Lay):JSt:=⟨5,haS,haW .ready none false d E C K ac body u l 400 408++haR d C K,416⟩
def Zi(_:List Lay)(_:Unit):QZ Unit := .stop ()
def haU(l:List Lay)  :UC:=
 ⟨392,GE d E C K ac body u l,λ_=>.bool false true,λm=>haW .ready none false d E C K ac body u l m (m+1)⟩
def haV(l:List Lay)  :UC:=
 ⟨392,GE d E C K ac body u l,λ_=>.bool false false,λm=>haW .done (some .ret) true d E C K ac body u l m (m+1)⟩
def Zb:List Nat:=[200,201,368,297,232]
def QGW(n:Nat)(p:Nat):List (Nat×AV):=haS++[(33,.int false .i64 n),(34,.int false .i64 p)]
def QdB(n:Nat)(p:Nat)(tn:Int)(t:Nat):List (Nat×AV):=QGW n p++[(6,.int false .i64 p),(43,.int false .i64 tn),(44,.int false .i64 t)]
def vt(l:List Lay)(p:Nat):JSt:=⟨101,QGW d.ps.n p,haW .ready none false d E C K ac body u l 424 432++haR d C K,440⟩
def vH(l:List Lay)(p:Nat)(tn:Int)(t:Nat):JSt:=⟨101,QdB d.ps.n p tn t,haW .ready none false d E C K ac body u l 424 432++haR d C K,440⟩
def GC(l:List Lay):JSt:=⟨101,[],haW .ready none false d E C K ac body u l 424 432,440⟩
def QAD(l:List Lay)(p:Nat):JSt:=⟨101,QGW d.ps.n p,haW .ready none false d E C K ac body u l 424 432++haR d C K,440⟩
def haF(l:List Lay):JSt:=⟨101,[(5,.bool false false)],haW .done (some .ret) true d E C K ac body u l 424 432,440⟩
def QMc:Ex->List Nat
 | .normal=>[0,1,2,3,4,33,34]
 | .exit _=>[]
 | .ret=>[5]
def QGR:Ex->List Nat
 | .normal=>[0,1,2,3,4,33,34,6,43,44]
 | .exit _=>[0,1,2,3,4,33,34]
 | .ret=>[5]
def HN(pb1 pb2:List Prop->Bool)(d:Puz)(E:ECt)(C:Cap)(K:Rw Pt)(l:List Lay)(x:Lay)(v:Bool)(U:UC):Tab:=Qc (Qc QT 105 (KB pb1 (myU d E l x v))) 103 (KB pb2 U)
noncomputable abbrev wa4:List AV:=[.ptr 256 0 0,.ptr 304 0 0,.ptr 368 0 0,.ptr 264 0 0,.ptr 384 0 0]
noncomputable abbrev zi:List AV:=
  (.nilp::.ptr 101 0 0::List.append (wa4) ((List.append (wcp d p) ([.int false .i64 tn,vi (i64.wrap ((t:Int)+1))]))))
noncomputable abbrev j4:Nat×Blk:=
  (256,.cellsR 0 90 [.ptr 200 0 0])
noncomputable abbrev jW:Nat×Blk:=
  (264,.cellsR 0 96 [.slz 216 0 K.n C])
noncomputable abbrev QBi:Nat×Blk:=
  (384,.cellsR 0 31 [.fn (Fn.func 103) (wa4)])
noncomputable abbrev vF:Nat×Blk:=
  (0,.frz (List.append (waa) ((List.append (waG) ((List.append (wbk) ([.int .i64])))))) d.ps.n λi=>QA.enc (d.ps.get i))
noncomputable abbrev qb:Nat×Blk:=
  (216,.frz [.int .i64,.int .i64,.int .i64] K.n λi=>QA.enc (K.get i))
noncomputable abbrev wbV(C:Cap)(K:Rw Pt)(ac:Code)(body:Code):List (Nat×Blk):=[(297,.lp LoopState.ready none (haT C K) (Array.mk [8]) ac body),(232,.cells 0 4 [.bool true false])]
noncomputable abbrev Zd(E:ECt)(K:Rw Pt)(ac:Code)(body:Code)(d:Puz)(l:List Lay)(u:Nat->Nat->Int):List (Nat×Blk):=
  ((200,.cells 0 152 (List.append (waf d) ([.map 201,.slz 424 0 l.length cO])))::(201,.mp E.1 E.2)::(368,.cells 0 114 [.slz
  432 0 d.ps.n cO])::List.append (wbV C K ac body) ([j4,(304,.cellsR 0 105 [.yld 297]),(jW C
  K),QBi,(vF d),(424,.rowz true 49 kB l.length λi=>QA.enc (l.getD i (Lay.mk (0:Int) (0:Int)))),(432,.rowz true 4 [CK.bool] d.ps.n u),(qb
  K)]))
abbrev QJk(d:Puz)(l:List Lay)(p:Nat)(t:Nat):List Prop:=
  ([0=0,0=0,(p:Int)=(p:Int),(t:Int)=(t:Int)]++wab d++(([cO=cO,0=0,l.length=l.length,cO
  = cO]++wag l++[E.1=E.1,E.2=E.2])++wae d))
abbrev waC(l:List Lay)(l2:List Lay)(p:Nat)(t:Nat):List Prop:=[l2.length<=l.length+1,QB 2 l2.length (KN l.length (λi=>QA.enc (l.getD i (Lay.mk (0:Int) (0:Int)))) (Kh [[.int
  false .i64 (p:Int),vi (t:Int)]] 0)) λi=>QA.enc (l2.getD i (Lay.mk (0:Int) (0:Int)))]
abbrev wbI(K:Rw Pt):List Prop:=[K.n<=K.n,QB 3 K.n (λi=>QA.enc (K.get i)) λi=>QA.enc (K.get i)]
abbrev QL5(E:ECt)(K:Rw Pt)(ac:Code)(body:Code)(d:Puz)(l:List Lay)(l2:List Lay)(p:Nat)(t:Nat)(u:Nat->Nat->Int)(u2:Nat->Nat->Int):List Prop:=
  ((wb2++[0=0])++wab d++((([cO=cO,0=0,l.length+1=l2.length,cO=cO,E.1=E.1,E.2=E.2]++waC l l2 p t++(wcN d++[QB 1 d.ps.n (λi=>bif decide (i=p)then KZ [.bool true true] 0 (u ((p:Int).toNat+0))else u i) u2]))++waj++((([Array.mk [8]=Array.mk [8],ac=ac,body=body,0=0,0=0,0=0,K.n=K.n,C=C,0=0,0=0,0=0,0=0,0=0,K.n=K.n,C=C]++wcY++[false=false,Fn.func 103=Fn.func 103])++wb2++[0=0,0=0,K.n=K.n,C=C,0=0,0=0])++wbI K))++wae d))
noncomputable abbrev Gv:Nat×Blk:=
  (200,.cells 0 152 (List.append (waf d) ([.map 201,.slz 752 0 (i64.wrap ((l2.length:Int)-1)).toNat cO])))
noncomputable abbrev zd:Nat×Blk:=
  (368,.cells 0 114 [.slz 753 0 d.ps.n cO])
noncomputable abbrev zG:Nat×Blk:=
  (752,.rowz true 49 kB l2.length λi=>QA.enc (l2.getD i (Lay.mk (0:Int) (0:Int))))
noncomputable abbrev vk:Nat×Blk:=
  (753,.rowz true 4 [CK.bool] d.ps.n λi=>bif decide (i=p)then KZ [.bool true false] 0 (u2 ((p:Int).toNat+0))else u2 i)
noncomputable abbrev QPX:List AV:=
  (.ptr 2 0 0::.ptr 101 0 0::List.append (wa4) ([vi (d.ps.n:Int),vi (p:Int)]))
theorem QWo(pb1 pb2:List Prop->Bool)(d:Puz)(E:ECt)(C:Cap)(K:Rw Pt)(ac body:Code)(u u2:Nat->Nat->Int)(l l2:List Lay)(v:Bool)(p:Nat)(tn:Int)(t:Nat)(g0:Nat->Value):exec (mkE prog (HN pb1 pb2 d E C K l ⟨p,t⟩ v (haU d E C K ac body u2 l2))) (hnd (mkE prog (HN pb1 pb2 d E C K l ⟨p,t⟩ v (haU d E C K ac body u2 l2))) 0) (QS (QJ f103 0)) (JSt.inst (vH d E C K ac body u l p tn t) g0) (Q9 Zb QGR) = .br (decide ((t:Int)<tn)) (.need (decide (K.n<=K.n)&&(true&&(true&&true))&&decide (K.n<=1000)) (.br (!Qq K (l.length:Int) (Lay.mk (p:Int) (t:Int))) (.leaf (.tup (zi d p t tn)) ((Zd C E K ac body d l u))) (.need (pb1 ((QJk E d l p t))) (.br (!v) (.leaf (.tup (zi d p t tn)) ((Zd C E K ac body d l u))) (.need (decide ((0:Int)<=(p:Int)/\(p:Int)<(d.ps.n:Int))&&decide (d.ps.n<=d.ps.n)) (.need (decide (p<d.ps.n)) (.need (decide (l.length<=l.length)&&(true&&decide ((l.length+1+(l.length+1) / 4+192)*16<=281474976710656/\l.length+1<=9223372036854775807))) (.need (pb2 ((QL5 C E K ac body d l l2 p t u u2))) (.need (decide ((0:Int)<=i64.wrap ((l2.length:Int)-1)/\(i64.wrap ((l2.length:Int)-1)).toNat<=l2.length-0)) (.need (decide ((0:Int)<=(p:Int)/\(p:Int)<(d.ps.n:Int))&&decide (d.ps.n<=d.ps.n)) (.need (decide (p<d.ps.n)) (.br (false) (.leaf (.tup (wcu)) (((Gv d l2)::(201,.mp E.1 E.2)::(zd d)::List.append (wbV C K ac body) ([(vF d),(zG l2),(vk d p u2),(qb K),j4,(jW C K)])))) (.leaf (.tup (zi d p t tn)) (((Gv d l2)::(201,.mp E.1 E.2)::(zd d)::List.append (wbV C K ac body) ([j4,(304,.cellsR 0 105 [.yld 297]),(jW C K),QBi,(vF d),(zG l2),(vk d p u2),(qb K)])))))))))))))))) (.leaf (.tup (QPX d p)) ((Zd C E K ac body d l u))):=by kernel_rfl
noncomputable abbrev QGX:List AV:=
  (List.append (wa4) ((List.append (wcp d p) ([vi tn,.int
  false .i64 (i64.wrap ((t:Int)+1))]))))
abbrev wbQ(C:Cap)(K:Rw Pt):List Prop:=[K.n=K.n,C=C,Fn.func (102:FuncId)=Fn.func (102:FuncId)]
abbrev QSV(E:ECt)(K:Rw Pt)(ac:Code)(body:Code)(d:Puz)(l:List Lay)(p:Nat)(t:Nat)(t':Nat)(tn:Int)(u:Nat->Nat->Int):List Prop:=
  (((wb2++[0=0])++waV d p++[tn=tn,i64.wrap ((t :
  Int)+1)=(t':Int)])++wab d++((([cO=cO,0=0]++wcj E l)++wag l++((wcN d++[QB 1 d.ps.n u u])++waj++(([Array.mk [8]=Array.mk [(8:Tmp)],ac=ac,body=body,0=0,0 =
  0,0=0,K.n=K.n,C=C,0=0,0=0,0=0,0=0,0=0]++wbQ C K++([0=0,0=0,0=0,0=0,false=false,Fn.func
  103=Fn.func (103:FuncId)]++wb2++[0=0,0=0,K.n=K.n,C=C,0=0,0=0]))++wbI K)))++wae d))
theorem QLR(l:List Lay)(p:Nat)(tn:Int)(t t':Nat):QG 416 (QGX d p t tn) ((Zd C E K ac body d l u)) (vH d E C K ac body u l p tn t')=(some (QSV C E K ac body d l p t t' tn u)):=by kernel_rfl
theorem QNx(l:List Lay)(p:Nat)(tn:Int)(t t':Nat):QG 416 (QGX d p t tn) ((Zd C E K ac body d l u)) (vH d E C K ac body u l p tn t')=(some (QSV C E K ac body d l p t t' tn u)):=by kernel_rfl
abbrev V6:List Prop:=
  [0=0,0=0,0=0,0=0]
abbrev QL3(d:Puz)(l:List Lay)(l2:List Lay)(p:Nat)(u2:Nat->Nat->Int)(u3:Nat->Nat->Int):List Prop:=
  ([d.pK.dK.lo=d.pK.dK.lo,d.pK.dK.hi=d.pK.dK.hi,d.wide=d.wide,d.high=d.high,d.turn=d.turn,0=0,d.ps.n=d.ps.n,cO=cO,0=0,(i64.wrap ((l2.length:Int)-1)).toNat=l.length,cO=cO]++wa8 E l l2++(wcN d++[QB 1 d.ps.n (λi=>bif decide
  (i=p)then KZ [.bool true false] 0 (u2 ((p:Int).toNat+0))else u2 i) u3]))
abbrev QFb:List Prop:=
  [Array.mk [8]=Array.mk [(8:Tmp)],ac=ac,body=body,0=0,0=0,0=0,K.n=K.n,C=C]
abbrev QLu(d:Puz):List Prop:=
  (([0=0,0=0,K.n=K.n,C=C,0=0,0=0]++wbI K)++wae d)
abbrev wcK(d:Puz):List Prop:=[d.pK.length=d.pK.length,d.pK.aK=d.pK.aK]
theorem Qbq(u u2 u3:Nat->Nat->Int)(l l2:List Lay)(p:Nat)(tn:Int)(t t':Nat):QG 416 (QGX d p t tn) (((Gv d l2)::(201,.mp E.1 E.2)::(zd d)::List.append (wbV C K ac body) ([j4,(304,.cellsR 0 105 [.yld 297]),(jW C K),QBi,(vF d),(zG l2),(vk d p u2),(qb K)]))) (vH d E C K ac body u3 l p tn t')=(some (V6++V6++([0=0,0=0]++waV d p++([tn=tn,i64.wrap ((t:Int)+1)=(t':Int)]++wcK d++[d.pK.oK=d.pK.oK]))++(QL3 E d l l2 p u2 u3)++(waj)++(QFb C K ac body)++V6++([0=0]++wbQ C K)++V6++[false=false,Fn.func 103=Fn.func (103:FuncId)]++V6++V6++[0=0]++(QLu C K d))):=by kernel_rfl
theorem QPq(l:List Lay)(p:Nat):QG 416 (List.append (wa4) ([vi (d.ps.n:Int),vi (p:Int)])) ((Zd C E K ac body d l u)) (QAD d E C K ac body u l p)=(some (V6++V6++(([0=0,0=0]++wcQ d p)++wab d++(([cO=cO,0=0]++wcj E l)++wag l++((wcN d++[QB 1 d.ps.n u u])++waj)))++(QFb C K ac body)++V6++([0=0]++wbQ C K)++V6++[false=false,Fn.func 103=Fn.func (103:FuncId)]++V6++V6++[0=0]++(QLu C K d))):=by kernel_rfl
noncomputable abbrev wbi(C:Cap)(K:Rw Pt)(ac:Code)(body:Code):List (Nat×Blk):=[(297,.lp LoopState.done (some Code.ret) (haT C K) (Array.mk [8]) ac body),(232,.cells 0 4 [.bool true true])]
theorem QWx(pb1 pb2:List Prop->Bool)(d:Puz)(E:ECt)(C:Cap)(K:Rw Pt)(ac body:Code)(u u2:Nat->Nat->Int)(l l2:List Lay)(v:Bool)(p:Nat)(tn:Int)(t:Nat)(g0:Nat->Value):exec (mkE prog (HN pb1 pb2 d E C K l ⟨p,t⟩ v (haV d E C K ac body u2 l2))) (hnd (mkE prog (HN pb1 pb2 d E C K l ⟨p,t⟩ v (haV d E C K ac body u2 l2))) 0) (QS (QJ f103 0)) (JSt.inst (vH d E C K ac body u l p tn t) g0) (Q9 Zb QGR) = .br (decide ((t:Int)<tn)) (.need (decide (K.n<=K.n)&&(true&&(true&&true))&&decide (K.n<=1000)) (.br (!Qq K (l.length:Int) (Lay.mk (p:Int) (t:Int))) (.leaf (.tup (zi d p t tn)) ((Zd C E K ac body d l u))) (.need (pb1 ((QJk E d l p t))) (.br (!v) (.leaf (.tup (zi d p t tn)) ((Zd C E K ac body d l u))) (.need (decide ((0:Int)<=(p:Int)/\(p:Int)<(d.ps.n:Int))&&decide (d.ps.n<=d.ps.n)) (.need (decide (p<d.ps.n)) (.need (decide (l.length<=l.length)&&(true&&decide ((l.length+1+(l.length+1) / 4+192)*16<=281474976710656/\l.length+1<=9223372036854775807))) (.need (pb2 ((QL5 C E K ac body d l l2 p t u u2))) (.need (decide ((0:Int)<=i64.wrap ((l2.length:Int)-1)/\(i64.wrap ((l2.length:Int)-1)).toNat<=l2.length-0)) (.need (decide ((0:Int)<=(p:Int)/\(p:Int)<(d.ps.n:Int))&&decide (d.ps.n<=d.ps.n)) (.need (decide (p<d.ps.n)) (.br (true) (.leaf (.tup (wcu)) (((Gv d l2)::(201,.mp E.1 E.2)::(zd d)::List.append (wbi C K ac body) ([(vF d),(zG l2),(vk d p u2),(qb K),j4,(jW C K)])))) (.leaf (.tup (zi d p t tn)) (((Gv d l2)::(201,.mp E.1 E.2)::(zd d)::List.append (wbi C K ac body) ([j4,(304,.cellsR 0 105 [.yld 297]),(jW C K),QBi,(vF d),(zG l2),(vk d p u2),(qb K)])))))))))))))))) (.leaf (.tup (QPX d p)) ((Zd C E K ac body d l u))):=by kernel_rfl
theorem QSo(u2 u3:Nat->Nat->Int)(l l2:List Lay)(p:Nat):QG 416 [.bool true false] (((Gv d l2)::(201,.mp E.1 E.2)::(zd d)::List.append (wbi C K ac body) ([(vF d),(zG l2),(vk d p u2),(qb K),j4,(jW C K)]))) (haF d E C K ac body u3 l)=(some (([false=false]++wcK d++[d.pK.oK=d.pK.oK])++(QL3 E d l l2 p u2 u3)++[LoopState.done=LoopState.done,some Code.ret=some Code.ret]++(QFb C K ac body)++V6++([0=0]++wbQ C K)++V6++[true=true])):=by kernel_rfl
def W8(pb:List Prop->Bool)(d:Puz)(n:Nat)(a:Int):Tab:=Qc QT 52 (KB pb (tnU d n a))
abbrev QDm(P:Program)(pb:List Prop->Bool)(d:Puz)(E:ECt)(C:Cap)(K:Rw Pt)(ac body:Code)(u:Nat->Nat->Int)(l:List Lay)(p:Nat)(X:List (Prop×Ex×JSt)):Hnd:={ hnd (mkE P (W8 pb d l.length p)) 0 with loop:=λ_=>JI (p<d.ps.n/\u p 0=0) (KE 416 Zb (vH d E C K ac body u l p (tnV d p) (0:Nat)) X) }
noncomputable abbrev QNM:List AV:=
  (.nilp::.ptr 101 0 0::List.append (wa4) ([vi (d.ps.n:Int),vi (i64.wrap ((p:Int)+1))]))
noncomputable abbrev X8:Nat×Blk:=
  (200,.cells 0 152 (List.append (waf d) ([.map 201,.slz 424 0 l.length cO])))
noncomputable abbrev YF:Nat×Blk:=
  (368,.cells 0 114 [.slz 432 0 d.ps.n cO])
noncomputable abbrev vp:Nat×Blk:=
  (297,.lp LoopState.ready none (haT C K) (Array.mk [8]) ac body)
noncomputable abbrev jP:Nat×Blk:=
  (256,.cellsR 0 90 [.ptr 200 0 0])
noncomputable abbrev jZ:Nat×Blk:=
  (264,.cellsR 0 96 [.slz 216 0 K.n C])
noncomputable abbrev QEW:Nat×Blk:=
  (384,.cellsR 0 31 [.fn (Fn.func 103) (wa4)])
noncomputable abbrev q9:Nat×Blk:=
  (0,.frz (List.append (waa) ((List.append (waG) ((List.append (wbk) ([.int .i64])))))) d.ps.n λi=>QA.enc (d.ps.get i))
noncomputable abbrev X4:Nat×Blk:=
  (424,.rowz true 49 kB l.length λi=>QA.enc (l.getD i (Lay.mk (0:Int) (0:Int))))
noncomputable abbrev qd:Nat×Blk:=
  (216,.frz [.int .i64,.int .i64,.int .i64] K.n λi=>QA.enc (K.get i))
theorem QOu(pb:List Prop->Bool)(d:Puz)(E:ECt)(C:Cap)(K:Rw Pt)(ac body:Code)(u u':Nat->Nat->Int)(l:List Lay)(p:Nat)(A B:Prop)(g0:Nat->Value):exec (mkE prog (W8 pb d l.length p)) (QDm prog pb d E C K ac body u l p [(A,.exit 2,QAD d E C K ac body u' l p),(B,.ret,haF d E C K ac body u' l)]) (QJ f103 0) (JSt.inst (vt d E C K ac body u l p) g0) (Q9 Zb QMc) = .br (decide ((p:Int)<(d.ps.n:Int))) (.need (decide ((0:Int)<=(p:Int)/\(p:Int)<(d.ps.n:Int))&&decide (d.ps.n<=d.ps.n)) (.need (decide (p<d.ps.n)) (.br (decide (u ((p:Int).toNat+0) 0=1)) (.leaf (.tup (QNM d p)) ([(X8 d l),(201,.mp E.1 E.2),(YF d), (vp C K ac body),(232,.cells 0 4 [.bool true false]),jP,(304,.cellsR 0 105 [.yld 297]),(jZ C K),QEW,(q9 d),(X4 l),(432,.rowz true 4 [CK.bool] d.ps.n u),(qd K)])) (.need (pb (([0=0,0=0,(p:Int)=(p:Int)]++wab d++([cO=cO,0=0,l.length=l.length,cO=cO]++wae d)))) (.ak [p<d.ps.n/\u p 0=0] (.ak (rz 10) (.ak ((waV d p++[tnV d (p:Int)=tnV d (p:Int),(0:Int)=0])++wab d++(([cO=cO,0=0]++wcj E l)++wag l++((wcN d++[QB 1 d.ps.n u u])++waj++([Array.mk [(8:Tmp)]=Array.mk [(8:Tmp)],ac=ac,body=body,0=0,0=0,0=0,K.n=K.n,C=C,0=0,0=0,0=0,0=0,0=0]++wbQ C K++[0=0,0=0,0=0,0=0,false=false,Fn.func (103:FuncId)=Fn.func (103:FuncId)])))) (.ak (rz 11) (.ak (([K.n=K.n,C=C,0=0,0=0]++wbI K)++wae d) (.both (.asm (A) (.all (λ(g0:Nat->Value)=>.leaf (.tup (QNM d p)) ([(X8 d l),(201,.mp E.1 E.2),(YF d),(vp C K ac body),(232,.cells 0 4 [.bool true false]),jP,(304,.cellsR 0 105 [.yld 297]),(jZ C K),QEW,(q9 d),(X4 l),(432,.rowz true 4 [CK.bool] d.ps.n u'),(qd K)])))) (.asm (B) (.all (λ(g1:Nat->Value)=>.leaf (.tup [.nili,.ptr 101 0 0, .bool false false]) (((X8 d l)::(201,.mp E.1 E.2)::(YF d)::List.append (wbi C K ac body) ([(X4 l),(432,.rowz true 4 [CK.bool] d.ps.n u')])))))))))))))))) (.leaf (.tup [.ptr 0 0 0,.ptr 101 0 0]) ([(X8 d l),(201,.mp E.1 E.2),(YF d),(vp C K ac body),(232,.cells 0 4 [.bool true false]),(q9 d),(X4 l),(432,.rowz true 4 [CK.bool] d.ps.n u),(qd K), jP,(jZ C K)])):=by kernel_rfl
noncomputable abbrev QOP:List AV:=
  (List.append (wa4) ([vi (d.ps.n:Int),vi (i64.wrap ((p:Int)+1))]))
abbrev JR:List Prop:=
  [0=0,0=0,0=0,0=0]
abbrev jw(d:Puz)(l:List Lay):List Prop:=
  (([d.pK.aK=d.pK.aK]++waP d++([0 =
  0,d.ps.n=d.ps.n,cO=cO,0=0]++wcj E l))++wag l++[0=0,d.ps.n=d.ps.n,cO=cO])
abbrev QH4:List Prop:=
  (waj++[Array.mk [8]=Array.mk [(8:Tmp)],ac=ac])
abbrev ZT:List Prop:=
  [0=0,0=0,0=0,K.n=K.n,C=C]
abbrev ql:List Prop:=
  ([0=0]++wbQ C K)
abbrev QO1(d:Puz):List Prop:=
  (([0=0,0=0]++wbI K)++wae d)
theorem QJu(l:List Lay)(p p':Nat):QG 416 (QOP d p) ([(X8 d l),(201,.mp E.1 E.2),(YF d),(vp C K ac body),(232,.cells 0 4 [.bool true false]),jP,(304,.cellsR 0 105 [.yld 297]),(jZ C K),QEW, (q9 d),(X4 l),(432,.rowz true 4 [CK.bool] d.ps.n u),(qd K)]) (vt d E C K ac body u l p')=(some (JR++JR++([0=0,0=0]++wcq d p p')++(jw E d l)++[d.ps.n<=d.ps.n,QB 1 d.ps.n u u]++(QH4 ac)++[body=body]++(ZT C K)++JR++(ql C K)++JR++[false=false,Fn.func 103=Fn.func (103:FuncId)]++JR++JR++(ZT C K)++(QO1 K d))):=by kernel_rfl
theorem QaJ(p p':Nat):QG 416 (QOP d p) ([(X8 d l),(201,.mp E.1 E.2),(YF d),(vp C K ac body),(232,.cells 0 4 [.bool true false]),jP,(304,.cellsR 0 105 [.yld 297]),(jZ C K),QEW, (q9 d),(X4 l),(432,.rowz true 4 [CK.bool] d.ps.n u'),(qd K)]) (vt d E C K ac body u' l p')=(some (JR++JR++([0=0,0=0]++wcq d p p')++(jw E d l)++[d.ps.n<=d.ps.n,QB 1 d.ps.n u' u']++(QH4 ac)++[body=body]++(ZT C K)++JR++(ql C K)++JR++[false=false,Fn.func 103=Fn.func (103:FuncId)]++JR++JR++(ZT C K)++(QO1 K d))):=by kernel_rfl
theorem QXY :QG 416 [.bool false false] (((X8 d l)::(201,.mp E.1 E.2)::(YF d)::List.append (wbi C K ac body) ([(X4 l),(432,.rowz true 4 [CK.bool] d.ps.n u')]))) (haF d E C K ac body u' l)=(some ([false=false,d.pK.length=d.pK.length]++(jw E d l)++[d.ps.n<=d.ps.n, QB 1 d.ps.n u' u',LoopState.done=LoopState.done,some Code.ret=some Code.ret,Array.mk [8]=Array.mk [(8:Tmp)],ac=ac,body=body]++(ZT C K)++JR++(ql C K)++JR++[true=true])):=by kernel_rfl
theorem QRg(l:List Lay):QG 416 [] ([(X8 d l),(201,.mp E.1 E.2),(YF d),(vp C K ac body),(232,.cells 0 4 [.bool true false]),(q9 d),(X4 l),(432,.rowz true 4 [CK.bool] d.ps.n u),(qd K),jP,(jZ C K)]) (GC d E C K ac body u l)=(some ([d.pK.length=d.pK.length]++(jw E d l)++[d.ps.n<=d.ps.n,QB 1 d.ps.n u u]++(QH4 ac)++[body=body] ++ (ZT C K)++JR++(ql C K)++JR++[false=false])):=by kernel_rfl
abbrev haN(P : Program)(T : Tab): Hnd := { hnd (mkE P T) 2 with loop := λ_ _ _=>.fail "a loop" }
abbrev haX(P:Program)(J:JSt)(X:List (Prop×Ex×JSt)):Hnd:={ hnd (mkE P QT) 2 with loop:=λ_=>KE 416 Zb J X }
noncomputable abbrev QFd:Nat×Blk:=
  (297,.lp LoopState.done (some Code.ret) (haT C K) (Array.mk [8]) (QN f53 0).1 (QN f53 0).2)
noncomputable abbrev QH5(E:ECt)(K:Rw Pt)(d:Puz)(l:List Lay)(u:Nat->Nat->Int):List (Nat×Blk):=
  [(200,.cells 0 152 (List.append (waf d) ([.map 201,.slz 400 0 l.length cO]))),(201,.mp E.1 E.2),(368,.cells 0 114 [.slz
  408 0 d.ps.n cO]),(QFd C K),(232,.cells 0 4 [.bool true true]),(q9 d),(400,.rowz true 49 kB l.length λi=>QA.enc (l.getD i (Lay.mk (0 :
  Int) (0:Int)))),(408,.rowz true 4 [CK.bool] d.ps.n u),(qd K),jP,(jZ C K)]
theorem QY4(l:List Lay):(VR (mkE prog QT) (haN prog QT) f103 QIH (GE d E C K (QN f53 0).1 (QN f53 0).2 u l).hp 416 λv h _=>ZE Zb v h) = .br
  ((l.length : Int) == (d.ps.n : Int)) (.leaf (.bool true false) ((QH5 C E K d l u))) (.fail ("a loop")) := by kernel_rfl
abbrev wcB:List Prop:=[(QN f53 0).1=(QN f53 0).1,(QN f53 0).2=(QN f53 0).2]
theorem QOG(u u':Nat->Nat->Int)(l:List Lay)(A B:Prop):(VR (mkE prog QT) (haX prog (vt d E C K (QN f53 0).1 (QN f53 0).2 u l 0) [(A,.exit 0,GC d E C K (QN f53 0).1 (QN f53 0).2 u' l),(B,.ret,haF d E C K (QN f53 0).1 (QN f53 0).2 u' l)]) f103 QIH (GE d E C K (QN f53 0).1 (QN f53 0).2 u l).hp 416 λv h _=>ZE Zb v h) = .br ((l.length:Int)==(d.ps.n:Int)) (.leaf (.bool true false) ((QH5 C E K d l u))) (.ak (rz 10) (.ak ([(d.ps.n:Int)=(d.ps.n:Int),(0:Int)=0]++wab d++(([cO=cO,0=0]++wcj E l)++wag l++((wcN d++[QB 1 d.ps.n u u])++waj++(([Array.mk [(8:Tmp)]=Array.mk [(8:Tmp)]]++wcB++[0=0,0=0,0=0,K.n=K.n,C=C,0=0,0=0,0=0,0=0,0=0])++wbQ C K++[0=0,0=0,0=0,0=0,false=false,Fn.func (103:FuncId)=Fn.func (103:FuncId)])))) (.ak (rz 11) (.ak (([K.n=K.n,C=C,0=0,0=0]++wbI K)++wae d) (.both (.asm (A) (.all (λ(g0:Nat->Value)=>.leaf (.bool true true) ([(X8 d l),(201,.mp E.1 E.2),(YF d),(297,.lp LoopState.ready none (haT C K) (Array.mk [8]) (QN f53 0).1 (QN f53 0).2),(232,.cells 0 4 [.bool true false]),(X4 l),(432,.rowz true 4 [CK.bool] d.ps.n u')])))) (.asm (B) (.all (λ(g1:Nat->Value)=>.leaf (.bool false false) ([(X8 d l),(201,.mp E.1 E.2),(YF d), (QFd C K),(232,.cells 0 4 [.bool true true]),(X4 l),(432,.rowz true 4 [CK.bool] d.ps.n u')]))))))))):=by kernel_rfl
abbrev QJf:List Prop:=
  ([LoopState.done=LoopState.done,some Code.ret=some Code.ret,Array.mk [8]=Array.mk [(8:Tmp)]]++wcB)
theorem QVG(l:List Lay):QG 416 [(.bool true false)] ((QH5 C E K d l u)) (KP (haV d E C K (QN f53 0).1 (QN f53 0).2 u l))=(some ([false=false,d.pK.length=d.pK.length] ++ (jw E d l)++[d.ps.n<=d.ps.n,QB 1 d.ps.n u u]++QJf++(ZT C K)++JR++(ql C K)++JR++[true=true])):=by kernel_rfl
theorem Qdb(u u':Nat->Nat->Int)(l:List Lay):QG 416 [(.bool true true)] ([(X8 d l),(201,.mp E.1 E.2),(YF d),(297,.lp LoopState.ready none (haT C K) (Array.mk [8]) (QN f53 0).1 (QN f53 0).2),(232, .cells 0 4 [.bool true false]),(X4 l),(432,.rowz true 4 [CK.bool] d.ps.n u')]) (KP (haU d E C K (QN f53 0).1 (QN f53 0).2 u l))=(some ([true=true, d.pK.length=d.pK.length]++(jw E d l)++([d.ps.n<=d.ps.n,QB 1 d.ps.n u' u]++waj++([Array.mk [8]=Array.mk [(8:Tmp)]]++wcB))++(ZT C K)++JR++(ql C K)++JR++[false=false])):=by kernel_rfl
theorem Qcp(u u':Nat->Nat->Int)(l:List Lay):QG 416 [(.bool false false)] ([(X8 d l),(201,.mp E.1 E.2),(YF d),(QFd C K),(232,.cells 0 4 [.bool true true]),(X4 l),(432,.rowz true 4 [CK.bool] d.ps.n u')]) (KP (haV d E C K (QN f53 0).1 (QN f53 0).2 u l))=(some ([false=false,d.pK.length=d.pK.length]++(jw E d l)++[d.ps.n<=d.ps.n,QB 1 d.ps.n u' u]++QJf++(ZT C K)++JR++(ql C K)++JR++[true=true])):=by kernel_rfl
def ZZ(_:Unit):QZ Unit->UC
 | .go _=>haU d E C K ac body (QD l) l
 | .stop _=>haV d E C K ac body (QD l) l
open Classical in
noncomputable def Zk:List Prop->Bool:=if t<QY d p then QO else λ_=>false
noncomputable def j9(P:Program)(d:Puz)(E:ECt)(C:Cap)(K:Rw Pt)(ac body:Code)(rec:List Lay->Unit->QZ Unit)(l:List Lay)(p:Nat)(k:Nat×Unit):Env:=
 mkE P (HN (Zk d p k.1) (Zk d p k.1) d E C K l ⟨p,k.1⟩ (Q0 d E l ⟨p,k.1⟩) (ZZ d E C K ac body (l++[⟨p,k.1⟩]) k.2 (rec (l++[⟨p,k.1⟩]) k.2)))
def Yu(p:Nat)(k:Nat×Unit)(e:Ex)(J:JSt):Prop:=match Qz (Jp (Qq K) d E rec l p) ((List.range (QY d p)).drop k.1) k.2 with
 | .go _=>e = .exit 2/\J=QAD d E C K ac body (QD l) l p
 | .stop _=>e = .ret/\J=haF d E C K ac body (QD l) l
set_option maxHeartbeats 1000000 in
theorem QUw(p:Nat)(hp:p<d.ps.n)(hn:d.ps.n<=1000)(hK:K.n<=1000)(hl:l.length<=1000)(hu:KG l p=false):Jd (λk:Nat×Unit=>vH d E C K ac body (QD l) l p (tnV d p) k.1) (λk=>k.1<=QY d p) (λk=>QY d p-k.1) (Yu d E C K ac body rec l p) 416 QGR Zb (j9 prog d E C K ac body rec l p) (λk=>hnd (j9 prog d E C K ac body rec l p k) 0) (QS (QJ f103 0)):=by
 refine⟨λk g0 hk=>?_⟩;obtain⟨t,s⟩:=k;have hk:t<=QY d p:=hk;obtain⟨ht1,ht4⟩:=Zo d p;have hlen:(l++[(⟨p,t⟩:Lay)]).length=l.length+1:=by rw[List.length_append,List.length_singleton]
 have hw1:i64.wrap (((l++[(⟨p,t⟩:Lay)]).length:Int)-1)=l.length:=(w64 (by omega) (by omega)).trans (by omega)
 have hpop:(i64.wrap (((l++[(⟨p,t⟩:Lay)]).length:Int)-1)).toNat=l.length:=by rw[hw1];exact Int.toNat_natCast _
 have hle:l.length<=(l++[(⟨p,t⟩:Lay)]).length:=by omega
 have hpb:t<QY d p->Zk d p t=QO:=λh=>by unfold Zk;rw[if_pos h]
 have wt:t<QY d p->i64.wrap ((t:Int)+1)=((t+1:Nat):Int):=λh=>(w64 (by omega) (by omega)).trans (by omega)
 have step:=λh:t<QY d p=>Wp (f:=Jp (Qq K) d E rec l p) h s;unfold j9;simp only
 have next:t<QY d p->∀{s2:Unit},Jp (Qq K) d E rec l p s t = .go s2->∀ e J,Yu d E C K ac body rec l p (t+1,s2) e J->Yu d E C K ac body rec l p (t,s) e J:=by
  intro h s2 he e J hr;unfold Yu at hr ⊢;simp only at hr ⊢;rw[step h,he];exact hr
 have last:QY d p<=t->Yu d E C K ac body rec l p (t,s) (.exit 2) (QAD d E C K ac body (QD l) l p):=by
  intro h;unfold Yu;simp only[Wz h,and_self]
 cases hr:rec (l++[⟨p,t⟩]) s with
 | go s'=>
  simp only[ZZ];have et:=QWo (Zk d p t) (Zk d p t) d E C K ac body (QD l) (QD (l++[⟨p,t⟩])) l (l++[⟨p,t⟩]) (Q0 d E l ⟨p,t⟩) p (tnV d p) t g0;refine Qf et ?_;clear et;refine QF (λb0=>?_) (λb0=>?_);have h:t<QY d p:=by have:=qdt b0;omega
  rw[hpb h];have hw:=wt h;refine QH ?_ ?_;rotate_left;refine QF (λb1=>?_) (λb1=>?_);have hA:Qq K l.length ⟨p,t⟩=false:=by simpa using b1
  have ho:Jp (Qq K) d E rec l p s t = .go s:=by unfold Jp;rw[hA];rfl
  refine⟨(t+1,s),h,by show QY d p-(t+1)<QY d p-t;omega,next h ho,rfl,rfl,_,QLR d E C K ac body (QD l) l p (tnV d p) t (t+1),?_⟩
  rotate_left
  refine QH ?_ ?_;rotate_left;refine QF (λb2=>?_) (λb2=>?_);have hA:Qq K l.length ⟨p,t⟩=true:=by simpa using b1
  have hv:Q0 d E l ⟨p,t⟩=false:=by simpa using b2
  have ho:Jp (Qq K) d E rec l p s t = .go s:=by unfold Jp KA;rw[hA,hv];rfl
  refine⟨(t+1,s),h,by show QY d p-(t+1)<QY d p-t;omega,next h ho,rfl,rfl,_,QNx d E C K ac body (QD l) l p (tnV d p) t (t+1),?_⟩
  rotate_left
  iterate 7 (refine QH ?_ ?_;rotate_left)
  refine QF ?_ ?_<;>intro b3
  .cases b3
  have hA:Qq K l.length ⟨p,t⟩=true:=by simpa using b1
  have hv:Q0 d E l ⟨p,t⟩=true:=by simpa using b2
  have ho:Jp (Qq K) d E rec l p s t = .go s':=by unfold Jp KA;rw[hA,hv];exact hr
  have hb:=Wt l d.ps.n p t hu;have hq:=qU l ⟨p,t⟩;have hnx:=next h ho
  clear next last step hr ho
  generalize QD (l++[⟨p,t⟩])=u2 at hb ⊢;generalize l++[⟨p,t⟩]=l2 at hpop hle hq ⊢;generalize hu1:QD l=u1 at hb ⊢;refine⟨(t+1,s'),h,by show QY d p-(t+1)<QY d p-t;omega,hnx,rfl,rfl,_,Qbq d E C K ac body u1 u2 u1 l l2 p (tnV d p) t (t+1),?_⟩
  rotate_left
  have h:QY d p<=t:=by have:=qdf b0;omega
  refine⟨_,last h,rfl,rfl,_,QPq d E C K ac body (QD l) l p,?_⟩
  rotate_left
  all_goals first|((with_reducible show _=true);(first|rfl|exact qde hK|(refine Q6.2 ?_;repeat' first|with_reducible refine QP ?_ ?_|exact tv|with_reducible exact qRr|with_reducible exact hlen|with_reducible exact hlen.symm|with_reducible exact Nat.le_of_eq hlen|with_reducible exact WC l ⟨p,t⟩|with_reducible exact Wr l _ p t|exact rfl|refine aI ?_ ?_)|(rw[hw1];simp)|(simp;omega)))|(repeat' first|with_reducible refine QP ?_ ?_|exact tv|with_reducible exact qRr|with_reducible exact hw|with_reducible exact hpop|with_reducible exact hle|with_reducible exact hq|with_reducible exact hb|exact rfl|refine aI ?_ ?_)
 | stop s'=>
  simp only[ZZ];have et:=QWx (Zk d p t) (Zk d p t) d E C K ac body (QD l) (QD (l++[⟨p,t⟩])) l (l++[⟨p,t⟩]) (Q0 d E l ⟨p,t⟩) p (tnV d p) t g0;refine Qf et ?_;clear et;refine QF (λb0=>?_) (λb0=>?_);have h:t<QY d p:=by have:=qdt b0;omega
  rw[hpb h];have hw:=wt h;refine QH ?_ ?_;rotate_left;refine QF (λb1=>?_) (λb1=>?_);have hA:Qq K l.length ⟨p,t⟩=false:=by simpa using b1
  have ho:Jp (Qq K) d E rec l p s t = .go s:=by unfold Jp;rw[hA];rfl
  refine⟨(t+1,s),h,by show QY d p-(t+1)<QY d p-t;omega,next h ho,rfl,rfl,_,QLR d E C K ac body (QD l) l p (tnV d p) t (t+1),?_⟩
  rotate_left
  refine QH ?_ ?_;rotate_left;refine QF (λb2=>?_) (λb2=>?_);have hA:Qq K l.length ⟨p,t⟩=true:=by simpa using b1
  have hv:Q0 d E l ⟨p,t⟩=false:=by simpa using b2
  have ho:Jp (Qq K) d E rec l p s t = .go s:=by unfold Jp KA;rw[hA,hv];rfl
  refine⟨(t+1,s),h,by show QY d p-(t+1)<QY d p-t;omega,next h ho,rfl,rfl,_,QNx d E C K ac body (QD l) l p (tnV d p) t (t+1),?_⟩
  rotate_left
  iterate 7 (refine QH ?_ ?_;rotate_left)
  refine QF (λb3=>?_) (λb3=>?_);have hA:Qq K l.length ⟨p,t⟩=true:=by simpa using b1
  have hv:Q0 d E l ⟨p,t⟩=true:=by simpa using b2
  have ho:Jp (Qq K) d E rec l p s t = .stop s':=by unfold Jp KA;rw[hA,hv];exact hr
  have hrel:Yu d E C K ac body rec l p (t,s) .ret (haF d E C K ac body (QD l) l):=by
   unfold Yu;simp only[step h,ho,and_self]
  have hb:=Wt l d.ps.n p t hu;have hq:=qU l ⟨p,t⟩;clear next last step hr ho
  generalize QD (l++[⟨p,t⟩])=u2 at hb ⊢;generalize l++[⟨p,t⟩]=l2 at hpop hle hq ⊢;generalize hu1:QD l=u1 at hb hrel ⊢;refine⟨_,hrel,rfl,rfl,_,QSo d E C K ac body u2 u1 l l2 p,?_⟩
  rotate_left
  .cases b3
  have h:QY d p<=t:=by have:=qdf b0;omega
  refine⟨_,last h,rfl,rfl,_,QPq d E C K ac body (QD l) l p,?_⟩
  rotate_left
  all_goals first|((with_reducible show _=true);(first|rfl|exact qde hK|(refine Q6.2 ?_;repeat' first|with_reducible refine QP ?_ ?_|exact tv|with_reducible exact qRr|with_reducible exact hlen|with_reducible exact hlen.symm|with_reducible exact Nat.le_of_eq hlen|with_reducible exact WC l ⟨p,t⟩|with_reducible exact Wr l _ p t|exact rfl|refine aI ?_ ?_)|(rw[hw1];simp)|(simp;omega)))|(repeat' first|with_reducible refine QP ?_ ?_|exact tv|with_reducible exact qRr|with_reducible exact hw|with_reducible exact hpop|with_reducible exact hle|with_reducible exact hq|with_reducible exact hb|exact rfl|refine aI ?_ ?_)
def QEM(p:Nat):Prop:=∀ t,t<QY d p->∀ s,QR prog 103 (uFC (ZZ d E C K ac body (l++[⟨p,t⟩]) s (rec (l++[⟨p,t⟩]) s)))
theorem QZj{d:Puz}{E:ECt}{C:Cap}{K:Rw Pt}{ac body:Code}{rec:List Lay->Unit->QZ Unit}{l:List Lay}{p:Nat}(hd:KI d)(hE:WfE E)(hK:K.n<=1000)(hl:l.length<=1000)(hL:∀ y∈l,KC d y)(hp:p<d.ps.n)(IH:QEM d E C K ac body rec l p)(k:Nat×Unit):(j9 prog d E C K ac body rec l p k).Sound:=by
 unfold j9 Zk
 by_cases h:k.1<QY d p
 .rw[if_pos h];have h4:=(Zo d p).2;exact QQ ((Qd.add (QCK d E l ⟨p,k.1⟩ hd hE hl hL ⟨⟨by show(0:Int)<=p;omega,by show(p:Int)<_;omega⟩,by show(0:Int)<=k.1;omega,by show(k.1:Int)<=3;omega⟩)).add (IH k.1 h k.2))
 .rw[if_neg h];exact QQ ((Qd.add (JY (by kernel_rfl) _)).add (JY (by kernel_rfl) _))
def QA4(p:Nat)(s:Unit):List (Prop×Ex×JSt):=
 [((inA (Qq K) d E rec l p s).isGo=true,.exit 2,QAD d E C K ac body (QD l) l p),((inA (Qq K) d E rec l p s).isGo=false,.ret,haF d E C K ac body (QD l) l)]
theorem QZM{d:Puz}{E:ECt}{C:Cap}{K:Rw Pt}{ac body:Code}{rec:List Lay->Unit->QZ Unit}{l:List Lay}(hd:KI d)(hE:WfE E)(hK:K.n<=1000)(hl:l.length<=1000)(hL:∀ y∈l,KC d y)(p:Nat)(s:Unit)(IH:p<d.ps.n->QEM d E C K ac body rec l p)(G:Ctx)(hrd:G.rd=none)(hG:G.n<=416):
  Qu (mkE prog (W8 QO d l.length p)) G (QDm prog QO d E C K ac body (QD l) l p (QA4 d E C K ac body rec l p s)) (QJ f103 0):=by
 have hT:Qe (W8 QO d l.length p):=Qd.add (YL d l.length p);refine KM (body:=QS (QJ f103 0)) (QQ hT) hrd (by kernel_rfl) ?_
 refine Jm λhp=>?_;have hu:=QEd hp.2;have hEnv:=QZj (ac:=ac) (body:=body) hd hE hK hl hL hp.1 (IH hp.1);refine Jt (E0:=mkE prog (W8 QO d l.length p)) (E:=j9 prog d E C K ac body rec l p) (H:=λk=>hnd (j9 prog d E C K ac body rec l p k) 0) (n0:=416) (s0:=(0,s)) (λ_=>rfl) hEnv hG (λk _=>Q1 (hEnv k) 0 G _ hrd) (λk _=>(by decide:416<=440)) ?_ (QUw d E C K ac body rec l p hp.1 hd.n hK hl hu) (Nat.zero_le _) ?_
 .intro k e J hr;unfold Yu at hr;split at hr<;>(rw[hr.2];exact(by decide:416<=440))
 .intro e J hr;unfold Yu at hr;simp only[List.drop_zero]at hr;have hi:inA (Qq K) d E rec l p s=Qz (Jp (Qq K) d E rec l p) (List.range (QY d p)) s:=rfl;unfold QA4;rw[hi];cases hc:Qz (Jp (Qq K) d E rec l p) (List.range (QY d p)) s with
  | go s'=>
   rw[hc]at hr;exact⟨_,qmc,rfl,hr.1.symm,hr.2.symm⟩
  | stop s'=>
   rw[hc]at hr;exact⟨_,List.mem_cons_of_mem _ qmc,rfl,hr.1.symm,hr.2.symm⟩
def YJ(k:Nat×Unit)(e:Ex)(J:JSt):Prop:=match Qz (XP (Qq K) d E rec l) ((List.range d.ps.n).drop k.1) k.2 with
 | .go s'=>e = .exit 0/\J=GC d E C K ac body (QD l) l
 | .stop s'=>e = .ret/\J=haF d E C K ac body (QD l) l
set_option maxHeartbeats 1000000 in
theorem QaQ(hn:d.ps.n<=1000):Jd (λk:Nat×Unit=>vt d E C K ac body (QD l) l k.1) (λk=>k.1<=d.ps.n) (λk=>d.ps.n-k.1) (YJ d E C K ac body rec l) 416 QMc Zb (λk=>mkE prog (W8 QO d l.length k.1)) (λk=>QDm prog QO d E C K ac body (QD l) l k.1 (QA4 d E C K ac body rec l k.1 k.2)) (QJ f103 0):=by
 refine⟨λk g0 hk=>?_⟩;obtain⟨p,s⟩:=k;have hk:p<=d.ps.n:=hk;have wp:p<d.ps.n->i64.wrap ((p:Int)+1)=((p+1:Nat):Int):=λh=>Ju h hn;have step:=λh:p<d.ps.n=>Wp (f:=XP (Qq K) d E rec l) h s
 have next:p<d.ps.n->∀{s2:Unit},XP (Qq K) d E rec l s p = .go s2->∀ e J,YJ d E C K ac body rec l (p+1,s2) e J->YJ d E C K ac body rec l (p,s) e J:=by
  intro h s2 he e J hr;unfold YJ at hr ⊢;simp only at hr ⊢;rw[step h,he];exact hr
 have stop:p<d.ps.n->∀{s2:Unit},XP (Qq K) d E rec l s p = .stop s2->YJ d E C K ac body rec l (p,s) .ret (haF d E C K ac body (QD l) l):=by
  intro h s2 he;unfold YJ;simp only[step h,he,and_self]
 have last:d.ps.n<=p->YJ d E C K ac body rec l (p,s) (.exit 0) (GC d E C K ac body (QD l) l):=by
  intro h;unfold YJ;simp only[Wz h,and_self]
 have hpz:KG l p=false->XP (Qq K) d E rec l s p=inA (Qq K) d E rec l p s:=λh=>by unfold XP;rw[h];rfl
 have hpu:KG l p=true->XP (Qq K) d E rec l s p = .go s:=λh=>by unfold XP;rw[h];rfl
 unfold QA4;simp only;cases hr:inA (Qq K) d E rec l p s with
 | go s'=>
  simp only[QZ.isGo,QZ.s,Bool.true_eq_false,Bool.false_eq_true];have et:=QOu QO d E C K ac body (QD l) (QD l) l p True False g0;refine Qf et ?_;clear et;refine QF (λb0=>?_) (λb0=>?_);have h:p<d.ps.n:=by have:=qdt b0;omega
  have hw:=wp h
  iterate 2 (refine QH ?_ ?_;rotate_left)
  refine QF (λb1=>?_) (λb1=>?_);have hub:KG l p=true:=Vd.symm.trans b1;refine⟨(p+1,s),h,by show d.ps.n-(p+1)<d.ps.n-p;omega,next h (hpu hub),rfl,rfl,_,QJu d E C K ac body (QD l) l p (p+1),?_⟩
  rotate_left
  have hub:KG l p=false:=Vd.symm.trans b1;have hu0:QD l p 0=0:=by unfold QD;rw[hub];rfl
  refine QH ?_ ?_;rotate_left
  iterate 82 refine Qt (by first|exact tv|exact⟨h,hu0⟩|with_reducible exact qRr|exact rfl) ?_
  refine Kl ?_ ?_;refine Qj λa0=>?_;refine Qk λg0=>?_;refine⟨(p+1,s'),h,by show d.ps.n-(p+1)<d.ps.n-p;omega,next h ((hpz hub).trans hr),rfl,rfl,_,QaJ d E C K ac body (QD l) l p (p+1),?_⟩
  rotate_left
  refine Qj λa1=>?_;refine Qk λg1=>?_
  .exact a1.elim
  have h:d.ps.n<=p:=by have:=qdf b0;omega
  refine⟨_,last h,rfl,rfl,_,QRg d E C K ac body (QD l) l,?_⟩
  rotate_left
  all_goals first|((with_reducible show _=true);(first|(refine Q6.2 ?_;repeat' first|exact tv|with_reducible exact qRr|exact rfl|refine aI ?_ ?_)|(simp;omega)))|(repeat' first|with_reducible refine QP ?_ ?_|exact tv|with_reducible exact qRr|with_reducible exact hw|exact rfl|refine aI ?_ ?_)
 | stop s'=>
  simp only[QZ.isGo,QZ.s,Bool.true_eq_false,Bool.false_eq_true];have et:=QOu QO d E C K ac body (QD l) (QD l) l p False True g0;refine Qf et ?_;clear et;refine QF (λb0=>?_) (λb0=>?_);have h:p<d.ps.n:=by have:=qdt b0;omega
  have hw:=wp h
  iterate 2 (refine QH ?_ ?_;rotate_left)
  refine QF (λb1=>?_) (λb1=>?_);have hub:KG l p=true:=Vd.symm.trans b1;refine⟨(p+1,s),h,by show d.ps.n-(p+1)<d.ps.n-p;omega,next h (hpu hub),rfl,rfl,_,QJu d E C K ac body (QD l) l p (p+1),?_⟩
  rotate_left
  have hub:KG l p=false:=Vd.symm.trans b1;have hu0:QD l p 0=0:=by unfold QD;rw[hub];rfl
  refine QH ?_ ?_;rotate_left
  iterate 82 refine Qt (by first|exact tv|exact⟨h,hu0⟩|with_reducible exact qRr|exact rfl) ?_
  refine Kl ?_ ?_;refine Qj λa0=>?_;refine Qk λg0=>?_
  .exact a0.elim
  refine Qj λa1=>?_;refine Qk λg1=>?_;refine⟨_,stop h ((hpz hub).trans hr),rfl,rfl,_,QXY d E C K ac body (QD l) l,?_⟩
  rotate_left
  have h:d.ps.n<=p:=by have:=qdf b0;omega
  refine⟨_,last h,rfl,rfl,_,QRg d E C K ac body (QD l) l,?_⟩
  rotate_left
  all_goals first|((with_reducible show _=true);(first|(refine Q6.2 ?_;repeat' first|exact tv|with_reducible exact qRr|exact rfl|refine aI ?_ ?_)|(simp;omega)))|(repeat' first|with_reducible refine QP ?_ ?_|exact tv|with_reducible exact qRr|with_reducible exact hw|exact rfl|refine aI ?_ ?_)
noncomputable abbrev XI:Code:=(QN f53 0).1
noncomputable abbrev XR:Code:=(QN f53 0).2
theorem Qep(l:List Lay)  :(haU d E C K ac body u l).Ok:=by
 refine⟨(by decide:392<=416),rfl,rfl,?_,rfl,λ_ _=>rfl,λnid h=>?_⟩
 .intro q hq;simp only[UC.po,haU,haW,rwY,rwU,List.mem_cons,List.not_mem_nil,or_false]at hq;rcases hq with rfl|rfl|rfl|rfl|rfl|rfl|rfl|rfl|rfl|rfl|rfl<;>refine⟨rfl,rfl,rfl,?_⟩<;>first|exact λ_=>rfl|exact λh=>absurd (show 416<392 from h) (by decide)|exact λh=>absurd (show 417<392 from h) (by decide)|exact λh=>absurd (show 418<392 from h) (by decide)|exact λh=>absurd (show 419<392 from h) (by decide)
 .have e0:=KW 392 416 0 nid (by decide)
  have e1:=KW 392 416 1 nid (by decide)
  simp only[UC.po,haU,haW,rwY,rwU,GE,haT,KR,Ql.val,List.cons_append,List.nil_append,List.map_cons,List.map_nil,Blk.mapId,AV.mapId,AV.mapIdL,Nat.add_zero]at e0 e1 ⊢;rw[e0,e1];rfl
theorem QNb(l:List Lay)  :(haV d E C K ac body u l).Ok:=by
 refine⟨(by decide:392<=416),rfl,rfl,?_,rfl,λ_ _=>rfl,λnid h=>?_⟩
 .intro q hq;simp only[UC.po,haV,haW,rwY,rwU,List.mem_cons,List.not_mem_nil,or_false]at hq;rcases hq with rfl|rfl|rfl|rfl|rfl|rfl|rfl|rfl|rfl|rfl|rfl<;>refine⟨rfl,rfl,rfl,?_⟩<;>first|exact λ_=>rfl|exact λh=>absurd (show 416<392 from h) (by decide)|exact λh=>absurd (show 417<392 from h) (by decide)|exact λh=>absurd (show 418<392 from h) (by decide)|exact λh=>absurd (show 419<392 from h) (by decide)
 .have e0:=KW 392 416 0 nid (by decide)
  have e1:=KW 392 416 1 nid (by decide)
  simp only[UC.po,haV,haW,rwY,rwU,GE,haT,KR,Ql.val,List.cons_append,List.nil_append,List.map_cons,List.map_nil,Blk.mapId,AV.mapId,AV.mapIdL,Nat.add_zero]at e0 e1 ⊢;rw[e0,e1];rfl
theorem QYX(T:Tab)(hT:Qe T)(G:Ctx)(hrd:G.rd=none):Qu (mkE prog T) G (haN prog T) (Qp f103):=
 KM (body:=QJ f103 0) (QQ hT) hrd (by kernel_rfl) (λ_ _ _ _ _ _ _ h _ _=>h.elim)
set_option maxHeartbeats 1000000 in
theorem QeT(hn:l.length=d.ps.n):QR prog 103 (uFC (haV d E C K XI XR (QD l) l)):=by
 have et:=QY4 d E C K (QD l) l;have hlen:((l.length:Int)==(d.ps.n:Int))=true:=by rw[hn];simp
 refine Ks (E:=mkE prog QT) (QQ Qd) func103 (by kernel_rfl) (by kernel_rfl) (QNb ..) (λG hG _=>QYX _ Qd G hG) ⟨?_⟩
 refine Qf et ?_;clear et;refine QF (λb0=>?_) (λb0=>?_);refine⟨rfl,rfl,_,QVG d E C K (QD l) l,?_⟩
 rotate_left
 .exact Bool.noConfusion (hlen.symm.trans b0)
 all_goals (repeat' first|with_reducible refine QP ?_ ?_|exact tv|with_reducible exact qRr|exact rfl|refine aI ?_ ?_)
theorem QKN{d:Puz}{E:ECt}{C:Cap}{K:Rw Pt}{ac body:Code}{rec:List Lay->Unit->QZ Unit}{l:List Lay}(hd:KI d)(hE:WfE E)(hK:K.n<=1000)(hl:l.length<=1000)(hL:∀ y∈l,KC d y)(s:Unit)(IH:∀ p,p<d.ps.n->QEM d E C K ac body rec l p){X:List (Prop×Ex×JSt)}(hX:∀ e J,YJ d E C K ac body rec l (0,s) e J->∃ y∈X,y.1/\y.2.1=e/\y.2.2=J)(G:Ctx)(hrd:G.rd=none)(hG:G.n=416):
  Qu (mkE prog QT) G (haX prog (vt d E C K ac body (QD l) l 0) X) (Qp f103):=by
 refine KM (body:=QJ f103 0) (QQ Qd) hrd (by kernel_rfl) ?_
 have hEnv:∀ k:Nat×Unit,(mkE prog (W8 QO d l.length k.1)).Sound:=λk=>QQ (Qd.add (YL d l.length k.1));refine Jt (E0:=mkE prog QT) (E:=λk:Nat×Unit=>mkE prog (W8 QO d l.length k.1)) (H:=λk=>QDm prog QO d E C K ac body (QD l) l k.1 (QA4 d E C K ac body rec l k.1 k.2)) (n0:=416) (s0:=(0,s)) (λ_=>rfl) hEnv (by omega) (λk _=>QZM hd hE hK hl hL k.1 k.2 (IH k.1) G hrd (by omega)) (λk _=>(by decide:416<=440)) ?_ (QaQ d E C K ac body rec l hd.n) (Nat.zero_le _) hX
 intro k e J hr;unfold YJ at hr;split at hr<;>(rw[hr.2];exact(by decide:416<=440))
set_option maxHeartbeats 1000000 in
theorem QUA{d:Puz}{E:ECt}{C:Cap}{K:Rw Pt}(hd:KI d)(hE:WfE E)(hK:K.n<=1000){k:Nat}{l:List Lay}(hk:l.length+(k+1)=d.ps.n)(hL:∀ y∈l,KC d y)(IH:∀ p,p<d.ps.n->QEM d E C K XI XR (onA (Qq K) d E Zi k) l p)(s:Unit):QR prog 103 (uFC (ZZ d E C K XI XR l s (onA (Qq K) d E Zi (k+1) l s))):=by
 have hdn:=hd.n;have hr0:onA (Qq K) d E Zi (k+1) l s=Qz (XP (Qq K) d E (onA (Qq K) d E Zi k) l) (List.range d.ps.n) s:=rfl;rw[hr0];have hne:((l.length:Int)==(d.ps.n:Int))=false:=by rw[beq_eq_false_iff_ne];omega
 cases hc:Qz (XP (Qq K) d E (onA (Qq K) d E Zi k) l) (List.range d.ps.n) s with
 | go s'=>
  simp only[ZZ];have et:=QOG d E C K (QD l) (QD l) l True False;refine Ks (E:=mkE prog QT) (QQ Qd) func103 (by kernel_rfl) (by kernel_rfl) (Qep ..) (QKN hd hE hK (by omega) hL s IH (X:=[(True,.exit 0,GC d E C K XI XR (QD l) l),(False,.ret,haF d E C K XI XR (QD l) l)]) ?_) ⟨?_⟩
  .intro e J hr;unfold YJ at hr;simp only[List.drop_zero,hc]at hr;exact⟨_,qmc,trivial,hr.1.symm,hr.2.symm⟩
  refine Qf et ?_;clear et;refine QF ?_ ?_<;>intro b0
  .exact Bool.noConfusion (hne.symm.trans b0)
  iterate 78 refine Qt (by first|exact tv|with_reducible exact qRr|exact rfl) ?_
  refine Kl ?_ ?_;refine Qj λa0=>?_;refine Qk λg0=>?_;refine⟨rfl,rfl,_,Qdb d E C K (QD l) (QD l) l,?_⟩
  rotate_left
  refine Qj λa1=>?_;refine Qk λg1=>?_
  .exact a1.elim
  all_goals (repeat' first|with_reducible refine QP ?_ ?_|exact tv|with_reducible exact qRr|exact rfl|refine aI ?_ ?_)
 | stop s'=>
  simp only[ZZ];have et:=QOG d E C K (QD l) (QD l) l False True;refine Ks (E:=mkE prog QT) (QQ Qd) func103 (by kernel_rfl) (by kernel_rfl) (QNb ..) (QKN hd hE hK (by omega) hL s IH (X:=[(False,.exit 0,GC d E C K XI XR (QD l) l),(True,.ret,haF d E C K XI XR (QD l) l)]) ?_) ⟨?_⟩
  .intro e J hr;unfold YJ at hr;simp only[List.drop_zero,hc]at hr;exact⟨_,List.mem_cons_of_mem _ qmc,trivial,hr.1.symm,hr.2.symm⟩
  refine Qf et ?_;clear et;refine QF ?_ ?_<;>intro b0
  .exact Bool.noConfusion (hne.symm.trans b0)
  iterate 78 refine Qt (by first|exact tv|with_reducible exact qRr|exact rfl) ?_
  refine Kl ?_ ?_;refine Qj λa0=>?_;refine Qk λg0=>?_
  .exact a0.elim
  refine Qj λa1=>?_;refine Qk λg1=>?_;refine⟨rfl,rfl,_,Qcp d E C K (QD l) (QD l) l,?_⟩
  rotate_left
  all_goals (repeat' first|with_reducible refine QP ?_ ?_|exact tv|with_reducible exact qRr|exact rfl|refine aI ?_ ?_)
theorem QfW{d:Puz}{E:ECt}{C:Cap}{K:Rw Pt}(s:Unit)(hk:l.length=d.ps.n):QR prog 103 (uFC (ZZ d E C K XI XR l s (onA (Qq K) d E Zi 0 l s))):=QeT d E C K l hk
theorem QXm{d:Puz}{E:ECt}{C:Cap}{K:Rw Pt}(hd:KI d)(hE:WfE E)(hK:K.n<=1000)(k:Nat):∀(l:List Lay) (s:Unit),l.length+k=d.ps.n->(∀ y∈l,KC d y)->QR prog 103 (uFC (ZZ d E C K XI XR l s (onA (Qq K) d E Zi k l s))):=by
 induction k with
 | zero=>exact λl s hk _=>QfW l s hk
 | succ k ih=>
  intro l s hk hL;refine QUA hd hE hK hk hL ?_ s;intro p hp t ht s;exact ih _ s (QBX l _ hk) (QDE hp ht hL)
