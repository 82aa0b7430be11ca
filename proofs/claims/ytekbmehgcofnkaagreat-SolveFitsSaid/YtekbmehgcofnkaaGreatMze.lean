/- - -/
import Derived.Test.YtekbmehgcofnkaaGreatMzd
open Go.Proofs.Tryz
open Go.IntKind (i64)
set_option maxRecDepth 100000
namespace Go.Proofs.YtekbmehgcofnkaaGreat
open Go.SX Go.SX.Told
variable {σ:Type}(pb:List Prop->Bool)(d:Puz)(E:ECt)(l:List Lay)(ac body:Code)(p:Nat)(u u':Nat->Nat->Int)(many:Int)(f g:List Lay)(many':Int)(f' g':List Lay)
def W5(n:Nat)(a:Int):Tab:=Qc QT 52 (KB pb (tnU d n a))
abbrev QDt(P:Program)(pb:List Prop->Bool)(d:Puz)(E:ECt)(ac body:Code)(u:Nat->Nat->Int)(l:List Lay)(many:Int)(f g:List Lay)(p:Nat)(X:List (Prop×Ex×JSt)):Hnd:={ hnd (mkE P (W5 pb d l.length p)) 0 with loop:=λ_=>JI (p<d.ps.n/\u p 0=0) (KE 464 Z2 (G3 d E ac body u l many f g p (tnV d p) (0:Nat)) X) }
noncomputable abbrev QSE:List AV:=
  (.nilp::.ptr 101 0 0::List.append (wa3) ([vi (d.ps.n:Int),vi (i64.wrap ((p:Int)+1))]))
noncomputable abbrev X6:Nat×Blk:=
  (200,.cells 0 152 (List.append (waf d) ([.map 201,.slz 472 0 l.length cO])))
noncomputable abbrev YD:Nat×Blk:=
  (400,.cells 0 114 [.slz 496 0 d.ps.n cO])
noncomputable abbrev Gm(d:Puz):Nat×Blk:=
  (329,.lp LoopState.ready none (Xl d) (Array.mk [18]) ac body)
noncomputable abbrev QEq:Nat×Blk:=
  (120,.cells 0 3 [vi many])
noncomputable abbrev QCY:Nat×Blk:=
  (104,.cells 0 42 [.slz 480 0 f.length cO])
noncomputable abbrev QBw:Nat×Blk:=
  (112,.cells 0 42 [.slz 488 0 g.length cO])
noncomputable abbrev JS:Nat×Blk:=
  (288,.cellsR 0 90 [.ptr 200 0 0])
noncomputable abbrev QEl:Nat×Blk:=
  (416,.cellsR 0 31 [.fn (Fn.func 103) (wa3)])
noncomputable abbrev JN:Nat×Blk:=
  (0,.frz (List.append (waa) ((List.append (waG) ((List.append (wbk) ([.int .i64])))))) d.ps.n λi=>QA.enc (d.ps.get i))
noncomputable abbrev Xw:Nat×Blk:=
  (472,.rowz true 49 kB l.length λi=>QA.enc (l.getD i (Lay.mk (0:Int) (0:Int))))
noncomputable abbrev JQ:Nat×Blk:=
  (96,.cellsR 0 28 (waf d))
noncomputable abbrev QBU:Nat×Blk:=
  (480,.rowz true 49 kB f.length λi=>QA.enc (f.getD i (Lay.mk (0:Int) (0:Int))))
noncomputable abbrev QCk:Nat×Blk:=
  (488,.rowz true 49 kB g.length λi=>QA.enc (g.getD i (Lay.mk (0:Int) (0:Int))))
noncomputable abbrev qP:Nat×Blk:=
  (120,.cells 0 3 [vi many'])
noncomputable abbrev WO:Nat×Blk:=
  (104,.cells 0 42 [.slz 480 0 f'.length cO])
noncomputable abbrev qE:Nat×Blk:=
  (112,.cells 0 42 [.slz 488 0 g'.length cO])
noncomputable abbrev qH:Nat×Blk:=
  (480,.rowz true 49 kB f'.length λi=>QA.enc (f'.getD i (Lay.mk (0:Int) (0:Int))))
noncomputable abbrev qO:Nat×Blk:=
  (488,.rowz true 49 kB g'.length λi=>QA.enc (g'.getD i (Lay.mk (0:Int) (0:Int))))
theorem QMQ(l:List Lay)(many:Int)(f g:List Lay)(p:Nat)(A B:Prop)(many':Int)(f' g':List Lay)(g0:Nat->Value):exec (mkE prog (W5 pb d l.length p)) (QDt prog pb d E ac body u l many f g p [(A,.exit 2,QAv d E ac body u' l many' f' g' p),(B,.ret,soF d E ac body u' l many' f' g')]) (QJ f103 0) (JSt.inst (GO d E ac body u l many f g p) g0) (Q9 Z2 QRP) = .br (decide ((p:Int)<(d.ps.n:Int))) (.need (decide ((0:Int)<=(p:Int)/\(p:Int)<(d.ps.n:Int))&&decide (d.ps.n<=d.ps.n)) (.need (decide (p<d.ps.n)) (.br (decide (u ((p:Int).toNat+0) 0=1)) (.leaf (.tup (QSE d p)) (((X6 d l)::(201,.mp E.1 E.2)::(YD d)::(Gm ac body d)::(QEq many)::(QCY f)::(QBw g)::JS::List.append (wbc) ([QEl,(JN d),(Xw l),(496, .rowz true 4 [CK.bool] d.ps.n u),(JQ d),(QBU f),(QCk g)])))) (.need (pb (([0=0,0=0,(p:Int)=(p:Int)]++wab d++([cO=cO,0=0,l.length=l.length,cO=cO]++wae d)))) (.ak [p<d.ps.n/\u p 0=0] (.ak (rz 10) (.ak ((waV d p++[tnV d (p:Int)=tnV d (p:Int),(0:Int)=0])++wab d++(([cO=cO,0=0]++wcj E l)++wag l++((wcN d++[QB 1 d.ps.n u u])++waj++[Array.mk [(18:Tmp)]=Array.mk [(18:Tmp)],ac=ac,body=body]))++wab d++[cO=cO]) (.ak (rz 8) (.ak ([(0:Int)=0,0=0,0=0,0=0,0=0,(0:Int)=0]++wab d++((([cO=cO]++wcG++(wcS++[many=many,0=0,f.length=f.length,cO=cO]))++wcf f++[0=0,g.length=g.length,cO=cO])++wax g++[Fn.func (103:FuncId)=Fn.func (103:FuncId)])) (.ak (rz 12) (.ak (wab d++([cO=cO]++wae d)) (.both (.asm (A) (.all (λ(g0:Nat->Value)=>.leaf (.tup (QSE d p)) (((X6 d l)::(201,.mp E.1 E.2)::(YD d)::(Gm ac body d)::(qP many')::(WO f')::(qE g')::JS::List.append (wbc) ([QEl,(JN d),(Xw l),(496,.rowz true 4 [CK.bool] d.ps.n u'),(JQ d),(qH f'),(qO g')])))))) (.asm (B) (.all (λ(g1:Nat->Value)=>.leaf (.tup [.nili, .ptr 101 0 0,.bool false false]) ([(X6 d l),(201,.mp E.1 E.2),(YD d),(329,.lp LoopState.done (some (Code.exit 0)) (Xl d) (Array.mk [18]) ac body),(qP many'),(WO f'),(qE g'),(Xw l),(496,.rowz true 4 [CK.bool] d.ps.n u'),(qH f'),(qO g')])))))))))))))))) (.leaf (.tup [.ptr 0 0 0,.ptr 101 0 0]) ([(X6 d l),(201,.mp E.1 E.2),(YD d),(Gm ac body d),(QEq many),(QCY f),(QBw g),(JN d),(Xw l),(496,.rowz true 4 [CK.bool] d.ps.n u),(JQ d),JS, (296,.cellsR 0 96 [.nils]),(QBU f),(QCk g)])):=by kernel_rfl
noncomputable abbrev QJt:List AV:=
  (List.append (wa3) ([vi (d.ps.n:Int),vi (i64.wrap ((p:Int)+1))]))
abbrev zl:List Prop:=
  [0=0,0=0,0=0,0=0,0=0,0=0]
abbrev Y4(d:Puz)(l:List Lay):List Prop:=
  (([d.pK.aK=d.pK.aK]++waP d++([0 =
  0,d.ps.n=d.ps.n,cO=cO,0=0]++wcj E l))++wag l++[0=0,d.ps.n=d.ps.n,cO=cO])
abbrev QIB:List Prop:=
  (waj++[Array.mk [18]=Array.mk [(18:Tmp)],ac=ac])
abbrev Xi:List Prop:=
  (wab d)
abbrev ZH:List Prop:=
  (([cO=cO]++wc0)++wab d++([cO=cO]++wcG++[Fn.func (102:FuncId)=Fn.func (102:FuncId),0
  = 0,0=0,0=0]))
abbrev QQm(many:Int):List Prop:=
  (([0=0,many=many,0=0,f.length=f.length,cO=cO]++wcf f++[0=0,g.length=g.length,cO=cO])++wax g)
noncomputable abbrev wcq(d:Puz)(p:Nat)(p':Nat):List Prop:=[(d.ps.n:Int)=(d.ps.n:Int),i64.wrap ((p:Int)+1)=(p':Int),d.pK.length=d.pK.length]
theorem QRQ(l:List Lay)(many:Int)(f g:List Lay)(p p':Nat):QG 464 (QJt d p) (((X6 d l)::(201,.mp E.1 E.2)::(YD d)::(Gm ac body d)::(QEq many)::(QCY f)::(QBw g)::JS::List.append (wbc) ([QEl,(JN d),(Xw l),(496,.rowz true 4 [CK.bool] d.ps.n u),(JQ d),(QBU f),(QCk g)]))) (GO d E ac body u l many f g p')=(some (zl++([0=0,0=0,0=0,0=0]++wcq d p p')++(Y4 E d l)++[d.ps.n<=d.ps.n,QB 1 d.ps.n u u] ++ (QIB ac)++[body=body]++(Xi d)++(ZH d)++(QQm f g many)++[Fn.func 103=Fn.func (103:FuncId)]++zl++zl++(Xi d)++([cO=cO]++wae d))):=by kernel_rfl
abbrev QCW(many':Int):List Prop:=
  ([0=0,many'=many',0=0,f'.length=f'.length,cO=cO,f'.length<=f'.length,QB 2 f'.length (λi=>QA.enc (f'.getD i (Lay.mk (0:Int) (0:Int)))) fun
  i=>QA.enc (f'.getD i (Lay.mk (0:Int) (0:Int))),0=0]++wcZ g')
theorem QTv(l:List Lay)(p p':Nat)(many':Int)(f' g':List Lay):QG 464 (QJt d p) (((X6 d l)::(201,.mp E.1 E.2)::(YD d)::(Gm ac body d)::(qP many')::(WO f')::(qE g')::JS::List.append (wbc) ([QEl,(JN d),(Xw l),(496,.rowz true 4 [CK.bool] d.ps.n u'),(JQ d),(qH f'),(qO g')]))) (GO d E ac body u' l many' f' g' p')=(some (zl++([0=0,0=0,0=0,0=0]++wcq d p p')++(Y4 E d l)++[d.ps.n<=d.ps.n,QB 1 d.ps.n u' u']++(QIB ac)++[body=body]++(Xi d)++(ZH d)++(QCW f' g' many')++[Fn.func 103=Fn.func (103:FuncId)]++zl++zl++(Xi d)++([cO=cO]++wae d))):=by kernel_rfl
theorem QW6(l:List Lay)(many':Int)(f' g':List Lay):QG 464 [.bool false false] ([(X6 d l),(201,.mp E.1 E.2),(YD d),(329,.lp LoopState.done (some (Code.exit 0)) (Xl d) (Array.mk [18]) ac body),(qP many'),(WO f'), (qE g'),(Xw l),(496,.rowz true 4 [CK.bool] d.ps.n u'),(qH f'),(qO g')]) (soF d E ac body u' l many' f' g')=(some ([false=false,d.pK.length=d.pK.length] ++ (Y4 E d l)++([d.ps.n<=d.ps.n,QB 1 d.ps.n u' u']++wba++[Array.mk [18]=Array.mk [(18:Tmp)],ac=ac,body=body])++(Xi d)++(ZH d)++(QCW f' g' many'))):=by kernel_rfl
theorem QNu(l:List Lay)(many:Int)(f g:List Lay):QG 464 [] ([(X6 d l),(201,.mp E.1 E.2),(YD d),(Gm ac body d),(QEq many),(QCY f),(QBw g),(JN d),(Xw l),(496,.rowz true 4 [CK.bool] d.ps.n u),(JQ d), JS,(296,.cellsR 0 96 [.nils]),(QBU f),(QCk g)]) (GK d E ac body u l many f g)=(some ([d.pK.length=d.pK.length]++(Y4 E d l)++[d.ps.n<=d.ps.n,QB 1 d.ps.n u u]++(QIB ac)++[body=body]++(Xi d)++(ZH d)++(QQm f g many))):=by kernel_rfl
def QN(fn:Func)(k:Nat):Code×Code:=match (Ky (Qp fn))[k]? with
 | some (.rangeFunc _ _ ac body)=>(ac,body)
 | _=>(.skip,.skip)
def HK:Tab:=Qc QT 68 (KB pb (clU l))
abbrev soN(P : Program)(T : Tab): Hnd := { hnd (mkE P T) 2 with loop := λ_ _ _=>.fail "a loop" }
abbrev soX(P:Program)(J:JSt)(X:List (Prop×Ex×JSt)):Hnd:={ hnd (mkE P QT) 2 with loop:=λ_=>KE 464 Z2 J X }
abbrev QN2:List Prop:=
  ([0=0,l.length=l.length,cO=cO]++wag l)
noncomputable abbrev Vb:Nat×Blk:=
  (200,.cells 0 152 (List.append (waf d) ([.map 201,.slz 432 0 l.length cO])))
noncomputable abbrev Va:Nat×Blk:=
  (400,.cells 0 114 [.slz 456 0 d.ps.n cO])
noncomputable abbrev ZS:Nat×Blk:=
  (329,.lp LoopState.done (some (Code.exit 0)) (Xl d) (Array.mk [18]) (QN f24 0).1 (QN f24 0).2)
noncomputable abbrev Vg:Nat×Blk:=
  (120,.cells 0 3 [vi (i64.wrap (many+1))])
noncomputable abbrev QGS:Nat×Blk:=
  (104,.cells 0 42 [.slz 672 0 l.length cO])
noncomputable abbrev Yc:Nat×Blk:=
  (112,.cells 0 42 [.slz 448 0 g.length cO])
noncomputable abbrev VU:Nat×Blk:=
  (432,.rowz true 49 kB l.length λi=>QA.enc (l.getD i (Lay.mk (0:Int) (0:Int))))
noncomputable abbrev QGu:Nat×Blk:=
  (672,.rowz true 49 kB l.length λi=>QA.enc (l.getD i (Lay.mk (0:Int) (0:Int))))
noncomputable abbrev YX:Nat×Blk:=
  (448,.rowz true 49 kB g.length λi=>QA.enc (g.getD i (Lay.mk (0:Int) (0:Int))))
noncomputable abbrev YR:Nat×Blk:=
  (329,.lp LoopState.ready none (Xl d) (Array.mk [18]) (QN f24 0).1 (QN f24 0).2)
noncomputable abbrev YZ:Nat×Blk:=
  (104,.cells 0 42 [.slz 440 0 f.length cO])
noncomputable abbrev QFi:Nat×Blk:=
  (112,.cells 0 42 [.slz 688 0 l.length cO])
noncomputable abbrev Ym:Nat×Blk:=
  (440,.rowz true 49 kB f.length λi=>QA.enc (f.getD i (Lay.mk (0:Int) (0:Int))))
noncomputable abbrev QFr:Nat×Blk:=
  (688,.rowz true 49 kB l.length λi=>QA.enc (l.getD i (Lay.mk (0:Int) (0:Int))))
theorem Qal(l:List Lay)(many:Int)(f g:List Lay):(VR (mkE prog (HK pb l)) (soN prog (HK pb l)) f103 QFR (Gd d E (QN f24 0).1 (QN f24 0).2 u l many f g).hp 464 λv h _=>ZE
  Z2 v h) = .br ((l.length:Int)==(d.ps.n:Int)) (.br (i64.wrap (many+1)==1) (.need (pb ((QN2 l))) (.br (i64.wrap (many+1)==100) (.leaf (.bool true
  false) ([(Vb d l),(201,.mp E.1 E.2),(Va d),(ZS d),(Vg many),(QGS l),(Yc g),(JN d),(VU l),(456,.rowz true 4 [CK.bool] d.ps.n u),(JQ d),JS,(296,
  .cellsR 0 96 [.nils]),(QGu l),(YX g)])) (.leaf (.bool true true) ([(Vb d l),(201,.mp E.1 E.2),(Va d),(YR d),(Vg many),(QGS l),(Yc g),(JN d),(VU l),
  (456,.rowz true 4 [CK.bool] d.ps.n u),(JQ d),JS,(296,.cellsR 0 96 [.nils]),(QGu l),(YX g)])))) (.br (i64.wrap (many+1)==2) (.need (pb ((QN2 l))) (.br
  (i64.wrap (many+1)==100) (.leaf (.bool true false) ([(Vb d l),(201,.mp E.1 E.2),(Va d),(ZS d),(Vg many),(YZ f),(QFi l),(JN d),(VU l),(456,
  .rowz true 4 [CK.bool] d.ps.n u),(JQ d),JS,(296,.cellsR 0 96 [.nils]),(Ym f),(QFr l)])) (.leaf (.bool true true) ([(Vb d l),(201,.mp E.1 E.2),(Va d),(YR
  d),(Vg many),(YZ f),(QFi l),(JN d),(VU l),(456,.rowz true 4 [CK.bool] d.ps.n u),(JQ d),JS,(296,.cellsR 0 96 [.nils]),(Ym f),(QFr l)])))) (.br
  (i64.wrap (many+1)==100) (.leaf (.bool true false) ([(Vb d l),(201,.mp E.1 E.2),(Va d),(ZS d),(Vg many),(YZ f),(Yc g),(JN d),(VU l),(456,
  .rowz true 4 [CK.bool] d.ps.n u),(JQ d),JS,(296,.cellsR 0 96 [.nils]),(Ym f),(YX g)])) (.leaf (.bool true true) ([(Vb d l),(201,.mp E.1 E.2),(Va d),(YR d),
  (Vg many),(YZ f),(Yc g),(JN d),(VU l),(456,.rowz true 4 [CK.bool] d.ps.n u),(JQ d),JS,(296,.cellsR 0 96 [.nils]),(Ym f),(YX g)]))))) (.fail
  ("a loop")) := by kernel_rfl
noncomputable abbrev QK8:Nat×Blk:=
  (712,.rowz true 49 kB (0+l.length) (KN 0 (λx x_1=>(0:Int)) λi=>QA.enc (l.getD i (Lay.mk (0:Int) (0:Int)))))
noncomputable abbrev QKn:Nat×Blk:=
  (728,.rowz true 49 kB (0+l.length) (KN 0 (λx x_1=>(0:Int)) λi=>QA.enc (l.getD i (Lay.mk (0:Int) (0:Int)))))
abbrev wcA:List Prop:=[(QN f24 0).1=(QN f24 0).1,(QN f24 0).2=(QN f24 0).2]
theorem QJp(l:List Lay)(many:Int)(f g:List Lay)(A B:Prop)(many':Int)(f' g':List Lay):(VR (mkE prog QT) (soX prog (GO d E (QN f24 0).1 (QN f24 0).2 u l many f g 0) [(A,.exit 0,GK d E (QN f24 0).1 (QN f24 0).2 u' l many' f' g'),(B,.ret,soF d E (QN f24 0).1 (QN f24 0).2 u' l many' f' g')]) f103 QFR (Gd d E (QN f24 0).1 (QN f24 0).2 u l many f g).hp 464 λv h _=>ZE Z2 v h) = .br ((l.length:Int)==(d.ps.n:Int)) (.br (i64.wrap (many+1)==1) (.need (decide (0<l.length/\l.length<=l.length)) (.need (true&&(decide (l.length<=l.length)&&decide ((0+l.length+(0+l.length) / 4+192)*16<=281474976710656/\0+l.length<=9223372036854775807))) (.br (i64.wrap (many+1)==100) (.leaf (.bool true false) ([(Vb d l),(201,.mp E.1 E.2),(Va d),(ZS d),(Vg many),(104,.cells 0 42 [.slz 712 0 (0+l.length) cO]),(Yc g),(JN d),(VU l),(456,.rowz true 4 [CK.bool] d.ps.n u),(JQ d),JS,(296,.cellsR 0 96 [.nils]),(QK8 l),(YX g)])) (.leaf (.bool true true) ([(Vb d l),(201,.mp E.1 E.2),(Va d),(YR d),(Vg many),(104,.cells 0 42 [.slz 712 0 (0+l.length) cO]),(Yc g),(JN d),(VU l),(456,.rowz true 4 [CK.bool] d.ps.n u),(JQ d),JS,(296,.cellsR 0 96 [.nils]),(QK8 l),(YX g)]))))) (.br (i64.wrap (many+1)==2) (.need (decide (0<l.length/\l.length<=l.length)) (.need (true&&(decide (l.length<=l.length)&&decide ((0+l.length+(0+l.length) / 4+192)*16<=281474976710656/\0+l.length<=9223372036854775807))) (.br (i64.wrap (many+1)==100) (.leaf (.bool true false) ([(Vb d l),(201,.mp E.1 E.2),(Va d),(ZS d),(Vg many),(YZ f),(112,.cells 0 42 [.slz 728 0 (0+l.length) cO]),(JN d),(VU l),(456,.rowz true 4 [CK.bool] d.ps.n u),(JQ d),JS,(296,.cellsR 0 96 [.nils]),(Ym f),(QKn l)])) (.leaf (.bool true true) ([(Vb d l),(201,.mp E.1 E.2),(Va d),(YR d),(Vg many),(YZ f),(112,.cells 0 42 [.slz 728 0 (0+l.length) cO]),(JN d),(VU l),(456,.rowz true 4 [CK.bool] d.ps.n u),(JQ d),JS,(296,.cellsR 0 96 [.nils]),(Ym f),(QKn l)]))))) (.br (i64.wrap (many+1)==100) (.leaf (.bool true false) ([(Vb d l),(201, .mp E.1 E.2),(Va d),(ZS d),(Vg many),(YZ f),(Yc g),(JN d),(VU l),(456,.rowz true 4 [CK.bool] d.ps.n u),(JQ d),JS,(296,.cellsR 0 96 [.nils]),(Ym f),(YX g)])) (.leaf (.bool true true) ([(Vb d l),(201,.mp E.1 E.2),(Va d),(YR d),(Vg many),(YZ f),(Yc g),(JN d),(VU l),(456,.rowz true 4 [CK.bool] d.ps.n u),(JQ d),JS,(296,.cellsR 0 96 [.nils]),(Ym f),(YX g)]))))) (.ak (rz 10) (.ak ([(d.ps.n:Int)=(d.ps.n:Int),(0:Int)=0]++wab d++(([cO=cO,0=0]++wcj E l)++wag l++((wcN d++[QB 1 d.ps.n u u])++waj++([Array.mk [(18:Tmp)]=Array.mk [(18:Tmp)]]++wcA)))++wab d++[cO=cO]) (.ak (rz 8) (.ak ([(0:Int)=0,0=0,0=0,0=0,0=0,(0:Int)=0]++wab d++((([cO=cO]++wcG++(wcS++[many=many,0=0,f.length=f.length,cO=cO]))++wcf f++[0=0,g.length=g.length,cO=cO])++wax g++[Fn.func (103:FuncId)=Fn.func (103:FuncId)])) (.ak (rz 12) (.ak (wab d++([cO=cO]++wae d)) (.both (.asm (A) (.all (λ(g0:Nat->Value)=>.leaf (.bool true true) ([(X6 d l),(201,.mp E.1 E.2),(YD d),(YR d),(qP many'),(WO f'),(qE g'),(Xw l), (496,.rowz true 4 [CK.bool] d.ps.n u'),(qH f'),(qO g')])))) (.asm (B) (.all (λ(g1:Nat->Value)=>.leaf (.bool false false) ([(X6 d l),(201,.mp E.1 E.2),(YD d),(ZS d),(qP many'),(WO f'),(qE g'),(Xw l),(496,.rowz true 4 [CK.bool] d.ps.n u'),(qH f'),(qO g')]))))))))))):=by kernel_rfl
abbrev QDc:List Prop:=
  (waj++([Array.mk [18]=Array.mk [(18:Tmp)]]++wcA))
abbrev QG1:List Prop:=
  [g.length=g'.length,cO=cO,g'.length<=g.length,QB 2 g'.length (λi=>QA.enc (g.getD i (Lay.mk (0:Int) (0:Int)))) λi=>QA.enc (g'.getD i (Lay.mk
  (0:Int) (0:Int)))]
theorem QTE(l:List Lay)(many:Int)(f g:List Lay)(many':Int)(f' g':List Lay):QG 464 [(.bool true true)] ([(Vb d l),(201,.mp E.1 E.2),(Va d),(YR d),(Vg many),(QGS l),(Yc g),(JN d),(VU l),(456,.rowz true 4 [CK.bool] d.ps.n u), (JQ d),JS,(296,.cellsR 0 96 [.nils]),(QGu l),(YX g)]) (KP (J3 d E (QN f24 0).1 (QN f24 0).2 u l many f g many' f' g'))=(some ([true=true, d.pK.length=d.pK.length]++(Y4 E d l)++[d.ps.n<=d.ps.n,QB 1 d.ps.n u u]++QDc++(Xi d)++(ZH d)++[0=0,i64.wrap (many+1)=many',0=0, l.length=f'.length,cO=cO,f'.length<=l.length,QB 2 f'.length (λi=>QA.enc (l.getD i (Lay.mk (0:Int) (0:Int)))) λi=>QA.enc (f'.getD i (Lay.mk (0:Int) (0:Int))),0=0]++(QG1 g g'))):=by kernel_rfl
abbrev QE7(many:Int)(many':Int):List Prop:=
  [0=0,i64.wrap (many+1)=many',0=0,f.length=f'.length,cO=cO,f'.length<=f.length,QB 2 f'.length (λi=>QA.enc (f.getD i (Lay.mk (0 :
  Int) (0:Int)))) λi=>QA.enc (f'.getD i (Lay.mk (0:Int) (0:Int))),0=0]
theorem QTh(l:List Lay)(many:Int)(f g:List Lay)(many':Int)(f' g':List Lay):QG 464 [(.bool true true)] ([(Vb d l),(201,.mp E.1 E.2),(Va d),(YR d),(Vg many),(YZ f),(QFi l),(JN d),(VU l),(456,.rowz true 4 [CK.bool] d.ps.n u), (JQ d),JS,(296,.cellsR 0 96 [.nils]),(Ym f),(QFr l)]) (KP (J3 d E (QN f24 0).1 (QN f24 0).2 u l many f g many' f' g'))=(some ([true=true, d.pK.length=d.pK.length]++(Y4 E d l)++[d.ps.n<=d.ps.n,QB 1 d.ps.n u u]++QDc++(Xi d)++(ZH d)++(QE7 f f' many many')++[l.length=g'.length, cO=cO,g'.length<=l.length,QB 2 g'.length (λi=>QA.enc (l.getD i (Lay.mk (0:Int) (0:Int)))) λi=>QA.enc (g'.getD i (Lay.mk (0:Int) (0:Int)))])):=by kernel_rfl
abbrev QSZ:List Prop:=
  (wba++([Array.mk [18]=Array.mk [(18:Tmp)]]++wcA))
theorem QXa(l:List Lay)(many:Int)(f g:List Lay)(many':Int)(f' g':List Lay):QG 464 [(.bool true false)] ([(Vb d l),(201,.mp E.1 E.2),(Va d),(ZS d),(Vg many),(YZ f),(Yc g),(JN d),(VU l),(456,.rowz true 4 [CK.bool] d.ps.n u), (JQ d),JS,(296,.cellsR 0 96 [.nils]),(Ym f),(YX g)]) (KP (XU d E (QN f24 0).1 (QN f24 0).2 u l many f g many' f' g'))=(some ([false=false, d.pK.length=d.pK.length]++(Y4 E d l)++[d.ps.n<=d.ps.n,QB 1 d.ps.n u u]++QSZ++(Xi d)++(ZH d)++(QE7 f f' many many')++(QG1 g g'))):=by kernel_rfl
theorem Qc9(l:List Lay)(many:Int)(f g:List Lay)(many':Int)(f' g':List Lay):QG 464 [(.bool true true)] ([(Vb d l),(201,.mp E.1 E.2),(Va d),(YR d),(Vg many),(YZ f),(Yc g),(JN d),(VU l),(456,.rowz true 4 [CK.bool] d.ps.n u), (JQ d),JS,(296,.cellsR 0 96 [.nils]),(Ym f),(YX g)]) (KP (J3 d E (QN f24 0).1 (QN f24 0).2 u l many f g many' f' g'))=(some ([true=true, d.pK.length=d.pK.length]++(Y4 E d l)++[d.ps.n<=d.ps.n,QB 1 d.ps.n u u]++QDc++(Xi d)++(ZH d)++(QE7 f f' many many')++(QG1 g g'))):=by kernel_rfl
theorem QcX(l:List Lay)(many:Int)(f g:List Lay)(many':Int)(f' g':List Lay):QG 464 [(.bool true true)] ([(X6 d l),(201,.mp E.1 E.2),(YD d),(YR d),(qP many'),(WO f'),(qE g'),(Xw l),(496,.rowz true 4 [CK.bool] d.ps.n u'),(qH f'),(qO g')]) (KP (J3 d E (QN f24 0).1 (QN f24 0).2 u l many f g many' f' g'))=(some ([true=true,d.pK.length=d.pK.length]++(Y4 E d l) ++ [d.ps.n<=d.ps.n,QB 1 d.ps.n u' u]++QDc++(Xi d)++(ZH d)++(QCW f' g' many'))):=by kernel_rfl
theorem QTt(l:List Lay)(many:Int)(f g:List Lay)(many':Int)(f' g':List Lay):QG 464 [(.bool false false)] ([(X6 d l),(201,.mp E.1 E.2),(YD d),(ZS d),(qP many'),(WO f'),(qE g'),(Xw l),(496,.rowz true 4 [CK.bool] d.ps.n u'), (qH f'),(qO g')]) (KP (XU d E (QN f24 0).1 (QN f24 0).2 u l many f g many' f' g'))=(some ([false=false,d.pK.length=d.pK.length]++(Y4 E d l)++[d.ps.n<=d.ps.n,QB 1 d.ps.n u' u]++QSZ++(Xi d)++(ZH d)++(QCW f' g' many'))):=by kernel_rfl
abbrev SoS:=Int×List Lay×List Lay
inductive QZ (σ:Type) where
 | go (s:σ)
 | stop (s:σ)
def Qz{σ α:Type}(f:σ->α->QZ σ):List α->σ->QZ σ
 | [],s => .go s
 | a::r,s=>match f s a with
  | .go s'=>Qz f r s'
  | .stop s' => .stop s'
def QDg(s:SoS):QZ SoS:=cond (i64.wrap (s.1+1)==100)
 (.stop (i64.wrap (s.1+1),cond (i64.wrap (s.1+1)==1) l s.2.1,cond (i64.wrap (s.1+1)==1) s.2.2 (cond (i64.wrap (s.1+1)==2) l s.2.2)))
 (.go (i64.wrap (s.1+1),cond (i64.wrap (s.1+1)==1) l s.2.1,cond (i64.wrap (s.1+1)==1) s.2.2 (cond (i64.wrap (s.1+1)==2) l s.2.2)))
def QY:Nat:=(tnV d p).toNat
def KA(rec:List Lay->σ->QZ σ)(l:List Lay)(p:Nat)(s:σ)(t:Nat):QZ σ:=cond (Q0 d E l ⟨p,t⟩) (rec (l++[⟨p,t⟩]) s) (.go s)
def inZ(rec:List Lay->σ->QZ σ)(l:List Lay)(p:Nat)(s:σ):QZ σ:=Qz (KA d E rec l p) (List.range (QY d p)) s
def Km(rec:List Lay->σ->QZ σ)(l:List Lay)(s:σ)(p:Nat):QZ σ:=cond (KG l p) (.go s) (inZ d E rec l p s)
def onY{σ:Type}(d:Puz)(E:ECt)(Y:List Lay->σ->QZ σ):Nat->List Lay->σ->QZ σ
 | 0,l,s=>Y l s
 | k+1,l,s=>Qz (Km d E (onY d E Y k) l) (List.range d.ps.n) s
def onZ:Nat->List Lay->SoS->QZ SoS:=onY d E QDg
def Jp(A:Int->Lay->Bool)(d:Puz)(E:ECt)(rec:List Lay->σ->QZ σ)(l:List Lay)(p:Nat)(s:σ)(t:Nat):QZ σ:=cond (A l.length ⟨p,t⟩) (KA d E rec l p s t) (.go s)
def inA(A:Int->Lay->Bool)(d:Puz)(E:ECt)(rec:List Lay->σ->QZ σ)(l:List Lay)(p:Nat)(s:σ):QZ σ:=Qz (Jp A d E rec l p) (List.range (QY d p)) s
def XP(A:Int->Lay->Bool)(d:Puz)(E:ECt)(rec:List Lay->σ->QZ σ)(l:List Lay)(s:σ)(p:Nat):QZ σ:=cond (KG l p) (.go s) (inA A d E rec l p s)
def onA{σ:Type}(A:Int->Lay->Bool)(d:Puz)(E:ECt)(Y:List Lay->σ->QZ σ):Nat->List Lay->σ->QZ σ
 | 0,l,s=>Y l s
 | k+1,l,s=>Qz (XP A d E (onA A d E Y k) l) (List.range d.ps.n) s
theorem Wp{f:σ->Nat->QZ σ}{n k:Nat}(h:k<n)(s:σ):Qz f ((List.range n).drop k) s=match f s k with
  | .go s'=>Qz f ((List.range n).drop (k+1)) s'
  | .stop s' => .stop s':=by
 have:(List.range n).drop k=k::(List.range n).drop (k+1):=by
  rw[List.drop_eq_getElem_cons (by simpa using h)]
  simp
 rw[this,Qz]
theorem Wz{f:σ->Nat->QZ σ}{n k:Nat}(h:n<=k)(s:σ):Qz f ((List.range n).drop k) s = .go s:=by
 rw[List.drop_eq_nil_of_le (by simpa using h),Qz]
theorem QPz(p:Int):tnV d p=1∨tnV d p=4:=by
 unfold tnV;cases d.turn&&decide (0<p)
 .exact .inl rfl
 .exact .inr rfl
def YM(l:List Lay)(s:SoS):QZ SoS->UC
 | .go s'=>J3 d E ac body (QD l) l s.1 s.2.1 s.2.2 s'.1 s'.2.1 s'.2.2
 | .stop s'=>XU d E ac body (QD l) l s.1 s.2.1 s.2.2 s'.1 s'.2.1 s'.2.2
open Classical in
noncomputable def Zl(p t:Nat):List Prop->Bool:=if t<QY d p then QO else λ_=>false
noncomputable def jS(P:Program)(d:Puz)(E:ECt)(ac body:Code)(rec:List Lay->SoS->QZ SoS)(l:List Lay)(p:Nat)(k:Nat×SoS):Env:=
 mkE P (QAw (Zl d p k.1) (Zl d p k.1) d E l ⟨p,k.1⟩ (Q0 d E l ⟨p,k.1⟩) (YM d E ac body (l++[⟨p,k.1⟩]) k.2 (rec (l++[⟨p,k.1⟩]) k.2)))
def Y0(rec:List Lay->SoS->QZ SoS)(l:List Lay)(p:Nat)(k:Nat×SoS)(e:Ex)(J:JSt):Prop:=match Qz (KA d E rec l p) ((List.range (QY d p)).drop k.1) k.2 with
 | .go s'=>e = .exit 2/\J=QAv d E ac body (QD l) l s'.1 s'.2.1 s'.2.2 p
 | .stop s'=>e = .ret/\J=soF d E ac body (QD l) l s'.1 s'.2.1 s'.2.2
theorem WC(x:Lay):QB 2 (l++[x]).length (KN l.length (λi=>QA.enc (l.getD i ⟨0,0⟩)) (Kh [[.int false .i64 x.piece,.int false .i64 x.turn]] 0)) λi=>QA.enc ((l++[x]).getD i ⟨0,0⟩):=by
 intro i hi;rw[List.length_append,List.length_singleton]at hi;show eqF 2 0 _ (QA.enc ((l++[x]).getD i ⟨0,0⟩))
 by_cases h:i<l.length
 .have e:(l++[x]).getD i ⟨0,0⟩=l.getD i ⟨0,0⟩:=by
   rw[List.getD_eq_getElem?_getD,List.getD_eq_getElem?_getD,List.getElem?_append_left h]
  rw[e];refine⟨?_,?_,trivial⟩<;>(rw[X3,if_pos h])
 .obtain rfl:i=l.length:=by omega
  have e:(l++[x]).getD l.length ⟨0,0⟩=x:=by
   rw[List.getD_eq_getElem?_getD,List.getElem?_append_right (qlr _)];simp
  rw[e];refine⟨?_,?_,trivial⟩<;>(rw[X3,if_neg h,Nat.sub_self];rfl)
theorem qU(x:Lay):QB 2 l.length (λi=>QA.enc ((l++[x]).getD i ⟨0,0⟩)) λi=>QA.enc (l.getD i (⟨0,0⟩:Lay)):=by
 intro i hi
 have e:(l++[x]).getD i ⟨0,0⟩=l.getD i ⟨0,0⟩:=by
  rw[List.getD_eq_getElem?_getD,List.getD_eq_getElem?_getD,List.getElem?_append_left hi]
 show eqF 2 0 (QA.enc ((l++[x]).getD i ⟨0,0⟩)) _;rw[e];exact⟨rfl,rfl,trivial⟩
theorem QK9(t:Int)(i:Nat):KG (l++[⟨p,t⟩]) i=(KG l i||decide (i=p)):=by
 unfold KG;rw[List.any_append];congr 1;simp only[List.any_cons,List.any_nil,Bool.or_false];rw[Bool.eq_iff_iff];simp only[beq_iff_eq,qdE];omega
theorem Wr(n p:Nat)(t:Int):QB 1 n (λi=>bif decide (i=p)then KZ [.bool true true] 0 (QD l ((p:Int).toNat+0))else QD l i) (QD (l++[⟨p,t⟩])):=by
 intro i _;refine⟨?_,trivial⟩;show(bif decide (i=p)then KZ [.bool true true] 0 (QD l ((p:Int).toNat+0))else QD l i) 0=QD (l++[⟨p,t⟩]) i 0
 unfold QD;rw[QK9];cases h:decide (i=p)with
 | true=>rw[Bool.or_true];rfl
 | false=>rw[Bool.or_false];rfl
theorem Wt(n p:Nat)(t:Int)(hu:KG l p=false):QB 1 n (λi=>bif decide (i=p)then KZ [.bool true false] 0 (QD (l++[⟨p,t⟩]) ((p:Int).toNat+0))else QD (l++[⟨p,t⟩]) i) (QD l):=by
 intro i _;refine⟨?_,trivial⟩;show(bif decide (i=p)then KZ [.bool true false] 0 (QD (l++[⟨p,t⟩]) ((p:Int).toNat+0))else QD (l++[⟨p,t⟩]) i) 0=QD l i 0
 cases h:decide (i=p)with
 | true=>
  obtain rfl:i=p:=qdt h;unfold QD;rw[hu];rfl
 | false=>
  show QD (l++[⟨p,t⟩]) i 0=_;unfold QD;rw[QK9,h,Bool.or_false]
