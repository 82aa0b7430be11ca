/- - -/
import Derived.Test.YtekbmehgcofnkaaGreatMzd
open Go.Proofs.Tryz
open Go.IntKind (i64)
set_option maxRecDepth 100000
namespace Go.Proofs.YtekbmehgcofnkaaGreat
open Go.SX Go.SX.Told
variable {σ:Type}(pb:List Prop->Bool)(d:Puz)(E:ECt)(l:List Lay)(ac body:Code)(p:Nat)(u u':Nat->Nat->Int)(many:Int)(f g:List Lay)(many':Int)(f' g':List Lay)
def W3(n:Nat)(a:Int):Tab:=Qa QT 52 (KG pb (tnU d n a))
abbrev QCI(P:Program)(pb:List Prop->Bool)(d:Puz)(E:ECt)(ac body:Code)(u:Nat->Nat->Int)(l:List Lay)(many:Int)(f g:List Lay)(p:Nat)(X:List (Prop×Ex×JSt)):Hnd:={ hnd (mkE P (W3 pb d l.length p)) 0 with loop:=λ_=>JP (p<d.ps.n/\u p 0=0) (KH 464 Zz (G8 d E ac body u l many f g p (tnV d p) (0:Nat)) X) }
noncomputable abbrev QKM:List AV:=
  (.nilp::.ptr 101 0 0::List.append (waJ) ([vi (d.ps.n:Int),vi (i64.wrap ((p:Int)+1))]))
noncomputable abbrev YT:Nat×Blk:=
  (200,.cells 0 152 (List.append (waf d) ([.map 201,.slz 472 0 l.length cO])))
noncomputable abbrev YL:Nat×Blk:=
  (400,.cells 0 114 [.slz 496 0 d.ps.n cO])
noncomputable abbrev GD(d:Puz):Nat×Blk:=
  (329,.lp LoopState.ready none (YP d) (Array.mk [18]) ac body)
noncomputable abbrev QFd:Nat×Blk:=
  (120,.cells 0 3 [vi many])
noncomputable abbrev QCr:Nat×Blk:=
  (104,.cells 0 42 [.slz 480 0 f.length cO])
noncomputable abbrev QDB:Nat×Blk:=
  (112,.cells 0 42 [.slz 488 0 g.length cO])
noncomputable abbrev JZ:Nat×Blk:=
  (288,.cellsR 0 90 [.ptr 200 0 0])
noncomputable abbrev QCo:Nat×Blk:=
  (416,.cellsR 0 31 [.fn (Fn.func 103) (waJ)])
noncomputable abbrev Jb:Nat×Blk:=
  (0,.frz (List.append (waa) ((List.append (waA) ((List.append (waZ) ([.int .i64])))))) d.ps.n λi=>QA.enc (d.ps.get i))
noncomputable abbrev YI:Nat×Blk:=
  (472,.rowz true 49 kB l.length λi=>QA.enc (l.getD i (Lay.mk (0:Int) (0:Int))))
noncomputable abbrev Ja:Nat×Blk:=
  (96,.cellsR 0 28 (waf d))
noncomputable abbrev QEQ:Nat×Blk:=
  (480,.rowz true 49 kB f.length λi=>QA.enc (f.getD i (Lay.mk (0:Int) (0:Int))))
noncomputable abbrev QEq:Nat×Blk:=
  (488,.rowz true 49 kB g.length λi=>QA.enc (g.getD i (Lay.mk (0:Int) (0:Int))))
noncomputable abbrev W7:Nat×Blk:=
  (120,.cells 0 3 [vi many'])
noncomputable abbrev W2:Nat×Blk:=
  (104,.cells 0 42 [.slz 480 0 f'.length cO])
noncomputable abbrev Wz:Nat×Blk:=
  (112,.cells 0 42 [.slz 488 0 g'.length cO])
noncomputable abbrev Wa:Nat×Blk:=
  (480,.rowz true 49 kB f'.length λi=>QA.enc (f'.getD i (Lay.mk (0:Int) (0:Int))))
noncomputable abbrev qT:Nat×Blk:=
  (488,.rowz true 49 kB g'.length λi=>QA.enc (g'.getD i (Lay.mk (0:Int) (0:Int))))
theorem QQD(l:List Lay)(many:Int)(f g:List Lay)(p:Nat)(A B:Prop)(many':Int)(f' g':List Lay)(g0:Nat->Value):exec (mkE prog (W3 pb d l.length p)) (QCI prog pb d E ac body u l many f g p [(A,.exit 2,QBe d E ac body u' l many' f' g' p),(B,.ret,soF d E ac body u' l many' f' g')]) (QI f103 0) (JSt.inst (vq d E ac body u l many f g p) g0) (Q6 Zz QN8) = .br (decide ((p:Int)<(d.ps.n:Int))) (.need (decide ((0:Int)<=(p:Int)/\(p:Int)<(d.ps.n:Int))&&decide (d.ps.n<=d.ps.n)) (.need (decide (p<d.ps.n)) (.br (decide (u ((p:Int).toNat+0) 0=1)) (.leaf (.tup (QKM d p)) (((YT d l)::(201,.mp E.1 E.2)::(YL d)::(GD ac body d)::(QFd many)::(QCr f)::(QDB g)::JZ::List.append (waS) ([QCo,(Jb d),(YI l),(496, .rowz true 4 [CK.bool] d.ps.n u),(Ja d),(QEQ f),(QEq g)])))) (.need (pb (([0=0,0=0,(p:Int)=(p:Int)]++wab d++([cO=cO,0=0,l.length=l.length,cO=cO]++wae d)))) (.ak [p<d.ps.n/\u p 0=0] (.ak (rz 10) (.ak ((wbq d p++[(p:Int)=(p:Int),tnV d (p:Int)=tnV d (p:Int),(0:Int)=0])++wab d++(([cO=cO,0=0]++wbp E l)++wag l++((wbH d++[QB 1 d.ps.n u u])++wai++[Array.mk [(18:Tmp)]=Array.mk [(18:Tmp)],ac=ac,body=body]))++wab d++[cO=cO]) (.ak (rz 8) (.ak ([(0:Int)=0,0=0,0=0,0=0,0=0,(0:Int)=0]++wab d++((([cO=cO]++wbO++(wbR++[many=many,0=0,f.length=f.length,cO=cO]))++wa2 f++[0=0,g.length=g.length,cO=cO])++wat g++[Fn.func (103:FuncId)=Fn.func (103:FuncId)])) (.ak (rz 12) (.ak (wab d++([cO=cO]++wae d)) (.both (.asm (A) (.all (λ(g0:Nat->Value)=>.leaf (.tup (QKM d p)) (((YT d l)::(201,.mp E.1 E.2)::(YL d)::(GD ac body d)::(W7 many')::(W2 f')::(Wz g')::JZ::List.append (waS) ([QCo,(Jb d),(YI l),(496,.rowz true 4 [CK.bool] d.ps.n u'),(Ja d),(Wa f'),(qT g')])))))) (.asm (B) (.all (λ(g1:Nat->Value)=>.leaf (.tup [.nili, .ptr 101 0 0,.bool false false]) ([(YT d l),(201,.mp E.1 E.2),(YL d),(329,.lp LoopState.done (some (Code.exit 0)) (YP d) (Array.mk [18]) ac body),(W7 many'),(W2 f'),(Wz g'),(YI l),(496,.rowz true 4 [CK.bool] d.ps.n u'),(Wa f'),(qT g')])))))))))))))))) (.leaf (.tup [.ptr 0 0 0,.ptr 101 0 0]) ([(YT d l),(201,.mp E.1 E.2),(YL d),(GD ac body d),(QFd many),(QCr f),(QDB g),(Jb d),(YI l),(496,.rowz true 4 [CK.bool] d.ps.n u),(Ja d),JZ, (296,.cellsR 0 96 [.nils]),(QEQ f),(QEq g)])):=by kernel_rfl
noncomputable abbrev QMm:List AV:=
  (List.append (waJ) ([vi (d.ps.n:Int),vi (i64.wrap ((p:Int)+1))]))
abbrev HF:List Prop:=
  [0=0,0=0,0=0,0=0,0=0,0=0]
abbrev Ze(d:Puz)(l:List Lay):List Prop:=
  (([d.pK.aK=d.pK.aK]++waD d++([0 =
  0,d.ps.n=d.ps.n,cO=cO,0=0]++wbp E l))++wag l++[0=0,d.ps.n=d.ps.n,cO=cO])
abbrev QIU:List Prop:=
  (wai++[Array.mk [18]=Array.mk [(18:Tmp)],ac=ac])
abbrev X0:List Prop:=
  (wab d)
abbrev Zc:List Prop:=
  (([cO=cO]++wbZ)++wab d++([cO=cO]++wbO++[Fn.func (102:FuncId)=Fn.func (102:FuncId),0
  = 0,0=0,0=0]))
abbrev QN5(many:Int):List Prop:=
  (([0=0,many=many,0=0,f.length=f.length,cO=cO]++wa2 f++[0=0,g.length=g.length,cO=cO])++wat g)
noncomputable abbrev wbI(d:Puz)(p:Nat)(p':Nat):List Prop:=[(d.ps.n:Int)=(d.ps.n:Int),i64.wrap ((p:Int)+1)=(p':Int),d.pK.length=d.pK.length]
theorem QR1(l:List Lay)(many:Int)(f g:List Lay)(p p':Nat):QE 464 (QMm d p) (((YT d l)::(201,.mp E.1 E.2)::(YL d)::(GD ac body d)::(QFd many)::(QCr f)::(QDB g)::JZ::List.append (waS) ([QCo,(Jb d),(YI l),(496,.rowz true 4 [CK.bool] d.ps.n u),(Ja d),(QEQ f),(QEq g)]))) (vq d E ac body u l many f g p')=(some (HF++([0=0,0=0,0=0,0=0]++wbI d p p')++(Ze E d l)++[d.ps.n<=d.ps.n,QB 1 d.ps.n u u] ++ (QIU ac)++[body=body]++(X0 d)++(Zc d)++(QN5 f g many)++[Fn.func 103=Fn.func (103:FuncId)]++HF++HF++(X0 d)++([cO=cO]++wae d))):=by kernel_rfl
abbrev QCS(many':Int):List Prop:=
  ([0=0,many'=many',0=0,f'.length=f'.length,cO=cO,f'.length<=f'.length,QB 2 f'.length (λi=>QA.enc (f'.getD i (Lay.mk (0:Int) (0:Int)))) fun
  i=>QA.enc (f'.getD i (Lay.mk (0:Int) (0:Int))),0=0]++wbY g')
theorem QaM(l:List Lay)(p p':Nat)(many':Int)(f' g':List Lay):QE 464 (QMm d p) (((YT d l)::(201,.mp E.1 E.2)::(YL d)::(GD ac body d)::(W7 many')::(W2 f')::(Wz g')::JZ::List.append (waS) ([QCo,(Jb d),(YI l),(496,.rowz true 4 [CK.bool] d.ps.n u'),(Ja d),(Wa f'),(qT g')]))) (vq d E ac body u' l many' f' g' p')=(some (HF++([0=0,0=0,0=0,0=0]++wbI d p p')++(Ze E d l)++[d.ps.n<=d.ps.n,QB 1 d.ps.n u' u']++(QIU ac)++[body=body]++(X0 d)++(Zc d)++(QCS f' g' many')++[Fn.func 103=Fn.func (103:FuncId)]++HF++HF++(X0 d)++([cO=cO]++wae d))):=by kernel_rfl
theorem Qcj(l:List Lay)(many':Int)(f' g':List Lay):QE 464 [.bool false false] ([(YT d l),(201,.mp E.1 E.2),(YL d),(329,.lp LoopState.done (some (Code.exit 0)) (YP d) (Array.mk [18]) ac body),(W7 many'),(W2 f'), (Wz g'),(YI l),(496,.rowz true 4 [CK.bool] d.ps.n u'),(Wa f'),(qT g')]) (soF d E ac body u' l many' f' g')=(some ([false=false,d.pK.length=d.pK.length] ++ (Ze E d l)++([d.ps.n<=d.ps.n,QB 1 d.ps.n u' u']++waQ++[Array.mk [18]=Array.mk [(18:Tmp)],ac=ac,body=body])++(X0 d)++(Zc d)++(QCS f' g' many'))):=by kernel_rfl
theorem QSK(l:List Lay)(many:Int)(f g:List Lay):QE 464 [] ([(YT d l),(201,.mp E.1 E.2),(YL d),(GD ac body d),(QFd many),(QCr f),(QDB g),(Jb d),(YI l),(496,.rowz true 4 [CK.bool] d.ps.n u),(Ja d), JZ,(296,.cellsR 0 96 [.nils]),(QEQ f),(QEq g)]) (vo d E ac body u l many f g)=(some ([d.pK.length=d.pK.length]++(Ze E d l)++[d.ps.n<=d.ps.n,QB 1 d.ps.n u u]++(QIU ac)++[body=body]++(X0 d)++(Zc d)++(QN5 f g many))):=by kernel_rfl
def QN(fn:Func)(k:Nat):Code×Code:=match (Kz (Ql fn))[k]? with
 | some (.rangeFunc _ _ ac body)=>(ac,body)
 | _=>(.skip,.skip)
def QB0:Tab:=Qa QT 68 (KG pb (clU l))
abbrev soN(P : Program)(T : Tab): Hnd := { hnd (mkE P T) 2 with loop := λ_ _ _=>.fail "a loop" }
abbrev soX(P:Program)(J:JSt)(X:List (Prop×Ex×JSt)):Hnd:={ hnd (mkE P QT) 2 with loop:=λ_=>KH 464 Zz J X }
abbrev QQ6:List Prop:=
  ([0=0,l.length=l.length,cO=cO]++wag l)
noncomputable abbrev Vw:Nat×Blk:=
  (200,.cells 0 152 (List.append (waf d) ([.map 201,.slz 432 0 l.length cO])))
noncomputable abbrev Vr:Nat×Blk:=
  (400,.cells 0 114 [.slz 456 0 d.ps.n cO])
noncomputable abbrev WJ:Nat×Blk:=
  (329,.lp LoopState.done (some (Code.exit 0)) (YP d) (Array.mk [18]) (QN f24 0).1 (QN f24 0).2)
noncomputable abbrev Vd:Nat×Blk:=
  (120,.cells 0 3 [vi (i64.wrap (many+1))])
noncomputable abbrev QJR:Nat×Blk:=
  (104,.cells 0 42 [.slz 672 0 l.length cO])
noncomputable abbrev Y7:Nat×Blk:=
  (112,.cells 0 42 [.slz 448 0 g.length cO])
noncomputable abbrev Vo:Nat×Blk:=
  (432,.rowz true 49 kB l.length λi=>QA.enc (l.getD i (Lay.mk (0:Int) (0:Int))))
noncomputable abbrev QFt:Nat×Blk:=
  (672,.rowz true 49 kB l.length λi=>QA.enc (l.getD i (Lay.mk (0:Int) (0:Int))))
noncomputable abbrev ZA:Nat×Blk:=
  (448,.rowz true 49 kB g.length λi=>QA.enc (g.getD i (Lay.mk (0:Int) (0:Int))))
noncomputable abbrev Yq:Nat×Blk:=
  (329,.lp LoopState.ready none (YP d) (Array.mk [18]) (QN f24 0).1 (QN f24 0).2)
noncomputable abbrev Yy:Nat×Blk:=
  (104,.cells 0 42 [.slz 440 0 f.length cO])
noncomputable abbrev QJn:Nat×Blk:=
  (112,.cells 0 42 [.slz 688 0 l.length cO])
noncomputable abbrev Yw:Nat×Blk:=
  (440,.rowz true 49 kB f.length λi=>QA.enc (f.getD i (Lay.mk (0:Int) (0:Int))))
noncomputable abbrev QHw:Nat×Blk:=
  (688,.rowz true 49 kB l.length λi=>QA.enc (l.getD i (Lay.mk (0:Int) (0:Int))))
theorem QZL(l:List Lay)(many:Int)(f g:List Lay):(Vt (mkE prog (QB0 pb l)) (soN prog (QB0 pb l)) f103 QJ1 (Gp d E (QN f24 0).1 (QN f24 0).2 u l many f g).hp 464 λv h _=>ZC
  Zz v h) = .br ((l.length:Int)==(d.ps.n:Int)) (.br (i64.wrap (many+1)==1) (.need (pb ((QQ6 l))) (.br (i64.wrap (many+1)==100) (.leaf (.bool true
  false) ([(Vw d l),(201,.mp E.1 E.2),(Vr d),(WJ d),(Vd many),(QJR l),(Y7 g),(Jb d),(Vo l),(456,.rowz true 4 [CK.bool] d.ps.n u),(Ja d),JZ,(296,
  .cellsR 0 96 [.nils]),(QFt l),(ZA g)])) (.leaf (.bool true true) ([(Vw d l),(201,.mp E.1 E.2),(Vr d),(Yq d),(Vd many),(QJR l),(Y7 g),(Jb d),(Vo l),
  (456,.rowz true 4 [CK.bool] d.ps.n u),(Ja d),JZ,(296,.cellsR 0 96 [.nils]),(QFt l),(ZA g)])))) (.br (i64.wrap (many+1)==2) (.need (pb ((QQ6 l))) (.br
  (i64.wrap (many+1)==100) (.leaf (.bool true false) ([(Vw d l),(201,.mp E.1 E.2),(Vr d),(WJ d),(Vd many),(Yy f),(QJn l),(Jb d),(Vo l),(456,
  .rowz true 4 [CK.bool] d.ps.n u),(Ja d),JZ,(296,.cellsR 0 96 [.nils]),(Yw f),(QHw l)])) (.leaf (.bool true true) ([(Vw d l),(201,.mp E.1 E.2),(Vr d),(Yq
  d),(Vd many),(Yy f),(QJn l),(Jb d),(Vo l),(456,.rowz true 4 [CK.bool] d.ps.n u),(Ja d),JZ,(296,.cellsR 0 96 [.nils]),(Yw f),(QHw l)])))) (.br
  (i64.wrap (many+1)==100) (.leaf (.bool true false) ([(Vw d l),(201,.mp E.1 E.2),(Vr d),(WJ d),(Vd many),(Yy f),(Y7 g),(Jb d),(Vo l),(456,
  .rowz true 4 [CK.bool] d.ps.n u),(Ja d),JZ,(296,.cellsR 0 96 [.nils]),(Yw f),(ZA g)])) (.leaf (.bool true true) ([(Vw d l),(201,.mp E.1 E.2),(Vr d),(Yq d),
  (Vd many),(Yy f),(Y7 g),(Jb d),(Vo l),(456,.rowz true 4 [CK.bool] d.ps.n u),(Ja d),JZ,(296,.cellsR 0 96 [.nils]),(Yw f),(ZA g)]))))) (.fail
  ("a loop")) := by kernel_rfl
noncomputable abbrev QNK:Nat×Blk:=
  (712,.rowz true 49 kB (0+l.length) (Q9 0 (λx x_1=>(0:Int)) λi=>QA.enc (l.getD i (Lay.mk (0:Int) (0:Int)))))
noncomputable abbrev QM8:Nat×Blk:=
  (728,.rowz true 49 kB (0+l.length) (Q9 0 (λx x_1=>(0:Int)) λi=>QA.enc (l.getD i (Lay.mk (0:Int) (0:Int)))))
abbrev wbD:List Prop:=[(QN f24 0).1=(QN f24 0).1,(QN f24 0).2=(QN f24 0).2]
theorem QMf(l:List Lay)(many:Int)(f g:List Lay)(A B:Prop)(many':Int)(f' g':List Lay):(Vt (mkE prog QT) (soX prog (vq d E (QN f24 0).1 (QN f24 0).2 u l many f g 0) [(A,.exit 0,vo d E (QN f24 0).1 (QN f24 0).2 u' l many' f' g'),(B,.ret,soF d E (QN f24 0).1 (QN f24 0).2 u' l many' f' g')]) f103 QJ1 (Gp d E (QN f24 0).1 (QN f24 0).2 u l many f g).hp 464 λv h _=>ZC Zz v h) = .br ((l.length:Int)==(d.ps.n:Int)) (.br (i64.wrap (many+1)==1) (.need (decide (0<l.length/\l.length<=l.length)) (.need (true&&(decide (l.length<=l.length)&&decide ((0+l.length+(0+l.length) / 4+192)*16<=281474976710656/\0+l.length<=9223372036854775807))) (.br (i64.wrap (many+1)==100) (.leaf (.bool true false) ([(Vw d l),(201,.mp E.1 E.2),(Vr d),(WJ d),(Vd many),(104,.cells 0 42 [.slz 712 0 (0+l.length) cO]),(Y7 g),(Jb d),(Vo l),(456,.rowz true 4 [CK.bool] d.ps.n u),(Ja d),JZ,(296,.cellsR 0 96 [.nils]),(QNK l),(ZA g)])) (.leaf (.bool true true) ([(Vw d l),(201,.mp E.1 E.2),(Vr d),(Yq d),(Vd many),(104,.cells 0 42 [.slz 712 0 (0+l.length) cO]),(Y7 g),(Jb d),(Vo l),(456,.rowz true 4 [CK.bool] d.ps.n u),(Ja d),JZ,(296,.cellsR 0 96 [.nils]),(QNK l),(ZA g)]))))) (.br (i64.wrap (many+1)==2) (.need (decide (0<l.length/\l.length<=l.length)) (.need (true&&(decide (l.length<=l.length)&&decide ((0+l.length+(0+l.length) / 4+192)*16<=281474976710656/\0+l.length<=9223372036854775807))) (.br (i64.wrap (many+1)==100) (.leaf (.bool true false) ([(Vw d l),(201,.mp E.1 E.2),(Vr d),(WJ d),(Vd many),(Yy f),(112,.cells 0 42 [.slz 728 0 (0+l.length) cO]),(Jb d),(Vo l),(456,.rowz true 4 [CK.bool] d.ps.n u),(Ja d),JZ,(296,.cellsR 0 96 [.nils]),(Yw f),(QM8 l)])) (.leaf (.bool true true) ([(Vw d l),(201,.mp E.1 E.2),(Vr d),(Yq d),(Vd many),(Yy f),(112,.cells 0 42 [.slz 728 0 (0+l.length) cO]),(Jb d),(Vo l),(456,.rowz true 4 [CK.bool] d.ps.n u),(Ja d),JZ,(296,.cellsR 0 96 [.nils]),(Yw f),(QM8 l)]))))) (.br (i64.wrap (many+1)==100) (.leaf (.bool true false) ([(Vw d l),(201, .mp E.1 E.2),(Vr d),(WJ d),(Vd many),(Yy f),(Y7 g),(Jb d),(Vo l),(456,.rowz true 4 [CK.bool] d.ps.n u),(Ja d),JZ,(296,.cellsR 0 96 [.nils]),(Yw f),(ZA g)])) (.leaf (.bool true true) ([(Vw d l),(201,.mp E.1 E.2),(Vr d),(Yq d),(Vd many),(Yy f),(Y7 g),(Jb d),(Vo l),(456,.rowz true 4 [CK.bool] d.ps.n u),(Ja d),JZ,(296,.cellsR 0 96 [.nils]),(Yw f),(ZA g)]))))) (.ak (rz 10) (.ak ([(d.ps.n:Int)=(d.ps.n:Int),(0:Int)=0]++wab d++(([cO=cO,0=0]++wbp E l)++wag l++((wbH d++[QB 1 d.ps.n u u])++wai++([Array.mk [(18:Tmp)]=Array.mk [(18:Tmp)]]++wbD)))++wab d++[cO=cO]) (.ak (rz 8) (.ak ([(0:Int)=0,0=0,0=0,0=0,0=0,(0:Int)=0]++wab d++((([cO=cO]++wbO++(wbR++[many=many,0=0,f.length=f.length,cO=cO]))++wa2 f++[0=0,g.length=g.length,cO=cO])++wat g++[Fn.func (103:FuncId)=Fn.func (103:FuncId)])) (.ak (rz 12) (.ak (wab d++([cO=cO]++wae d)) (.both (.asm (A) (.all (λ(g0:Nat->Value)=>.leaf (.bool true true) ([(YT d l),(201,.mp E.1 E.2),(YL d),(Yq d),(W7 many'),(W2 f'),(Wz g'),(YI l), (496,.rowz true 4 [CK.bool] d.ps.n u'),(Wa f'),(qT g')])))) (.asm (B) (.all (λ(g1:Nat->Value)=>.leaf (.bool false false) ([(YT d l),(201,.mp E.1 E.2),(YL d),(WJ d),(W7 many'),(W2 f'),(Wz g'),(YI l),(496,.rowz true 4 [CK.bool] d.ps.n u'),(Wa f'),(qT g')]))))))))))):=by kernel_rfl
abbrev QCD:List Prop:=
  (wai++([Array.mk [18]=Array.mk [(18:Tmp)]]++wbD))
abbrev QHN:List Prop:=
  [g.length=g'.length,cO=cO,g'.length<=g.length,QB 2 g'.length (λi=>QA.enc (g.getD i (Lay.mk (0:Int) (0:Int)))) λi=>QA.enc (g'.getD i (Lay.mk
  (0:Int) (0:Int)))]
theorem Qe4(l:List Lay)(many:Int)(f g:List Lay)(many':Int)(f' g':List Lay):QE 464 [(.bool true true)] ([(Vw d l),(201,.mp E.1 E.2),(Vr d),(Yq d),(Vd many),(QJR l),(Y7 g),(Jb d),(Vo l),(456,.rowz true 4 [CK.bool] d.ps.n u), (Ja d),JZ,(296,.cellsR 0 96 [.nils]),(QFt l),(ZA g)]) (KR (VB d E (QN f24 0).1 (QN f24 0).2 u l many f g many' f' g'))=(some ([true=true, d.pK.length=d.pK.length]++(Ze E d l)++[d.ps.n<=d.ps.n,QB 1 d.ps.n u u]++QCD++(X0 d)++(Zc d)++[0=0,i64.wrap (many+1)=many',0=0, l.length=f'.length,cO=cO,f'.length<=l.length,QB 2 f'.length (λi=>QA.enc (l.getD i (Lay.mk (0:Int) (0:Int)))) λi=>QA.enc (f'.getD i (Lay.mk (0:Int) (0:Int))),0=0]++(QHN g g'))):=by kernel_rfl
abbrev QIM(many:Int)(many':Int):List Prop:=
  [0=0,i64.wrap (many+1)=many',0=0,f.length=f'.length,cO=cO,f'.length<=f.length,QB 2 f'.length (λi=>QA.enc (f.getD i (Lay.mk (0 :
  Int) (0:Int)))) λi=>QA.enc (f'.getD i (Lay.mk (0:Int) (0:Int))),0=0]
theorem QgQ(l:List Lay)(many:Int)(f g:List Lay)(many':Int)(f' g':List Lay):QE 464 [(.bool true true)] ([(Vw d l),(201,.mp E.1 E.2),(Vr d),(Yq d),(Vd many),(Yy f),(QJn l),(Jb d),(Vo l),(456,.rowz true 4 [CK.bool] d.ps.n u), (Ja d),JZ,(296,.cellsR 0 96 [.nils]),(Yw f),(QHw l)]) (KR (VB d E (QN f24 0).1 (QN f24 0).2 u l many f g many' f' g'))=(some ([true=true, d.pK.length=d.pK.length]++(Ze E d l)++[d.ps.n<=d.ps.n,QB 1 d.ps.n u u]++QCD++(X0 d)++(Zc d)++(QIM f f' many many')++[l.length=g'.length, cO=cO,g'.length<=l.length,QB 2 g'.length (λi=>QA.enc (l.getD i (Lay.mk (0:Int) (0:Int)))) λi=>QA.enc (g'.getD i (Lay.mk (0:Int) (0:Int)))])):=by kernel_rfl
abbrev QPu:List Prop:=
  (waQ++([Array.mk [18]=Array.mk [(18:Tmp)]]++wbD))
theorem Qf3(l:List Lay)(many:Int)(f g:List Lay)(many':Int)(f' g':List Lay):QE 464 [(.bool true false)] ([(Vw d l),(201,.mp E.1 E.2),(Vr d),(WJ d),(Vd many),(Yy f),(Y7 g),(Jb d),(Vo l),(456,.rowz true 4 [CK.bool] d.ps.n u), (Ja d),JZ,(296,.cellsR 0 96 [.nils]),(Yw f),(ZA g)]) (KR (Xa d E (QN f24 0).1 (QN f24 0).2 u l many f g many' f' g'))=(some ([false=false, d.pK.length=d.pK.length]++(Ze E d l)++[d.ps.n<=d.ps.n,QB 1 d.ps.n u u]++QPu++(X0 d)++(Zc d)++(QIM f f' many many')++(QHN g g'))):=by kernel_rfl
theorem QUX(l:List Lay)(many:Int)(f g:List Lay)(many':Int)(f' g':List Lay):QE 464 [(.bool true true)] ([(Vw d l),(201,.mp E.1 E.2),(Vr d),(Yq d),(Vd many),(Yy f),(Y7 g),(Jb d),(Vo l),(456,.rowz true 4 [CK.bool] d.ps.n u), (Ja d),JZ,(296,.cellsR 0 96 [.nils]),(Yw f),(ZA g)]) (KR (VB d E (QN f24 0).1 (QN f24 0).2 u l many f g many' f' g'))=(some ([true=true, d.pK.length=d.pK.length]++(Ze E d l)++[d.ps.n<=d.ps.n,QB 1 d.ps.n u u]++QCD++(X0 d)++(Zc d)++(QIM f f' many many')++(QHN g g'))):=by kernel_rfl
theorem QYj(l:List Lay)(many:Int)(f g:List Lay)(many':Int)(f' g':List Lay):QE 464 [(.bool true true)] ([(YT d l),(201,.mp E.1 E.2),(YL d),(Yq d),(W7 many'),(W2 f'),(Wz g'),(YI l),(496,.rowz true 4 [CK.bool] d.ps.n u'),(Wa f'),(qT g')]) (KR (VB d E (QN f24 0).1 (QN f24 0).2 u l many f g many' f' g'))=(some ([true=true,d.pK.length=d.pK.length]++(Ze E d l) ++ [d.ps.n<=d.ps.n,QB 1 d.ps.n u' u]++QCD++(X0 d)++(Zc d)++(QCS f' g' many'))):=by kernel_rfl
theorem Qdj(l:List Lay)(many:Int)(f g:List Lay)(many':Int)(f' g':List Lay):QE 464 [(.bool false false)] ([(YT d l),(201,.mp E.1 E.2),(YL d),(WJ d),(W7 many'),(W2 f'),(Wz g'),(YI l),(496,.rowz true 4 [CK.bool] d.ps.n u'), (Wa f'),(qT g')]) (KR (Xa d E (QN f24 0).1 (QN f24 0).2 u l many f g many' f' g'))=(some ([false=false,d.pK.length=d.pK.length]++(Ze E d l)++[d.ps.n<=d.ps.n,QB 1 d.ps.n u' u]++QPu++(X0 d)++(Zc d)++(QCS f' g' many'))):=by kernel_rfl
abbrev SoS:=Int×List Lay×List Lay
inductive Qb (σ:Type) where
 | go (s:σ)
 | stop (s:σ)
def Qv{σ α:Type}(f:σ->α->Qb σ):List α->σ->Qb σ
 | [],s => .go s
 | a::r,s=>match f s a with
  | .go s'=>Qv f r s'
  | .stop s' => .stop s'
def ZK(s:SoS):Qb SoS:=cond (i64.wrap (s.1+1)==100)
 (.stop (i64.wrap (s.1+1),cond (i64.wrap (s.1+1)==1) l s.2.1,cond (i64.wrap (s.1+1)==1) s.2.2 (cond (i64.wrap (s.1+1)==2) l s.2.2)))
 (.go (i64.wrap (s.1+1),cond (i64.wrap (s.1+1)==1) l s.2.1,cond (i64.wrap (s.1+1)==1) s.2.2 (cond (i64.wrap (s.1+1)==2) l s.2.2)))
def QY:Nat:=(tnV d p).toNat
def KE(rec:List Lay->σ->Qb σ)(l:List Lay)(p:Nat)(s:σ)(t:Nat):Qb σ:=cond (Qy d E l ⟨p,t⟩) (rec (l++[⟨p,t⟩]) s) (.go s)
def inZ(rec:List Lay->σ->Qb σ)(l:List Lay)(p:Nat)(s:σ):Qb σ:=Qv (KE d E rec l p) (List.range (QY d p)) s
def Kr(rec:List Lay->σ->Qb σ)(l:List Lay)(s:σ)(p:Nat):Qb σ:=cond (KK l p) (.go s) (inZ d E rec l p s)
def onY{σ:Type}(d:Puz)(E:ECt)(Y:List Lay->σ->Qb σ):Nat->List Lay->σ->Qb σ
 | 0,l,s=>Y l s
 | k+1,l,s=>Qv (Kr d E (onY d E Y k) l) (List.range d.ps.n) s
def onZ:Nat->List Lay->SoS->Qb SoS:=onY d E ZK
def Ju(A:Int->Lay->Bool)(d:Puz)(E:ECt)(rec:List Lay->σ->Qb σ)(l:List Lay)(p:Nat)(s:σ)(t:Nat):Qb σ:=cond (A l.length ⟨p,t⟩) (KE d E rec l p s t) (.go s)
def inA(A:Int->Lay->Bool)(d:Puz)(E:ECt)(rec:List Lay->σ->Qb σ)(l:List Lay)(p:Nat)(s:σ):Qb σ:=Qv (Ju A d E rec l p) (List.range (QY d p)) s
def Xg(A:Int->Lay->Bool)(d:Puz)(E:ECt)(rec:List Lay->σ->Qb σ)(l:List Lay)(s:σ)(p:Nat):Qb σ:=cond (KK l p) (.go s) (inA A d E rec l p s)
def onA{σ:Type}(A:Int->Lay->Bool)(d:Puz)(E:ECt)(Y:List Lay->σ->Qb σ):Nat->List Lay->σ->Qb σ
 | 0,l,s=>Y l s
 | k+1,l,s=>Qv (Xg A d E (onA A d E Y k) l) (List.range d.ps.n) s
theorem Wx{f:σ->Nat->Qb σ}{n k:Nat}(h:k<n)(s:σ):Qv f ((List.range n).drop k) s=match f s k with
  | .go s'=>Qv f ((List.range n).drop (k+1)) s'
  | .stop s' => .stop s':=by
 have:(List.range n).drop k=k::(List.range n).drop (k+1):=by
  rw[List.drop_eq_getElem_cons (by simpa using h)]
  simp
 rw[this,Qv]
theorem qe{f:σ->Nat->Qb σ}{n k:Nat}(h:n<=k)(s:σ):Qv f ((List.range n).drop k) s = .go s:=by
 rw[List.drop_eq_nil_of_le (by simpa using h),Qv]
theorem QPp(p:Int):tnV d p=1∨tnV d p=4:=by
 unfold tnV;cases d.turn&&decide (0<p)
 .exact .inl rfl
 .exact .inr rfl
def Xm(l:List Lay)(s:SoS):Qb SoS->UC
 | .go s'=>VB d E ac body (QD l) l s.1 s.2.1 s.2.2 s'.1 s'.2.1 s'.2.2
 | .stop s'=>Xa d E ac body (QD l) l s.1 s.2.1 s.2.2 s'.1 s'.2.1 s'.2.2
open Classical in
noncomputable def WH(p t:Nat):List Prop->Bool:=if t<QY d p then QQ else λ_=>false
noncomputable def q8(P:Program)(d:Puz)(E:ECt)(ac body:Code)(rec:List Lay->SoS->Qb SoS)(l:List Lay)(p:Nat)(k:Nat×SoS):Env:=
 mkE P (QBM (WH d p k.1) (WH d p k.1) d E l ⟨p,k.1⟩ (Qy d E l ⟨p,k.1⟩) (Xm d E ac body (l++[⟨p,k.1⟩]) k.2 (rec (l++[⟨p,k.1⟩]) k.2)))
def ZL(rec:List Lay->SoS->Qb SoS)(l:List Lay)(p:Nat)(k:Nat×SoS)(e:Ex)(J:JSt):Prop:=match Qv (KE d E rec l p) ((List.range (QY d p)).drop k.1) k.2 with
 | .go s'=>e = .exit 2/\J=QBe d E ac body (QD l) l s'.1 s'.2.1 s'.2.2 p
 | .stop s'=>e = .ret/\J=soF d E ac body (QD l) l s'.1 s'.2.1 s'.2.2
theorem qD(x:Lay):QB 2 (l++[x]).length (Q9 l.length (λi=>QA.enc (l.getD i ⟨0,0⟩)) (KI [[.int false .i64 x.piece,.int false .i64 x.turn]] 0)) λi=>QA.enc ((l++[x]).getD i ⟨0,0⟩):=by
 intro i hi;rw[List.length_append,List.length_singleton]at hi;show eqF 2 0 _ (QA.enc ((l++[x]).getD i ⟨0,0⟩))
 by_cases h:i<l.length
 .have e:(l++[x]).getD i ⟨0,0⟩=l.getD i ⟨0,0⟩:=by
   rw[List.getD_eq_getElem?_getD,List.getD_eq_getElem?_getD,List.getElem?_append_left h]
  rw[e];refine⟨?_,?_,trivial⟩<;>(rw[XP,if_pos h])
 .obtain rfl:i=l.length:=by omega
  have e:(l++[x]).getD l.length ⟨0,0⟩=x:=by
   rw[List.getD_eq_getElem?_getD,List.getElem?_append_right (qlr _)];simp
  rw[e];refine⟨?_,?_,trivial⟩<;>(rw[XP,if_neg h,Nat.sub_self];rfl)
theorem qo(x:Lay):QB 2 l.length (λi=>QA.enc ((l++[x]).getD i ⟨0,0⟩)) λi=>QA.enc (l.getD i (⟨0,0⟩:Lay)):=by
 intro i hi
 have e:(l++[x]).getD i ⟨0,0⟩=l.getD i ⟨0,0⟩:=by
  rw[List.getD_eq_getElem?_getD,List.getD_eq_getElem?_getD,List.getElem?_append_left hi]
 show eqF 2 0 (QA.enc ((l++[x]).getD i ⟨0,0⟩)) _;rw[e];exact⟨rfl,rfl,trivial⟩
theorem QKq(t:Int)(i:Nat):KK (l++[⟨p,t⟩]) i=(KK l i||decide (i=p)):=by
 unfold KK;rw[List.any_append];congr 1;simp only[List.any_cons,List.any_nil,Bool.or_false];rw[Bool.eq_iff_iff];simp only[beq_iff_eq,qdE];omega
theorem W9(n p:Nat)(t:Int):QB 1 n (λi=>bif decide (i=p)then Kg [.bool true true] 0 (QD l ((p:Int).toNat+0))else QD l i) (QD (l++[⟨p,t⟩])):=by
 intro i _;refine⟨?_,trivial⟩;show(bif decide (i=p)then Kg [.bool true true] 0 (QD l ((p:Int).toNat+0))else QD l i) 0=QD (l++[⟨p,t⟩]) i 0
 unfold QD;rw[QKq];cases h:decide (i=p)with
 | true=>rw[Bool.or_true];rfl
 | false=>rw[Bool.or_false];rfl
theorem qM(n p:Nat)(t:Int)(hu:KK l p=false):QB 1 n (λi=>bif decide (i=p)then Kg [.bool true false] 0 (QD (l++[⟨p,t⟩]) ((p:Int).toNat+0))else QD (l++[⟨p,t⟩]) i) (QD l):=by
 intro i _;refine⟨?_,trivial⟩;show(bif decide (i=p)then Kg [.bool true false] 0 (QD (l++[⟨p,t⟩]) ((p:Int).toNat+0))else QD (l++[⟨p,t⟩]) i) 0=QD l i 0
 cases h:decide (i=p)with
 | true=>
  obtain rfl:i=p:=qdt h;unfold QD;rw[hu];rfl
 | false=>
  show QD (l++[⟨p,t⟩]) i 0=_;unfold QD;rw[QKq,h,Bool.or_false]
