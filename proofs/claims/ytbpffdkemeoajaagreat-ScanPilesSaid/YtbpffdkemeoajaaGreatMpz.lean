/- - -/
import Derived.Test.YtbpffdkemeoajaaGreatMpy
open Go.Proofs.Tryz
open Go.IntKind (i64)
set_option maxRecDepth 100000
namespace Go.Proofs.YtbpffdkemeoajaaGreat
open Go.SX
def QP(fn:Func)(k:Nat):Code×Code:=match (JB (Qi fn))[k]? with
 | some (.rangeFunc _ _ ac body)=>(ac,body)
 | _=>(.skip,.skip)
def srK(c:Nat)(x:QD)(C:List (List QB)):List AV:=K2 0 x++[.slz c 0 C.length (.of 0)]
def msT:List AV:=[.ptr 48 0 0,.int true .i64 0,.fn (.func 44) [.ptr 16 0 0,.ptr 24 0 0,.ptr 160 0 0],.tup [],.ptr 208 0 0,.ptr 216 0 0,.int true .i64 0,.bool true false,.ptr 240 0 0,.tup [],.ptr 48 0 0,.fn (.func 79) [.ptr 264 0 0],.tup [],.tup [],.tup [],.tup [],.tup [],.tup [],.tup [],.tup [],.tup [],.tup []]
def QFi:List AV:=[.ptr 336 0 0,.ptr 264 0 0,.ptr 320 0 0,.ptr 304 0 0,.ptr 344 0 0]
variable {d:Nat}(C:List (List QB))(all:Int)(x:QD)(ac body:Code)(cs:List QB)(k:Nat)(l:List QB)(has has':Int->Bool)(many:Int)
def msR(C:List (List QB))(all:Int):List (Nat×Blk):=
 [(344,.cellsR 0 33 [.fn (.func 80) QFi]),(320,.cellsR 0 147 [.map 312]),(304,.cellsR 0 146 [.yld 297]),(264,.cellsR 0 88 [.ptr 48 0 0]),(216,.cellsR 0 105 [.fn (.func 44) [.ptr 16 0 0,.ptr 24 0 0,.ptr 160 0 0]]),(160,.cellsR 0 3 [vi all]),(48,.cellsR 0 149 (srK 49 x C)),Jm false 49 C]++JC 0 x
def msW(a:Nat)(has:Int->Bool)(many sure may:Int):List (Nat×Blk):=
 [(336,.cells 0 38 [.slz a 0 l.length (.of 0)]),rwL a l,(312,.mpf .i64 (vj 0) has λi=>vi (QJ l i)),(297,.lp .ready none msT #[12] ac body),(240,.cells 0 3 [vi many]),(208,.cells 0 3 [vi 0]),(16,.cells 0 3 [vi sure]),(24,.cells 0 3 [vi may])]
def QBA(C:List (List QB))(all:Int)(ac body:Code)(l:List QB)(has:Int->Bool)(many sure may:Int):JSt:=
 ⟨5,[(0,.ptr 336 0 0),(1,.ptr 264 0 0),(2,.ptr 320 0 0),(3,.ptr 304 0 0),(4,.ptr 344 0 0)],msW ac body l 384 has many sure may++msR x C all,392⟩
def GP(pb:List Prop->Bool)(U:UC):Tab:=Qh Qu 44 (Jj pb U)
def msU(C:List (List QB))(all:Int)(ac body:Code)(l:List QB)(has:Int->Bool)(many sure may:Int)(has':Int->Bool)(many' sure' may':Int):UC:=
 ⟨376,QBA x C all ac body l has many sure may,λ_=>.bool false true,λm=>msW ac body l m has' many' sure' may'⟩
def X7(pb1 pb2:List Prop->Bool)(x:QD)(C:List (List QB))(l:List QB)(U:UC):Tab:=Qh (Qh Qu 81 (Jj pb1 (ftU x C l))) 80 (Jj pb2 U)
def msJ(C:List (List QB))(all:Int)(ac body:Code)(cs l:List QB)(has:Int->Bool)(many sure may:Int)(k:Nat):JSt:=
 ⟨98,[(0,.ptr 336 0 0),(1,.ptr 264 0 0),(2,.ptr 320 0 0),(3,.ptr 304 0 0),(4,.ptr 344 0 0),(48,.slz 408 0 cs.length (.of 0)),(49,.int false .i64 cs.length),(50,.int false .i64 k)],
  (408,.frz kB cs.length λi=>QA.enc (cs.getD i ⟨0,0⟩))::msW ac body l 400 has many sure may++msR x C all,424⟩
def msE(many sure may:Int):JSt:=⟨98,[],msW ac body l 400 has many sure may,424⟩
def WQ:Ex->List Nat
 | .normal=>[0,1,2,3,4,48,49,50]
 | .exit _=>[]
 | .ret=>[5]
def HE:List Nat:=[336,312,297,240,208,16,24]
noncomputable abbrev QIB:List AV:=
  [.nilp,.ptr 98 0 0,.ptr 336 0 0,.ptr 264 0 0,.ptr 320 0 0,.ptr 304 0 0,.ptr 344 0 0,.slz 408 0 cs.length cO,vi (cs.length:Int),.int false .i64
  (i64.wrap ((k:Int)+1))]
noncomputable abbrev QAR:Nat×Blk:=
  (297,.lp LoopState.ready none msT (Array.mk [12]) ac body)
noncomputable abbrev H9:Nat×Blk:=
  (208,.cells 0 3 [vi 0])
noncomputable abbrev QAy:Nat×Blk:=
  (264,.cellsR 0 88 [.ptr 48 0 0])
noncomputable abbrev QFT:Nat×Blk:=
  (344,.cellsR 0 33 [.fn (Fn.func 80) [.ptr 336 0 0,.ptr 264 0 0,.ptr 320 0 0,.ptr 304 0 0,.ptr 344 0 0]])
noncomputable abbrev QGn:Nat×Blk:=
  (408,.frz kB cs.length λi=>QA.enc (cs.getD i ⟨0,0⟩))
noncomputable abbrev Gi:Nat×Blk:=
  (48,.cellsR 0 149 [vi x.d.pK.length,vi x.d.pK.aK,vi x.d.pK.oK,vi x.d.pK.dK.lo,.int false .i64
  x.d.pK.dK.hi,vi x.d.wide,vi x.d.high,.bool false x.d.turn,.slz 0 0 x.d.ps.n cO,.slz 1 0 x.sK.n cO,.slz 2 0 x.hang.n (Cap.of
  0),vi x.lost,vi x.fK,.slz 49 0 C.length cO])
noncomputable abbrev G1:Nat×Blk:=
  (160,.cellsR 0 3 [vi all])
noncomputable abbrev Gq:Nat×Blk:=
  (216,.cellsR 0 105 [.fn (Fn.func 44) [.ptr 16 0 0,.ptr 24 0 0,.ptr 160 0 0]])
abbrev Zj:List CK:=
  [.int .i64,.int .i64,.int .i64,.int .i64,.int .i64,.int .i64,.int .i64,.int .i64,.int .i64,.int .i64,.int .i64,.int .i64,.int .i64,.int .i64,.int .i64,.int .i64,.int
  .i64,.int .i64,.int .i64,.int .i64,.int .i64,.int .i64,.int .i64,.int .i64,.int .i64,.int .i64,.int .i64,.int .i64]
noncomputable abbrev GY:Nat×Blk:=
  (2,.frz [.int .i64,.int .i64,.int .i64,.int .i64] x.hang.n λi=>QA.enc (x.hang.get i))
noncomputable abbrev HC:Nat×Blk:=
  (49,.frz2 false 38 kB C.length (λi=>(QG C i).length) λi j=>QA.enc ((QG C i).getD j ⟨0,0⟩))
noncomputable abbrev QRd(all:Int)(body:Code)(cs:List QB)(has:Int->Bool)(l:List QB)(many:Int)(may:Int)(sure:Int)(x:QD):List (Nat×Blk):=
  [(336,.cells 0 38 [.slz 400 0 l.length cO]),(312,.mpf i64 (vj 0) has λi=>vi (QJ l i)),(QAR ac body),(240,.cells 0 3 [.int
  false .i64 many]),H9,(16,.cells 0 3 [vi sure]),(24,.cells 0 3 [vi may]),QAy,(320,.cellsR 0 147 [.map 312]),(304,.cellsR 0 146 [.yld 297]),
  QFT,(QGn cs),(400,.rowz true 80 kB l.length λi=>QA.enc (l.getD i ⟨0,0⟩)),(Gi C x),(G1 all),Gq,(0,.frz Zj x.d.ps.n λi=>QA.enc
  (x.d.ps.get i)),(1,.frz Zj x.sK.n λi=>QA.enc (x.sK.get i)),(GY x),(HC C)]
noncomputable abbrev QDd:List AV:=
  [vi (cs.getD k ⟨0,0⟩).cell,vi (cs.getD k ⟨0,0⟩).turn]
noncomputable abbrev QPG(all:Int)(body:Code)(cs:List QB)(has:Int->Bool)(k:Nat)(l:List QB)(many:Int)(may:Int)(sure:Int)(x:QD):List (Nat×Blk):=
  [(336,.cells 0 38 [.slz 1112 0 (i64.wrap ((↑(l.length+1):Int)-1)).toNat cO]),(312,.mpf i64 (vj 0) (Qc (cs.getD k ⟨0,0⟩).cell true
  (Qc (cs.getD k ⟨0,0⟩).cell true has)) (KO (cs.getD k ⟨0,0⟩).cell (vi (i64.wrap (toI (Bool.rec ((λ_=>(λi=>vi (QJ l i)) ((λi=>
  QA.enc (cs.getD i ⟨0,0⟩)) ((k:Int).toNat+0) 0)) ()) ((λ_=>vi (i64.wrap (toI ((λi=>vi (QJ l i)) ((λi=>QA.enc (cs.getD i
  ⟨0,0⟩)) ((k:Int).toNat+0) 0))+1))) ()) (decide ((λi=>QA.enc (cs.getD i ⟨0,0⟩)) ((k:Int).toNat+0) 0=(λi=>QA.enc (cs.getD i ⟨0,0⟩)) ((k:Int).toNat+0)
  0)))-1))) (KO (cs.getD k ⟨0,0⟩).cell (vi (i64.wrap (toI (vi (QJ l (cs.getD k ⟨0,0⟩).cell))+1))) λi=>vi (QJ l i)))),
  (QAR ac body),(240,.cells 0 3 [vi many]),H9,(16,.cells 0 3 [vi sure]),(24,.cells 0 3 [vi may]),QAy,(320,.cellsR 0 147 [.map
  312]),(304,.cellsR 0 146 [.yld 297]),QFT,(QGn cs),(1112,.rowz true 80 kB (l.length+1) (Qa l.length (λi=>QA.enc (l.getD i ⟨0,0⟩)) (QU
  [(QDd cs k)] 0))),(Gi C x),(G1 all),Gq,(0,.frz Zj x.d.ps.n λi=>QA.enc (x.d.ps.get i)),(1,.frz Zj x.sK.n λi=>QA.enc (x.sK.get i)),(GY x),
  (HC C)]
noncomputable abbrev QPc(k:Nat)(l2:List QB):Nat×Blk:=
  (312,.mpf i64 (vj 0) (Qc (cs.getD k ⟨0,0⟩).cell true has') (KO (cs.getD k ⟨0,0⟩).cell (vi (i64.wrap (toI (vi (QJ l2
  (cs.getD k ⟨0,0⟩).cell))-1))) λi=>vi (QJ l2 i)))
noncomputable abbrev QSd(all:Int)(body:Code)(cs:List QB)(has':Int->Bool)(k:Nat)(l2:List QB)(many':Int)(may':Int)(sure':Int)(x:QD):List (Nat×Blk):=
  [(336,.cells 0 38 [.slz 1224 0 (i64.wrap ((l2.length:Int)-1)).toNat cO]),(QPc cs has' k l2),(QAR ac body),(240,.cells 0 3 [vi many']),
  H9,(16,.cells 0 3 [vi sure']),(24,.cells 0 3 [vi may']),QAy,(320,.cellsR 0 147 [.map 312]),(304,.cellsR 0 146 [.yld 297]),QFT,(QGn cs),
  (1224,.rowz true 80 kB l2.length λi=>QA.enc (l2.getD i ⟨0,0⟩)),(Gi C x),(G1 all),Gq,(0,.frz Zj x.d.ps.n λi=>QA.enc (x.d.ps.get i)),
  (1,.frz Zj x.sK.n λi=>QA.enc (x.sK.get i)),(GY x),(HC C)]
noncomputable abbrev QJ8(all:Int)(body:Code)(has:Int->Bool)(l:List QB)(many:Int)(may:Int)(sure:Int)(x:QD):List (Nat×Blk):=
  [(336,.cells 0 38 [.slz 400 0 l.length cO]),(312,.mpf i64 (vj 0) has λi=>vi (QJ l i)),(QAR ac body),(240,.cells 0 3 [.int
  false .i64 many]),H9,(16,.cells 0 3 [vi sure]),(24,.cells 0 3 [vi may]),(400,.rowz true 80 kB l.length λi=>QA.enc
  (l.getD i ⟨0,0⟩)),(Gi C x),(G1 all),Gq,QAy,(0,.frz Zj x.d.ps.n λi=>QA.enc (x.d.ps.get i)),(1,.frz Zj x.sK.n λi=>QA.enc (x.sK.get i)),
  (GY x),(HC C)]
theorem QXg(pb1 pb2:List Prop->Bool)(x:QD)(C:List (List QB))(all:Int)(ac body:Code)(cs l l2:List QB)(has has2:Int->Bool)(many sure may:Int)(k:Nat)(has':Int->Bool)(many' sure' may':Int)(g:Nat->Value):exec (mkC prog (X7 pb1 pb2 x C l2 (msU x C all ac body l2 has2 many sure may has' many' sure' may'))) (hnd (mkC prog (X7 pb1 pb2 x C l2 (msU x C all ac body l2 has2 many sure may has' many' sure' may'))) 0) (QT f80 0) (JSt.inst (msJ x C all ac body cs l has many sure may k) g) (KG HE WQ) = .br (decide ((k:Int)<(cs.length:Int))) (.need (decide ((0:Int)<=(k:Int)/\(k:Int)<(cs.length:Int))&&decide (cs.length<=cs.length)) (.need (decide (k<cs.length)) (.all (λ(g0:Nat -> Value)=>.need (isI i64 (vi (QJ l (cs.getD k ⟨0,0⟩).cell))) (.br (decide (toI (vi (QJ l (cs.getD k ⟨0,0⟩).cell))≥bif (cs.getD k ⟨0, 0⟩).cell == -2 then x.fK else (1:Int))) (.leaf (.tup (QIB cs k)) ((QRd C ac all body cs has l many may sure x))) (.need (decide (l.length<=l.length)&&(true&&decide ((l.length+1+(l.length+1) / 4+192)*16<=281474976710656/\l.length+1<=9223372036854775807))) (.need (isI i64 (vi (QJ l (cs.getD k ⟨0,0⟩).cell))) (.need (pb1 ([0=0,0=0,0=0,l.length+1=l2.length,cO=cO,l2.length<=l.length+1,QC 2 l2.length (Qa l.length (λi=>QA.enc (l.getD i ⟨0,0⟩)) (QU [(QDd cs k)] 0)) λi=>QA.enc (l2.getD i ⟨0,0⟩),x.d.pK.length=x.d.pK.length,x.d.pK.aK=x.d.pK.aK,x.d.pK.oK=x.d.pK.oK,x.d.pK.dK.lo=x.d.pK.dK.lo,x.d.pK.dK.hi=x.d.pK.dK.hi,x.d.wide=x.d.wide,x.d.high=x.d.high,x.d.turn=x.d.turn,0=0,x.d.ps.n=x.d.ps.n,cO=cO,0=0, x.sK.n=x.sK.n,cO=cO,0=0,x.hang.n=x.hang.n,cO=cO,x.lost=x.lost,x.fK=x.fK,0=0,C.length=C.length,cO=cO, C.length=C.length,Q1 2 C.length (λi=>(QG C i).length) (λi=>(QG C i).length) (λi j=>QA.enc ((QG C i).getD j ⟨0,0⟩)) λi j=>QA.enc ((QG C i).getD j ⟨0,0⟩),x.d.ps.n<=x.d.ps.n,QC 28 x.d.ps.n (λi=>QA.enc (x.d.ps.get i)) λi=>QA.enc (x.d.ps.get i),x.sK.n<=x.sK.n,QC 28 x.sK.n (λi=>QA.enc (x.sK.get i)) λi=>QA.enc (x.sK.get i),x.hang.n<=x.hang.n,QC 4 x.hang.n (λi=>QA.enc (x.hang.get i)) λi=>QA.enc (x.hang.get i)])) (.br (!Kn x l2) (.need (isI i64 (Bool.rec ((λ_=>(λi=>vi (QJ l i)) ((λi=>QA.enc (cs.getD i ⟨0,0⟩)) ((k:Int).toNat+0) 0)) ()) ((λ_=>vi (i64.wrap (toI ((λi=>vi (QJ l i)) ((λi=>QA.enc (cs.getD i ⟨0,0⟩)) ((k:Int).toNat+0) 0))+1))) ()) (decide ((λi=>QA.enc (cs.getD i ⟨0,0⟩)) ((k:Int).toNat+0) 0=(λi=>QA.enc (cs.getD i ⟨0,0⟩)) ((k:Int).toNat+0) 0)))) (.need (decide ((0:Int)<=i64.wrap ((↑(l.length+1):Int)-1)/\(i64.wrap ((↑(l.length+1):Int)-1)).toNat<=l.length+1-0)) (.leaf (.tup (QIB cs k)) ((QPG C ac all body cs has k l many may sure x))))) (.need (pb2 ([0=0,0=0,0=0,0=0,0=0,0=0,0=0,0=0,0=0,0=0,0=0,l.length+1=l2.length,cO=cO,l2.length<=l.length+1,QC 2 l2.length (Qa l.length (λi=>QA.enc (l.getD i ⟨0,0⟩)) (QU [(QDd cs k)] 0)) λi=>QA.enc (l2.getD i ⟨0,0⟩),Ka (vj 0) (vj 0) (Qc (cs.getD k ⟨0, 0⟩).cell true has) has2 (KO (cs.getD k ⟨0,0⟩).cell (vi (i64.wrap (toI (vi (QJ l (cs.getD k ⟨0,0⟩).cell))+1))) λi=>vi (QJ l i)) λi=>vi (QJ l2 i),LoopState.ready=LoopState.ready,(none:Option Code)=none,Array.mk [12]=Array.mk [12],ac=ac,body=body,0=0,0=0, (0:Int)=0,Fn.func 44=Fn.func 44,0=0,0=0,0=0,0=0,0=0,0=0,0=0,0=0,0=0,0=0,(0:Int)=0,false=false,0=0,0=0,0=0,0=0,Fn.func 79=Fn.func 79,0=0,0=0,many=many,(0:Int)=0,sure=sure,may=may,Fn.func 80=Fn.func 80,0=0,0=0,0=0,0=0,0=0,0=0,0=0,0=0,0=0,0=0,0=0,0=0,Fn.func 44=Fn.func 44,0=0,0=0,0=0,0=0,0=0,0=0,all=all,x.d.pK.length=x.d.pK.length,x.d.pK.aK=x.d.pK.aK,x.d.pK.oK=x.d.pK.oK,x.d.pK.dK.lo=x.d.pK.dK.lo,x.d.pK.dK.hi=x.d.pK.dK.hi,x.d.wide=x.d.wide,x.d.high=x.d.high,x.d.turn=x.d.turn,0=0,x.d.ps.n=x.d.ps.n, cO=cO,0=0,x.sK.n=x.sK.n,cO=cO,0=0,x.hang.n=x.hang.n,cO=cO,x.lost=x.lost,x.fK=x.fK,0=0,C.length=C.length,cO=cO,C.length=C.length,Q1 2 C.length (λi=>(QG C i).length) (λi=>(QG C i).length) (λi j=>QA.enc ((QG C i).getD j ⟨0,0⟩)) λi j=>QA.enc ((QG C i).getD j ⟨0,0⟩),x.d.ps.n<=x.d.ps.n,QC 28 x.d.ps.n (λi=>QA.enc (x.d.ps.get i)) λi=>QA.enc (x.d.ps.get i),x.sK.n<=x.sK.n, QC 28 x.sK.n (λi=>QA.enc (x.sK.get i)) λi=>QA.enc (x.sK.get i),x.hang.n<=x.hang.n,QC 4 x.hang.n (λi=>QA.enc (x.hang.get i)) λi=>QA.enc (x.hang.get i)])) (.need (isI i64 (vi (QJ l2 (cs.getD k ⟨0,0⟩).cell))) (.need (decide ((0:Int)<=i64.wrap ((l2.length:Int)-1)/\(i64.wrap ((l2.length:Int)-1)).toNat<=l2.length-0)) (.br (false) (.leaf (.tup [.nili,.ptr 98 0 0,.bool true false]) ([(336,.cells 0 38 [.slz 1224 0 (i64.wrap ((l2.length:Int)-1)).toNat cO]),(QPc cs has' k l2),(QAR ac body),(240,.cells 0 3 [vi many']),H9,(16,.cells 0 3 [vi sure']),(24,.cells 0 3 [vi may']),(1224,.rowz true 80 kB l2.length λi=>QA.enc (l2.getD i ⟨0,0⟩)),(Gi C x),(G1 all),Gq, QAy,(0,.frz Zj x.d.ps.n λi=>QA.enc (x.d.ps.get i)),(1,.frz Zj x.sK.n λi=>QA.enc (x.sK.get i)),(GY x),(HC C)])) (.leaf (.tup (QIB cs k)) ((QSd C ac all body cs has' k l2 many' may' sure' x)))))))))))))))) (.leaf (.tup [.ptr 0 0 0,.ptr 98 0 0]) ((QJ8 C ac all body has l many may sure x))):=by kernel_rfl
noncomputable abbrev QFg:List AV:=
  [.ptr 336 0 0,.ptr 264 0 0,.ptr 320 0 0,.ptr 304 0 0,.ptr 344 0 0,.slz 408 0 cs.length cO,vi (cs.length:Int),vi (i64.wrap ((k :
  Int)+1))]
abbrev XE:List Prop:=
  [0=0,0=0,0=0,0=0,0=0,0=0]
abbrev ZP:List Prop:=
  [0=0,0=0,0=0,0=0]
abbrev QIi(k':Nat):List Prop:=
  [0=0,cs.length=cs.length,cO=cO,(cs.length:Int)=(cs.length:Int),i64.wrap ((k:Int)+1)=(k':Int),cs.length<=cs.length,QC 2 cs.length
  (λi=>QA.enc (cs.getD i ⟨0,0⟩)) λi=>QA.enc (cs.getD i ⟨0,0⟩),0=0]
abbrev QMS(l:List QB):List Prop:=
  [cO=cO,l.length<=l.length,QC 2 l.length (λi=>QA.enc (l.getD i ⟨0,0⟩)) λi=>QA.enc (l.getD i ⟨0,0⟩),Ka (.int true .i64 0) (.int true .i64 0)
  has has (λi=>.int false .i64 (QJ l i)) λi=>.int false .i64 (QJ l i),LoopState.ready=LoopState.ready,(none:Option Code)=none,Array.mk [12]=Array.mk [(12 :
  Tmp)],ac=ac,body=body,0=0,0=0,(0:Int)=0,Fn.func (44:FuncId)=Fn.func (44:FuncId)]
abbrev QGq:List Prop:=
  [Fn.func (79:FuncId)=Fn.func (79:FuncId),0=0,0=0,many=many,(0:Int)=0]
abbrev QIV:List Prop:=
  [x.d.pK.length=x.d.pK.length,x.d.pK.aK=x.d.pK.aK,x.d.pK.oK=x.d.pK.oK,x.d.pK.dK.lo=x.d.pK.dK.lo,x.d.pK.dK.hi=x.d.pK.dK.hi,
  x.d.wide=x.d.wide,x.d.high=x.d.high,x.d.turn=x.d.turn,0=0,x.d.ps.n=x.d.ps.n,cO=cO,0=0,x.sK.n=x.sK.n,cO=cO,0=0,x.hang.n =
  x.hang.n,cO=cO,x.lost=x.lost,x.fK=x.fK,0=0,C.length=C.length,cO=cO,C.length=C.length,Q1 2 C.length (λi=>(QG C
  i).length) (λi=>(QG C i).length) (λi j=>QA.enc ((QG C i).getD j ⟨0,0⟩)) λi j=>QA.enc ((QG C i).getD j ⟨0,0⟩),x.d.ps.n<=x.d.ps.n,QC 28 x.d.ps.n (fun
  i=>QA.enc (x.d.ps.get i)) λi=>QA.enc (x.d.ps.get i),x.sK.n<=x.sK.n,QC 28 x.sK.n (λi=>QA.enc (x.sK.get i)) λi=>QA.enc (x.sK.get i),
  x.hang.n<=x.hang.n,QC 4 x.hang.n (λi=>QA.enc (x.hang.get i)) λi=>QA.enc (x.hang.get i)]
theorem Qee(C:List (List QB))(all:Int)(ac body:Code)(cs l:List QB)(has:Int->Bool)(many sure may:Int)(k k':Nat):QI 392 (QFg cs k) ((QRd C ac all body cs has l many may sure x)) (msJ x C all ac body cs l has many sure may k')=(some (XE++ZP++(QIi cs k k')++[l.length=l.length]++(QMS ac body has l)++XE++ZP++[(0:Int)=0,false=false]++ZP++(QGq many)++[sure=sure,may=may,Fn.func 80=Fn.func (80:FuncId)] ++ XE++XE++[Fn.func 44=Fn.func (44:FuncId)]++XE++[all=all]++(QIV C x))):=by kernel_rfl
abbrev QPa:List Prop:=
  [(none:Option Code)=none,Array.mk [12]=Array.mk [(12:Tmp)],ac=ac,body=body,0=0,0=0,(0:Int)=0,Fn.func (44:FuncId)=Fn.func (44:FuncId)]
theorem Qcw(x:QD)(C:List (List QB))(all:Int)(ac body:Code)(cs l:List QB)(has h':Int->Bool)(many sure may:Int)(k k':Nat):QI 392 (QFg cs k) ((QPG C ac all body cs has k l many may sure x)) (msJ x C all ac body cs l h' many sure may k')=(some (XE++ZP++(QIi cs k k') ++ [(i64.wrap ((↑(l.length+1):Int)-1)).toNat=l.length,cO=cO,l.length<=l.length+1,QC 2 l.length (Qa l.length (λi=>QA.enc (l.getD i ⟨0, 0⟩)) (QU [(QDd cs k)] 0)) λi=>QA.enc (l.getD i ⟨0,0⟩),Ka (vj 0) (vj 0) (Qc (cs.getD k ⟨0,0⟩).cell true (Qc (cs.getD k ⟨0,0⟩).cell true has)) h' (KO (cs.getD k ⟨0,0⟩).cell (vi (i64.wrap (toI (Bool.rec ((λx=>(λi=>vi (QJ l i)) ((λi=>QA.enc (cs.getD i ⟨0,0⟩)) ((k:Int).toNat+0) 0)) ()) ((λx=>vi (i64.wrap (toI ((λi=>vi (QJ l i)) ((λi=>QA.enc (cs.getD i ⟨0,0⟩)) ((k:Int).toNat+0) 0))+1))) ()) (decide ((λi=>QA.enc (cs.getD i ⟨0,0⟩)) ((k:Int).toNat+0) 0=(λi=>QA.enc (cs.getD i ⟨0,0⟩)) ((k:Int).toNat+0) 0)))-1))) (KO (cs.getD k ⟨0, 0⟩).cell (vi (i64.wrap (toI (vi (QJ l (cs.getD k ⟨0,0⟩).cell))+1))) λi=>vi (QJ l i))) λi=>vi (QJ l i), LoopState.ready=LoopState.ready]++(QPa ac body)++XE++ZP++[(0:Int)=0,false=false]++ZP++(QGq many)++[sure=sure,may=may,Fn.func 80=Fn.func (80:FuncId)]++XE++XE++[Fn.func 44=Fn.func (44:FuncId)]++XE++[all=all]++(QIV C x))):=by kernel_rfl
theorem QYk(C:List (List QB))(all:Int)(ac body:Code)(cs l l2:List QB)(k:Nat)(has' h':Int->Bool)(many' sure' may':Int)(k':Nat):QI 392 (QFg cs k) ((QSd C ac all body cs has' k l2 many' may' sure' x)) (msJ x C all ac body cs l h' many' sure' may' k')=(some (XE++ZP++(QIi cs k k') ++ [(i64.wrap ((l2.length:Int)-1)).toNat=l.length,cO=cO,l.length<=l2.length,QC 2 l.length (λi=>QA.enc (l2.getD i ⟨0,0⟩)) λi=>QA.enc (l.getD i ⟨0,0⟩),Ka (vj 0) (vj 0) (Qc (cs.getD k ⟨0,0⟩).cell true has') h' (KO (cs.getD k ⟨0,0⟩).cell (vi (i64.wrap (toI (vi (QJ l2 (cs.getD k ⟨0,0⟩).cell))-1))) λi=>vi (QJ l2 i)) λi=>vi (QJ l i),LoopState.ready=LoopState.ready]++(QPa ac body)++XE++ZP++[(0:Int)=0,false=false]++ZP++[Fn.func (79:FuncId)=Fn.func (79:FuncId),0=0,0=0,many'=many',(0:Int)=0,sure'=sure',may'=may',Fn.func 80=Fn.func (80:FuncId)]++XE++XE++[Fn.func 44=Fn.func (44:FuncId)]++XE++[all=all]++(QIV C x))):=by kernel_rfl
theorem QZJ(C:List (List QB))(all:Int)(ac body:Code)(l:List QB)(has:Int->Bool)(many sure may:Int):QI 392 [] ((QJ8 C ac all body has l many may sure x)) (msE ac body l has many sure may)=(some ([0=0,l.length=l.length]++(QMS ac body has l)++XE++ZP++[(0:Int)=0,false=false]++ZP++(QGq many)++[sure=sure,may=may])):=by kernel_rfl
abbrev MsS:=Int×Int×Int
def msY(s:MsS)(l:List QB):MsS×Bool:=((i64.wrap (s.1+1),VR s.2.1 (Ku l l.length),orN s.2.2 (VR all (Ku l l.length))),true)
def WX(C:List (List QB))(all:Int)(ac body:Code)(l:List QB)(has:Int->Bool)(s:MsS):Res MsS->UC
 | .go s' h'=>msU x C all ac body l has s.1 s.2.1 s.2.2 h' s'.1 s'.2.1 s'.2.2
 | .stop s' h'=>msU x C all ac body l has s.1 s.2.1 s.2.2 h' s'.1 s'.2.1 s'.2.2
abbrev MsK:=Nat×MsS×(Int->Bool)
noncomputable def kPb:List Prop->Bool:=match decide (k<cs.length)with
 | true=>QV
 | false=>λ_=>false
def ZE(C:List (List QB))(all:Int)(d:Nat)(l:List QB)(s:MsS)(h:Int->Bool)(c:QB):Res MsS:=onT x C (msY all) d (l++[c]) s h
noncomputable def j9(P:Program)(x:QD)(C:List (List QB))(all:Int)(ac body:Code)(d:Nat)(cs l:List QB)(t:MsK):Env:=
 mkC P (X7 (kPb cs t.1) (kPb cs t.1) x C (l++[cs.getD t.1 ⟨0,0⟩]) (WX x C all ac body (l++[cs.getD t.1 ⟨0,0⟩]) (Qc (cs.getD t.1 ⟨0,0⟩).cell true t.2.2) t.2.1 (ZE x C all d l t.2.1 (Qc (cs.getD t.1 ⟨0,0⟩).cell true t.2.2) (cs.getD t.1 ⟨0,0⟩))))
def qD(C:List (List QB))(all:Int)(ac body:Code)(d:Nat)(cs l:List QB)(t:MsK)(e:Ex)(J:JSt):Prop:=match J2 (Ki x l (ZE x C all d l)) (cs.drop t.1) t.2.1 t.2.2 with
 | .go s h=>e = .exit 0/\J=msE ac body l h s.1 s.2.1 s.2.2
 | .stop _ _=>False
theorem KW{k n:Nat}(h:k<n)(hn:n<=1000):i64.wrap ((k:Int)+1)=((k+1:Nat):Int):=(w64 (by omega) (by omega)).trans (by omega)
set_option maxHeartbeats 1600000 in
theorem QT7(C:List (List QB))(all:Int)(ac body:Code)(d:Nat)(cs l:List QB)(hcs:cs.length<=1000)(hl:l.length<=1000):qg (λt:MsK=>msJ x C all ac body cs l t.2.2 t.2.1.1 t.2.1.2.1 t.2.1.2.2 t.1) (λt=>t.1<=cs.length) (λt=>cs.length-t.1) (qD x C all ac body d cs l) 392 WQ HE (j9 prog x C all ac body d cs l) (λt=>hnd (j9 prog x C all ac body d cs l t) 0) (QT f80 0):=by
 refine⟨λt g hk=>?_⟩;obtain⟨k,⟨many,sure,may⟩,has⟩:=t;have hk:k<=cs.length:=hk;obtain⟨s',h',hrec⟩:=Z8 (C:=C) (x:=x) (Y:=msY all) (λ_ _=>rfl) d (l++[cs.getD k ⟨0,0⟩]) (many,sure,may) (Qc (cs.getD k ⟨0,0⟩).cell true has);unfold j9;simp only;have hrec:ZE x C all d l (many,sure,may) (Qc (cs.getD k ⟨0,0⟩).cell true has) (cs.getD k ⟨0,0⟩) = .go s' h':=hrec;rw[hrec];refine Qp (QXg (kPb cs k) (kPb cs k) x C all ac body cs l (l++[cs.getD k ⟨0,0⟩]) has (Qc (cs.getD k ⟨0,0⟩).cell true has) many sure may k h' s'.1 s'.2.1 s'.2.2 g) ?_;refine QH ?_ ?_<;>intro h
 .have h:k<cs.length:=by have:=qdt h;omega
  have hw:=KW h hcs;have hpb:kPb cs k=QV:=by unfold kPb;rw[qde h]
  rw[hpb];have step:=HO (f:=Ki x l (ZE x C all d l)) h (many,sure,may) has
  have next:∀{s2:MsS} {h2:Int->Bool},Ki x l (ZE x C all d l) (many,sure,may) has (cs.getD k ⟨0,0⟩) = .go s2 h2->∀ e J,qD x C all ac body d cs l (k+1,s2,h2) e J->qD x C all ac body d cs l (k,(many,sure,may),has) e J:=by
   intro s2 h2 he e J hr;unfold qD at hr ⊢;simp only at hr ⊢;rw[step,he];exact hr
  have one:∀ b,JO x l (cs.getD k ⟨0,0⟩)=b->Ki x l (ZE x C all d l) (many,sure,may) has (cs.getD k ⟨0,0⟩)=match b with
    | true => .go (many,sure,may) has
    | false=>match Kn x (l++[cs.getD k ⟨0,0⟩])with
     | false => .go (many,sure,may) (Qc (cs.getD k ⟨0,0⟩).cell true (Qc (cs.getD k ⟨0,0⟩).cell true has))
     | true => .go s' (Qc (cs.getD k ⟨0,0⟩).cell true h'):=by
   intro b hb;unfold Ki;rw[hb,hrec];cases b
   .cases Kn x (l++[cs.getD k ⟨0,0⟩])<;>rfl
   .rfl
  refine QF (by simp;omega) (QF (by simp;omega) (Q7 λ_=>?_))
  refine QF rfl (QH (λhf=>?_) (λhf=>QF (by simp;omega) (QF rfl (QF (KP.2 ?_) (QH (λhq=>?_) (λhq=>?_))))))
  .have hf:JO x l (cs.getD k ⟨0,0⟩)=true:=XO.trans hf;refine⟨(k+1,(many,sure,may),has),h,by show cs.length-(k+1)<cs.length-k;omega,next (one _ hf),rfl,rfl,_,Qee x C all ac body cs l has many sure may k (k+1),?_⟩
   repeat' first|with_reducible refine QK ?_ ?_|exact tv|exact K7 _ _ _|exact hw|refine aI ?_ ?_
  .repeat' first|with_reducible refine QK ?_ ?_|exact tv|exact Z0 _ _|exact Zu _ _|exact Zo _ _ _ rfl|refine aI ?_ ?_
  .have hf:JO x l (cs.getD k ⟨0,0⟩)=false:=XO.trans hf;have hq:Kn x (l++[cs.getD k ⟨0,0⟩])=false:=by simpa using hq
   have hp:=G8 l hl;have hp1:i64.wrap (((l.length+1:Nat):Int)-1)=l.length:=(w64 (by omega) (by omega)).trans (by omega)
   have ho:=one _ hf;rw[hq]at ho;refine QF (by simp[isI]) (QF (by rw[hp1];simp) ?_)
   refine⟨(k+1,(many,sure,may),Qc (cs.getD k ⟨0,0⟩).cell true (Qc (cs.getD k ⟨0,0⟩).cell true has)),h,by show cs.length-(k+1)<cs.length-k;omega,next ho,rfl,rfl,_,Qcw x C all ac body cs l has (Qc (cs.getD k ⟨0,0⟩).cell true (Qc (cs.getD k ⟨0,0⟩).cell true has)) many sure may k (k+1),?_⟩
   repeat' first|with_reducible refine QK ?_ ?_|exact tv|exact hw|exact hp|exact Nat.le_succ _|exact G4 _ _|exact Hp _ _ _ hl (by simp[toI];rfl) _|refine aI ?_ ?_
  .have hf:JO x l (cs.getD k ⟨0,0⟩)=false:=XO.trans hf;have hq:Kn x (l++[cs.getD k ⟨0,0⟩])=true:=by simpa using hq
   have hp:=QAa l (cs.getD k ⟨0,0⟩) hl
   have hp1:i64.wrap (((l++[cs.getD k ⟨0,0⟩]).length:Int)-1)=l.length:=by
    rw[List.length_append,List.length_singleton];exact(w64 (by omega) (by omega)).trans (by omega)
   have ho:=one _ hf;rw[hq]at ho;refine QF (KP.2 ?_) (QF rfl (QF (by rw[hp1];simp) (QH (λq=>by cases q) (λ_=>?_))))
   .repeat' first|with_reducible refine QK ?_ ?_|exact tv|exact Z0 _ _|exact Zu _ _|exact Zo _ _ _ rfl|exact QA0 _ _ hl rfl _|refine aI ?_ ?_
   refine⟨(k+1,s',Qc (cs.getD k ⟨0,0⟩).cell true h'),h,by show cs.length-(k+1)<cs.length-k;omega,next ho,rfl,rfl,_,QYk x C all ac body cs l (l++[cs.getD k ⟨0,0⟩]) k h' (Qc (cs.getD k ⟨0,0⟩).cell true h') s'.1 s'.2.1 s'.2.2 (k+1),?_⟩
   repeat' first|with_reducible refine QK ?_ ?_|exact tv|exact hw|exact hp|exact(by simp:l.length<=(l++[cs.getD k ⟨0,0⟩]).length)|exact G5 _ _|exact Ga _ _ hl rfl _|refine aI ?_ ?_
 .have h:cs.length<=k:=by have:=qdf h;omega
  have he:=Gm (f:=Ki x l (ZE x C all d l)) h (many,sure,may) has;refine⟨msE ac body l has many sure may,by unfold qD;simp only[he,and_self],rfl,rfl,_,QZJ x C all ac body l has many sure may,?_⟩
  repeat' first|with_reducible refine QK ?_ ?_|exact tv|exact K7 _ _ _|refine aI ?_ ?_
abbrev msX(P:Program)(J:JSt)(X:List (Prop×Ex×JSt)):Hnd:={ hnd (mkE P Qu) 2 with loop:=λ_=>Q4 392 HE J X }
abbrev msN(P : Program)(T : Tab): Hnd := { hnd (mkE P T) 2 with loop := λ_ _ _=>.fail "a loop" }
noncomputable abbrev QHr:Nat×Blk:=
  (297,.lp LoopState.ready none msT (Array.mk [12]) (QP f41 0).1 (QP f41 0).2)
noncomputable abbrev QHB:Nat×Blk:=
  (208,.cells 0 3 [vi 0])
noncomputable abbrev QMk:Nat×Blk:=
  (48,.cellsR 0 149 [vi x.d.pK.length,vi x.d.pK.aK,vi x.d.pK.oK,vi x.d.pK.dK.lo,.int false .i64
  x.d.pK.dK.hi,vi x.d.wide,vi x.d.high,.bool false x.d.turn,.slz 0 0 x.d.ps.n cO,.slz 1 0 x.sK.n cO,.slz 2 0 x.hang.n (Cap.of
  0),vi x.lost,vi x.fK,.slz 49 0 C.length cO])
noncomputable abbrev QR2:Nat×Blk:=
  (216,.cellsR 0 105 [.fn (Fn.func 44) [.ptr 16 0 0,.ptr 24 0 0,.ptr 160 0 0]])
abbrev QEZ:List CK:=
  [.int .i64,.int .i64,.int .i64,.int .i64,.int .i64,.int .i64,.int .i64,.int .i64,.int .i64,.int .i64,.int .i64,.int .i64,.int .i64,.int .i64,.int .i64,.int .i64,.int
  .i64,.int .i64,.int .i64,.int .i64,.int .i64,.int .i64,.int .i64,.int .i64,.int .i64,.int .i64,.int .i64,.int .i64]
noncomputable abbrev QNm:Nat×Blk:=
  (49,.frz2 false 38 kB C.length (λi=>(QG C i).length) λi j=>QA.enc ((QG C i).getD j ⟨0,0⟩))
noncomputable abbrev QHy(l:List QB)(many:Int)(may:Int)(sure:Int)(x:QD):List (Nat×Blk):=
  [(336,.cells 0 38 [.slz 384 0 l.length cO]),(312,.mpf i64 (vj 0) has λi=>vi (QJ l i)),QHr,(240,.cells 0 3 [.int false .i64
  many]),QHB,(16,.cells 0 3 [vi sure]),(24,.cells 0 3 [vi may]),(384,.rowz true 80 kB l.length λi=>QA.enc (l.getD i ⟨0,
  0⟩)),(QMk C x),(160,.cellsR 0 3 [vi all]),QR2,(264,.cellsR 0 88 [.ptr 48 0 0]),(0,.frz QEZ x.d.ps.n λi=>QA.enc (x.d.ps.get i)),(1,.frz QEZ
  x.sK.n λi=>QA.enc (x.sK.get i)),(2,.frz [.int .i64,.int .i64,.int .i64,.int .i64] x.hang.n λi=>QA.enc (x.hang.get i)),(QNm C)]
noncomputable abbrev QNP(hs:Int)(l:List QB)(many:Int)(may:Int)(sure:Int)(x:QD):List (Nat×Blk):=
  [(336,.cells 0 38 [.slz 384 0 l.length cO]),(312,.mpf i64 (vj 0) has λi=>vi (QJ l i)),QHr,(240,.cells 0 3 [.int false .i64
  (i64.wrap (many+1))]),QHB,(16,.cells 0 3 [vi (VR sure hs)]),(24,.cells 0 3 [vi (orN may (VR all hs))]),(384,.rowz true 80 kB l.length λi=>QA.enc (l.getD i ⟨0,0⟩)),(QMk C x),(160,.cellsR 0 3 [vi all]),QR2,(264,.cellsR 0 88 [.ptr 48 0 0]),(0,.frz QEZ x.d.ps.n λi
  => QA.enc (x.d.ps.get i)),(1,.frz QEZ x.sK.n λi=>QA.enc (x.sK.get i)),(2,.frz [.int .i64,.int .i64,.int .i64,.int .i64] x.hang.n λi=>QA.enc (x.hang.get
  i)),(QNm C)]
theorem QLg(pb:List Prop->Bool)(x:QD)(C:List (List QB))(all:Int)(l:List QB)(has:Int->Bool)(many sure may hs:Int):(Vm (mkE prog (GP pb (mmU l 0 sure may all hs))) (msN prog (GP pb (mmU l 0 sure may all hs))) f80 QFi (QBA x C all (QP f41 0).1 (QP
  f41 0).2 l has many sure may).hp 392 λv h _=>Yz HE v h) = .br ((l.length:Int)==(x.sK.n:Int)) (.need (isI i64 (.int false .i64 (QJ l (-2:Int))))
  (.br (decide (i64.wrap ((x.d.ps.n:Int)-i64.wrap ((l.length:Int)-toI (.int false .i64 (QJ l (-2:Int)))))>x.lost)) (.leaf (.bool true true) ((QHy C all
  has l many may sure x))) (.need (pb ([(0:Int)=0,0=0,l.length=l.length,Cap.of 0=Cap.of 0,0=0,0=0,0=0,0=0,0=0,0=0,l.length<=l.length,QC 2
  l.length (λi=>QA.enc (l.getD i ⟨0,0⟩)) λi=>QA.enc (l.getD i ⟨0,0⟩),sure=sure,may=may,all=all])) (.leaf (.bool true true) ((QNP C all has hs l many may sure
  x)))))) (.need (decide ((0:Int)<=(l.length:Int)/\(l.length:Int)<(C.length:Int))&&decide (C.length<=C.length)) (.need (decide (l.length<C.length)) (.fail
  ("a loop")))) := by kernel_rfl
abbrev QQZ(l:List QB):List Prop:=
  [true=true,0=0,l.length=l.length,cO=cO,l.length<=l.length,QC 2 l.length (λi=>QA.enc (l.getD i ⟨0,0⟩)) λi=>QA.enc (l.getD i ⟨0,0⟩),
  Ka (.int true .i64 0) (.int true .i64 0) has has (λi=>.int false .i64 (QJ l i)) λi=>.int false .i64 (QJ l i),LoopState.ready=LoopState.ready,(none:Option
  Code)=none,Array.mk [12]=Array.mk [(12:Tmp)],(QP f41 0).1=(QP f41 0).1,(QP f41 0).2=(QP f41 0).2,0=0,0=0,(0:Int)=0,
  Fn.func (44:FuncId)=Fn.func (44:FuncId)]
abbrev WZ:List Prop:=
  [0=0,0=0,0=0,0=0]
theorem Qg3(C:List (List QB))(all:Int)(l:List QB)(has:Int->Bool)(many sure may:Int):QI 392 [(.bool true true)] ((QHy C all has l many may sure x)) (Kb (msU x C all (QP f41 0).1 (QP f41 0).2 l has many sure may has many sure may))=(some ((QQZ has l)++WZ++WZ++[0=0,0=0,(0:Int)=0,false=false]++WZ++[Fn.func (79:FuncId)=Fn.func (79:FuncId),0=0,0=0,many=many,(0:Int)=0, sure=sure,may=may])):=by kernel_rfl
theorem QYg(C:List (List QB))(all:Int)(l:List QB)(has:Int->Bool)(many sure may hs many' sure' may':Int):QI 392 [(.bool true true)] ((QNP C all has hs l many may sure x)) (Kb (msU x C all (QP f41 0).1 (QP f41 0).2 l has many sure may has many' sure' may'))=( some ((QQZ has l)++WZ++WZ++[0=0,0=0,(0:Int)=0,false=false]++WZ++[Fn.func (79:FuncId)=Fn.func (79:FuncId),0=0,0=0,i64.wrap (many+1)=many',(0:Int)=0,VR sure hs=sure',orN may (VR all hs)=may'])):=by kernel_rfl
noncomputable abbrev QPE(l:List QB)(many':Int)(may':Int)(sure':Int):List (Nat×Blk):=
  [(336,.cells 0 38 [.slz 400 0 l.length cO]),(312,.mpf i64 (vj 0) has' λi=>vi (QJ l i)),QHr,(240,.cells 0 3 [.int false .i64
  many']),QHB,(16,.cells 0 3 [vi sure']),(24,.cells 0 3 [vi may']),(400,.rowz true 80 kB l.length λi=>QA.enc (l.getD i ⟨0,
  0⟩))]
theorem Qd2(C:List (List QB))(all:Int)(cs l:List QB)(has:Int->Bool)(many sure may:Int)(has':Int->Bool)(many' sure' may':Int):(Vm (mkE prog Qu) (msX prog (msJ x C all (QP f41 0).1 (QP f41 0).2 cs l has many sure may 0) [(True,.exit 0,msE (QP f41 0).1 (QP
  f41 0).2 l has' many' sure' may')]) f80 QFi (QBA x C all (QP f41 0).1 (QP f41 0).2 l has many sure may).hp 392 λv h _=>Yz HE v h) = .br
  ((l.length:Int)==(x.sK.n:Int)) (.need (isI i64 (.int false .i64 (QJ l (-2:Int)))) (.br (decide (i64.wrap ((x.d.ps.n:Int)-i64.wrap ((l.length
  : Int) - toI (.int false .i64 (QJ l (-2 : Int))))) > x.lost)) (.leaf (.bool true true) ((QHy C all has l many may sure x))) (.fail ("a loop")))) (.need (decide ((0 : Int) <=
  (l.length:Int)/\(l.length:Int)<(C.length:Int))&&decide (C.length<=C.length)) (.need (decide (l.length<C.length)) (.ak [0=0,0=0,0=0,0 =
  0,0=0,0=0,0=0,0=0,0=0,0=0,0=0,(QG C l.length).length=cs.length,Cap.of 0=Cap.of 0] (.ask
  ((↑(QG C l.length).length:Int)=(cs.length:Int)) (.ak [(0:Int)=0,cs.length<=(QG C l.length).length,QC 2 cs.length (λj=>QA.enc ((QG C
  l.length).getD j ⟨0,0⟩)) λi=>QA.enc (cs.getD i ⟨0,0⟩),0=0,l.length=l.length,Cap.of 0=Cap.of 0,l.length<=l.length,QC 2
  l.length (λi=>QA.enc (l.getD i ⟨0,0⟩)) λi=>QA.enc (l.getD i ⟨0,0⟩),Ka (.int true .i64 0) (.int true .i64 0) has has (λi=>.int false .i64 (QJ l i))
  λi=>.int false .i64 (QJ l i),LoopState.ready=LoopState.ready,(none:Option Code)=none,Array.mk [(12:Tmp)]=Array.mk [(12:Tmp)]] (.ask
  ((QP f41 0).1=(QP f41 0).1) (.ak [(QP f41 0).2=(QP f41 0).2,0=0,0=0,(0:Int)=0,Fn.func (44:FuncId)
  = Fn.func (44:FuncId)] (.ak (rz 10) (.ak [(0:Int)
  = 0,false=false,0=0,0=0,0=0,0=0,Fn.func (79:FuncId)=Fn.func (79:FuncId),0=0,0=0,many =
  many,(0:Int)=0,sure=sure,may=may,Fn.func (80:FuncId)=Fn.func (80:FuncId),0=0,0=0,0=0,0=0] (.ask
  (0=0) (.ak [0=0,0=0,0=0,0=0,0=0,0=0,0=0,Fn.func (44:FuncId)=Fn.func (44:FuncId),0=0] (.ask
  (0=0) (.ak [0=0,0=0,0=0,0=0,all=all,x.d.pK.length=x.d.pK.length,x.d.pK.aK=x.d.pK.aK] (.ask
  (x.d.pK.oK=x.d.pK.oK) (.ask (x.d.pK.dK.lo=x.d.pK.dK.lo) (.ask (x.d.pK.dK.hi=x.d.pK.dK.hi) (.ask (x.d.wide=x.d.wide) (.ask (x.d.high=x.d.high)
  (.ak [x.d.turn=x.d.turn,0=0,x.d.ps.n=x.d.ps.n,Cap.of 0=Cap.of 0,0=0,x.sK.n=x.sK.n,Cap.of 0=Cap.of 0,0 =
  0,x.hang.n=x.hang.n,Cap.of 0=Cap.of 0,x.lost=x.lost,x.fK=x.fK,0=0,C.length=C.length,Cap.of 0=Cap.of
  0,C.length=C.length,Q1 2 C.length (λi=>(QG C i).length) (λi=>(QG C i).length) (λi j=>QA.enc ((QG C i).getD j ⟨0,0⟩)) λi j=>
  QA.enc ((QG C i).getD j ⟨0,0⟩),x.d.ps.n<=x.d.ps.n,QC 28 x.d.ps.n (λi=>QA.enc (x.d.ps.get i)) λi=>QA.enc (x.d.ps.get i),x.sK.n <=
  x.sK.n,QC 28 x.sK.n (λi=>QA.enc (x.sK.get i)) λi=>QA.enc (x.sK.get i),x.hang.n<=x.hang.n,QC 4 x.hang.n (λi=>QA.enc
  (x.hang.get i)) λi=>QA.enc (x.hang.get i)] (.asm (True) (.all (λ(g0:Nat->Value)=>.leaf (.bool true true) ((QPE has' l many' may'
  sure')))))))))))))))))))))))):=by kernel_rfl
theorem QfC(C:List (List QB))(all:Int)(l:List QB)(has:Int->Bool)(many sure may:Int)(has':Int->Bool)(many' sure' may':Int):QI 392 [(.bool true true)] ((QPE has' l many' may' sure')) (Kb (msU x C all (QP f41 0).1 (QP f41 0).2 l has many sure may has' many' sure' may'))=(some ([true=true,0=0,l.length=l.length,cO=cO,l.length<=l.length,QC 2 l.length (λi=>QA.enc (l.getD i ⟨0,0⟩)) λi=>QA.enc (l.getD i ⟨0,0⟩), Ka (vj 0) (vj 0) has' has' (λi=>vi (QJ l i)) λi=>vi (QJ l i),LoopState.ready=LoopState.ready,(none:Option Code)=none,Array.mk [12]=Array.mk [(12:Tmp)],(QP f41 0).1=(QP f41 0).1,(QP f41 0).2=(QP f41 0).2,0=0,0=0,(0:Int)=0, Fn.func (44:FuncId)=Fn.func (44:FuncId)]++WZ++WZ++[0=0,0=0,(0:Int)=0,false=false]++WZ++[Fn.func (79:FuncId)=Fn.func (79:FuncId),0=0,0=0,many'=many',(0:Int)=0,sure'=sure',may'=may'])):=by kernel_rfl
noncomputable abbrev ZD:Code:=(QP f41 0).1
noncomputable abbrev Y8:Code:=(QP f41 0).2
theorem YU(N M k nid:Nat)(h:N<=M+k):JR N M nid (M+k)=nid+k:=by
 have:Nat.blt (M+k) N=false:=j6 (by omega)
 simp only[JR,this];omega
theorem zZ{N M i:Nat}(h:i<N)(nid:Nat):JR N M nid i=i:=by
 simp only[JR,j5 h]
structure YH (x:QD) (C:List (List QB)):Prop where
 n:C.length=x.sK.n
 le:∀ i,(QG C i).length<=1000
 s:∀ i,∀ c∈QG C i,K8 c
theorem zx{α:Type}{l:List α}{i:Nat}{z:α}(h:i<l.length):l.getD i z∈l:=by
 rw[List.getD_eq_getElem?_getD,List.getElem?_eq_getElem h];exact List.getElem_mem h
theorem QED{l:List QB}(hp:0<l.length)(hl:l.length<=1000)(h:∀ c∈l,K8 c):vz l:=⟨hp,hl,λi hi=>h _ (zx hi)⟩
theorem QOI{l:List QB}(hl:l.length<=1000)(h:∀ c∈l,K8 c):jd l:=⟨hl,λi hi=>by
 have:=(h _ (zx (z:=⟨0,0⟩) hi)).cell;omega⟩
theorem QBo{x:QD}{l:List QB}(h1:x.d.ps.n<=1000)(h2:l.length<=1000):decide (i64.wrap ((x.d.ps.n:Int)-i64.wrap ((l.length:Int)-QJ l (-2)))>x.lost)=YF x l:=by
 have a1:=jC l (-2);have a2:=j7 l (-2);rw[show i64.wrap ((l.length:Int)-QJ l (-2))=(l.length:Int)-QJ l (-2)from w64 (by omega) (by omega),show i64.wrap ((x.d.ps.n:Int)-((l.length:Int)-QJ l (-2)))=(x.d.ps.n:Int)-((l.length:Int)-QJ l (-2))from w64 (by omega) (by omega)]
 rfl
theorem QOc(C:List (List QB))(all:Int)(ac body:Code)(l:List QB)(has:Int->Bool)(many sure may:Int)(has':Int->Bool)(many' sure' may':Int):(msU x C all ac body l has many sure may has' many' sure' may').Ok:=by
 refine⟨(by decide:376<=392),rfl,rfl,?_,rfl,λ_ _=>rfl,λnid h=>?_⟩
 .intro q hq;simp only[UC.po,msU,msW,rwL,List.mem_cons,List.not_mem_nil,or_false]at hq;rcases hq with rfl|rfl|rfl|rfl|rfl|rfl|rfl|rfl<;>refine⟨rfl,rfl,rfl,?_⟩<;>first|exact λ_=>rfl|exact λh=>absurd (show 392<376 from h) (by decide)
 .have e0:=YU 376 392 0 nid (by decide)
  simp only[UC.po,msU,msW,rwL,QBA,msT,List.map_cons,List.map_nil,Blk.mapId,AV.mapId,AV.mapIdL,Nat.add_zero]at e0 ⊢;rw[e0];rfl
theorem HK(T:Tab)(hT:QZ T)(G:Ctx)(hrd:G.rd=none):Q8 (mkE prog T) G (msN prog T) (Qi f80):=
 Kg (body:=QT f80 0) (QL hT) hrd (by kernel_rfl) (λ_ _ _ _ _ _ _ h _ _=>h.elim)
theorem QeP{x:QD}(hx:Kx x)(C:List (List QB))(all:Int){l:List QB}(hn:l.length=x.sK.n)(hl:∀ c∈l,K8 c)(s:MsS)(h:Int->Bool):QO prog 80 (uFC (WX x C all ZD Y8 l h s (J4 x (msY all) l s h))):=by
 obtain⟨many,sure,may⟩:=s;have hs:=hx.s;have hd:=hx.d.n9;have hT:QZ (GP QV (mmU l 0 sure may all (Ku l l.length))):=KC.add (QTk l 0 sure may all (QOI (by omega) hl))
 have fin:∀(s':MsS),XU (jv (msU x C all ZD Y8 l h many sure may h s'.1 s'.2.1 s'.2.2)) (Js (mkE prog (GP QV (mmU l 0 sure may all (Ku l l.length)))) (msN prog (GP QV (mmU l 0 sure may all (Ku l l.length)))) f80 (msU x C all ZD Y8 l h many sure may h s'.1 s'.2.1 s'.2.2))->QO prog 80 (uFC (msU x C all ZD Y8 l h many sure may h s'.1 s'.2.1 s'.2.2)):=λs' hd=>
  JT (E:=mkE prog (GP QV (mmU l 0 sure may all (Ku l l.length)))) (QL hT) func80 (by kernel_rfl) (by kernel_rfl) (QOc ..) (λG h1 _=>HK _ hT G h1) ⟨hd⟩
 have he:=QBo (x:=x) (l:=l) (by omega) (by omega)
 cases hb:YF x l with
 | true=>
  rw[hb]at he;simp only[J4,hb,WX];refine fin (many,sure,may) (Qp (QLg QV x C all l h many sure may (Ku l l.length)) ?_);refine QH (λ_=>QF rfl (QH (λ_=>?_) (λq=>Bool.noConfusion (show true=false from he.symm.trans q)))) (λq=>by rw[hn]at q;simp at q)
  refine⟨rfl,rfl,_,Qg3 x C all l h many sure may,?_⟩
  repeat' first|with_reducible refine QK ?_ ?_|exact tv|exact K7 _ _ _|refine aI ?_ ?_
 | false=>
  rw[hb]at he;simp only[J4,hb,msY,WX];refine fin (i64.wrap (many+1),VR sure (Ku l l.length),orN may (VR all (Ku l l.length))) (Qp (QLg QV x C all l h many sure may (Ku l l.length)) ?_);refine QH (λ_=>QF rfl (QH (λq=>Bool.noConfusion (show true=false from q.symm.trans he)) (λ_=>QF (KP.2 ?_) ?_))) (λq=>by rw[hn]at q;simp at q)
  .repeat' first|with_reducible refine QK ?_ ?_|exact tv|refine aI ?_ ?_
  refine⟨rfl,rfl,_,QYg x C all l h many sure may (Ku l l.length) _ _ _,?_⟩
  repeat' first|with_reducible refine QK ?_ ?_|exact tv|exact K7 _ _ _|exact(show _=VR _ _ from rfl)|exact(show _=orN _ _ from rfl)|refine aI ?_ ?_
theorem QXG{x:QD}(hx:Kx x){C:List (List QB)}{all:Int}{ac body:Code}{cs l:List QB}(hl:l.length<1000)(hls:∀ c∈l,K8 c)(hcs:∀ c∈cs,K8 c)(IH:∀ c∈cs,∀ s h,QO prog 80 (uFC (WX x C all ac body (l++[c]) h s (ZE x C all d l s h c))))(t:MsK):(j9 prog x C all ac body d cs l t).Sound:=by
 unfold j9 kPb;split
 .rename_i hk;have hk:=qdt hk;have hm:=zx (z:=(⟨0,0⟩:QB)) hk;refine Ws ((KC.add (QCz x C _ hx (QED (by simp) (by simp;omega) ?_))).add (IH _ hm _ _))
  intro c hc;rcases List.mem_append.1 hc with h|h
  .exact hls c h
  .rw[List.mem_singleton.1 h];exact hcs _ hm
 .exact Ws ((KC.add (Zm (by kernel_rfl) _)).add (Zm (by kernel_rfl) _))
theorem QcY{x:QD}(hx:Kx x){C:List (List QB)}(hC:YH x C){all:Int}{ac body:Code}{l:List QB}(hl:l.length+(d+1)=x.sK.n)(hls:∀ c∈l,K8 c)(IH:∀ c∈QG C l.length,∀ s h,QO prog 80 (uFC (WX x C all ac body (l++[c]) h s (ZE x C all d l s h c))))(s:MsS)(h:Int->Bool){X:List (Prop×Ex×JSt)}(hX:∀ e J,qD x C all ac body d (QG C l.length) l (0,s,h) e J->∃ y∈X,y.1/\y.2.1=e/\y.2.2=J)(G:Ctx)(hrd:G.rd=none)(hG:G.n=392):
  Q8 (mkE prog Qu) G (msX prog (msJ x C all ac body (QG C l.length) l h s.1 s.2.1 s.2.2 0) X) (Qi f80):=by
 have hs:=hx.s;refine Kg (body:=QT f80 0) (QL KC) hrd (by kernel_rfl) ?_
 have hE:=λt=>QXG hx (C:=C) (all:=all) (ac:=ac) (body:=body) (d:=d) (cs:=QG C l.length) (l:=l) (by omega) hls (hC.s _) IH t
 refine vo (E0:=mkE prog Qu) (E:=j9 prog x C all ac body d (QG C l.length) l) (H:=λt=>hnd (j9 prog x C all ac body d (QG C l.length) l t) 0) (n0:=392) (s0:=(0,s,h)) (λ_=>rfl) hE (by omega) (λt _=>Qw (hE t) 0 G _ hrd) (λt _=>(by decide:392<=424)) ?_ (QT7 x C all ac body d (QG C l.length) l (hC.le _) (by omega)) (Nat.zero_le _) hX
 intro t e J hr;unfold qD at hr;split at hr
 .rw[hr.2];exact(by decide:392<=424)
 .exact hr.elim
theorem Qak{x:QD}(hx:Kx x){C:List (List QB)}(hC:YH x C){all:Int}{l:List QB}(hl:l.length+(d+1)=x.sK.n)(hls:∀ c∈l,K8 c)(IH:∀ c∈QG C l.length,∀ s h,QO prog 80 (uFC (WX x C all ZD Y8 (l++[c]) h s (ZE x C all d l s h c))))(s:MsS)(h:Int->Bool):QO prog 80 (uFC (WX x C all ZD Y8 l h s (onT x C (msY all) (d+1) l s h))):=by
 obtain⟨s',h',he⟩:=Z8 (C:=C) (x:=x) (Y:=msY all) (λ_ _=>rfl) (d+1) l s h;rw[he];have hc:J2 (Ki x l (ZE x C all d l)) (QG C l.length) s h = .go s' h':=he;have hCn:=hC.n;refine JT (E:=mkE prog Qu) (QL KC) func80 (by kernel_rfl) (by kernel_rfl) (QOc ..) (QcY hx hC hl hls IH s h (X:=[(True,.exit 0,msE ZD Y8 l h' s'.1 s'.2.1 s'.2.2)]) ?_) ⟨?_⟩
 .intro e J hr;unfold qD at hr;simp only[List.drop_zero,hc]at hr;exact⟨_,qmc,trivial,hr.1.symm,hr.2.symm⟩
 .refine Qp (Qd2 x C all (QG C l.length) l h s.1 s.2.1 s.2.2 h' s'.1 s'.2.1 s'.2.2) ?_;refine QH (λq=>by simp at q;omega) (λ_=>QF (by simp;omega) (QF (by simp;omega) ?_))
  repeat' first|refine QX (p:=_=_) rfl ?_|refine QX (p:=_<=_) (qlr _) ?_|refine QX (p:=QC _ _ _ _) (qRr) ?_|refine QX (p:=Q1 _ _ _ _ _ _) (QS _ _ _ _) ?_|refine QX (p:=Ka _ _ _ _ _ _) (K7 _ _ _) ?_
  refine KB λ_=>Q7 λg=>⟨rfl,rfl,_,QfC x C all l h s.1 s.2.1 s.2.2 h' s'.1 s'.2.1 s'.2.2,?_⟩
  repeat' first|with_reducible refine QK ?_ ?_|exact tv|exact K7 _ _ _|refine aI ?_ ?_
theorem QOK{x:QD}(hx:Kx x){C:List (List QB)}(hC:YH x C)(all:Int):∀(d:Nat) (l:List QB) (s:MsS) (h:Int->Bool),l.length+d=x.sK.n->(∀ c∈l,K8 c)->QO prog 80 (uFC (WX x C all ZD Y8 l h s (onT x C (msY all) d l s h)))
 | 0,l,s,h,hn,hl=>QeP hx C all (by omega) hl s h
 | d+1,l,s,h,hn,hl=>Qak hx hC (by omega) hl (λc hc s h=>QOK hx hC all d (l++[c]) s h (by simp;omega) (λy hy=>by
   rcases List.mem_append.1 hy with q|q
   .exact hl y q
   .rw[List.mem_singleton.1 q];exact hC.s _ c hc)) s h
