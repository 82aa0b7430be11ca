/- - -/
import Derived.Test.YtbpffdkemeoajaaMxy
open Go.IntKind (i64)
set_option maxRecDepth 100000
namespace Go.Proofs.Ytbpffdkemeoajaa
open Go.SX
def Qi(fn:Func)(k:Nat):Code×Code:=match (Kg (Qq fn))[k]? with
 | some (.rangeFunc _ _ ac body)=>(ac,body)
 | _=>(.skip,.skip)
def srK(c:Nat)(x:QD)(C:List (List QC)):List AV:=JR 0 x++[.slz c 0 C.length (.of 0)]
def msT:List AV:=[.ptr 48 0 0,.int true .i64 0,.fn (.func 54) [.ptr 16 0 0,.ptr 24 0 0,.ptr 160 0 0],.tup [],.ptr 208 0 0,.ptr 216 0 0,.int true .i64 0,.bool true false,.ptr 240 0 0,.tup [],.ptr 48 0 0,.fn (.func 76) [.ptr 264 0 0],.tup [],.tup [],.tup [],.tup [],.tup [],.tup [],.tup [],.tup [],.tup [],.tup []]
def QCR:List AV:=[.ptr 336 0 0,.ptr 264 0 0,.ptr 320 0 0,.ptr 304 0 0,.ptr 344 0 0]
variable {d:Nat}(C:List (List QC))(all:Int)(x:QD)(ac body:Code)(cs:List QC)(k:Nat)(l:List QC)(has has':Int→Bool)(many:Int)
def msR(C:List (List QC))(all:Int):List (Nat×Blk):=
 [(344,.cellsR 0 34 [.fn (.func 77) QCR]),(320,.cellsR 0 63 [.map 312]),(304,.cellsR 0 123 [.yld 297]),(264,.cellsR 0 89 [.ptr 48 0 0]),(216,.cellsR 0 101 [.fn (.func 54) [.ptr 16 0 0,.ptr 24 0 0,.ptr 160 0 0]]),(160,.cellsR 0 3 [.int false .i64 all]),(48,.cellsR 0 125 (srK 49 x C)),Y5 false 49 C]++JP 0 x
def msW(a:Nat)(has:Int→Bool)(many sure may:Int):List (Nat×Blk):=
 [(336,.cells 0 38 [.slz a 0 l.length (.of 0)]),rwL a l,(312,.mpf .i64 (.int true .i64 0) has fun i => .int false .i64 (QM l i)),(297,.lp .ready none msT #[12] ac body),(240,.cells 0 3 [.int false .i64 many]),(208,.cells 0 3 [.int false .i64 0]),(16,.cells 0 3 [.int false .i64 sure]),(24,.cells 0 3 [.int false .i64 may])]
def H7(C:List (List QC))(all:Int)(ac body:Code)(l:List QC)(has:Int→Bool)(many sure may:Int):JSt:=
 ⟨5,[(0,.ptr 336 0 0),(1,.ptr 264 0 0),(2,.ptr 320 0 0),(3,.ptr 304 0 0),(4,.ptr 344 0 0)],msW ac body l 384 has many sure may++msR x C all,392⟩
def Wl(pb:List Prop→Bool)(U:UC):Tab:=Qb Qy 54 (VD pb U)
def msU(C:List (List QC))(all:Int)(ac body:Code)(l:List QC)(has:Int→Bool)(many sure may:Int)(has':Int→Bool)(many' sure' may':Int):UC:=
 ⟨376,H7 x C all ac body l has many sure may,fun _ => .bool false true,fun m=>msW ac body l m has' many' sure' may'⟩
def qq(pb1 pb2:List Prop→Bool)(x:QD)(C:List (List QC))(l:List QC)(U:UC):Tab:=Qb (Qb Qy 78 (VD pb1 (ftU x C l))) 77 (VD pb2 U)
def msJ(C:List (List QC))(all:Int)(ac body:Code)(cs l:List QC)(has:Int→Bool)(many sure may:Int)(k:Nat):JSt:=
 ⟨98,[(0,.ptr 336 0 0),(1,.ptr 264 0 0),(2,.ptr 320 0 0),(3,.ptr 304 0 0),(4,.ptr 344 0 0),(48,.slz 408 0 cs.length (.of 0)),(49,.int false .i64 cs.length),(50,.int false .i64 k)],
  (408,.frz [.int .i64,.int .i64] cs.length fun i=>QA.enc (cs.getD i ⟨0,0⟩))::msW ac body l 400 has many sure may++msR x C all,424⟩
def msE(many sure may:Int):JSt:=⟨98,[],msW ac body l 400 has many sure may,424⟩
def HK:Ex→List Nat
 | .normal=>[0,1,2,3,4,48,49,50]
 | .exit _=>[]
 | .ret=>[5]
def vk:List Nat:=[336,312,297,240,208,16,24]
noncomputable abbrev QBe:List AV:=
  [.nilp,.ptr 98 0 0,.ptr 336 0 0,.ptr 264 0 0,.ptr 320 0 0,.ptr 304 0 0,.ptr 344 0 0,.slz 408 0 cs.length cO,vi (cs.length:Int),.int false .i64
  (i64.wrap ((k:Int)+1))]
noncomputable abbrev vW:Nat×Blk:=
  (297,.lp LoopState.ready none msT (Array.mk [12]) ac body)
noncomputable abbrev zJ:Nat×Blk:=
  (208,.cells 0 3 [vi 0])
noncomputable abbrev vA:Nat×Blk:=
  (264,.cellsR 0 89 [.ptr 48 0 0])
noncomputable abbrev QDn:Nat×Blk:=
  (344,.cellsR 0 34 [.fn (Fn.func 77) [.ptr 336 0 0,.ptr 264 0 0,.ptr 320 0 0,.ptr 304 0 0,.ptr 344 0 0]])
noncomputable abbrev QBD:Nat×Blk:=
  (408,.frz [.int .i64,.int .i64] cs.length fun i=>QA.enc (cs.getD i ⟨0,0⟩))
noncomputable abbrev js:Nat×Blk:=
  (48,.cellsR 0 125 [vi x.d.play.length,vi x.d.play.slack,vi x.d.play.loose,vi x.d.play.damp.lo,.int false .i64
  x.d.play.damp.hi,vi x.d.wide,vi x.d.high,.bool false x.d.turn,.slz 0 0 x.d.ps.n cO,.slz 1 0 x.scans.n cO,.slz 2 0 x.hang.n (Cap.of
  0),vi x.lost,vi x.foreign,.slz 49 0 C.length cO])
noncomputable abbrev vq:Nat×Blk:=
  (160,.cellsR 0 3 [vi all])
noncomputable abbrev vx:Nat×Blk:=
  (216,.cellsR 0 101 [.fn (Fn.func 54) [.ptr 16 0 0,.ptr 24 0 0,.ptr 160 0 0]])
abbrev Xt:List CK:=
  [.int .i64,.int .i64,.int .i64,.int .i64,.int .i64,.int .i64,.int .i64,.int .i64,.int .i64,.int .i64,.int .i64,.int .i64,.int .i64,.int .i64,.int .i64,.int .i64,.int
  .i64,.int .i64,.int .i64,.int .i64,.int .i64,.int .i64,.int .i64,.int .i64,.int .i64,.int .i64,.int .i64,.int .i64]
noncomputable abbrev jt:Nat×Blk:=
  (2,.frz [.int .i64,.int .i64,.int .i64,.int .i64] x.hang.n fun i=>QA.enc (x.hang.get i))
noncomputable abbrev zL:Nat×Blk:=
  (49,.frz2 false 38 [.int .i64,.int .i64] C.length (fun i=>(QN C i).length) fun i j=>QA.enc ((QN C i).getD j ⟨0,0⟩))
noncomputable abbrev QMd(all:Int)(body:Code)(cs:List QC)(has:Int→Bool)(l:List QC)(many:Int)(may:Int)(sure:Int)(x:QD):List (Nat×Blk):=
  [(336,.cells 0 38 [.slz 400 0 l.length cO]),(312,.mpf i64 (.int true .i64 0) has fun i => .int false .i64 (QM l i)),(vW ac body),(240,.cells 0 3 [.int
  false .i64 many]),zJ,(16,.cells 0 3 [vi sure]),(24,.cells 0 3 [vi may]),vA,(320,.cellsR 0 63 [.map 312]),(304,.cellsR 0 123 [.yld 297]),
  QDn,(QBD cs),(400,.rowz true 56 [.int .i64,.int .i64] l.length fun i=>QA.enc (l.getD i ⟨0,0⟩)),(js C x),(vq all),vx,(0,.frz Xt x.d.ps.n fun i=>QA.enc
  (x.d.ps.get i)),(1,.frz Xt x.scans.n fun i=>QA.enc (x.scans.get i)),(jt x),(zL C)]
noncomputable abbrev Gr:List AV:=
  [vi (cs.getD k ⟨0,0⟩).cell,vi (cs.getD k ⟨0,0⟩).turn]
noncomputable abbrev QGb(all:Int)(body:Code)(cs:List QC)(has:Int→Bool)(k:Nat)(l:List QC)(many:Int)(may:Int)(sure:Int)(x:QD):List (Nat×Blk):=
  [(336,.cells 0 38 [.slz 1112 0 (i64.wrap ((↑(l.length+1):Int)-1)).toNat cO]),(312,.mpf i64 (.int true .i64 0) (Qp (cs.getD k ⟨0,0⟩).cell true
  (Qp (cs.getD k ⟨0,0⟩).cell true has)) (KH (cs.getD k ⟨0,0⟩).cell (.int false .i64 (i64.wrap (toI (Bool.rec ((fun _=>(fun i => .int false .i64 (QM l i)) ((fun i=>
  QA.enc (cs.getD i ⟨0,0⟩)) ((k:Int).toNat+0) 0)) ()) ((fun _ => .int false .i64 (i64.wrap (toI ((fun i => .int false .i64 (QM l i)) ((fun i=>QA.enc (cs.getD i
  ⟨0,0⟩)) ((k:Int).toNat+0) 0))+1))) ()) (decide ((fun i=>QA.enc (cs.getD i ⟨0,0⟩)) ((k:Int).toNat+0) 0=(fun i=>QA.enc (cs.getD i ⟨0,0⟩)) ((k:Int).toNat+0)
  0)))-1))) (KH (cs.getD k ⟨0,0⟩).cell (.int false .i64 (i64.wrap (toI (.int false .i64 (QM l (cs.getD k ⟨0,0⟩).cell))+1))) fun i => .int false .i64 (QM l i)))),
  (vW ac body),(240,.cells 0 3 [vi many]),zJ,(16,.cells 0 3 [vi sure]),(24,.cells 0 3 [vi may]),vA,(320,.cellsR 0 63 [.map
  312]),(304,.cellsR 0 123 [.yld 297]),QDn,(QBD cs),(1112,.rowz true 56 [.int .i64,.int .i64] (l.length+1) (QP l.length (fun i=>QA.enc (l.getD i ⟨0,0⟩)) (QJ
  [(Gr cs k)] 0))),(js C x),(vq all),vx,(0,.frz Xt x.d.ps.n fun i=>QA.enc (x.d.ps.get i)),(1,.frz Xt x.scans.n fun i=>QA.enc (x.scans.get i)),(jt x),
  (zL C)]
noncomputable abbrev QFn(k:Nat)(l2:List QC):Nat×Blk:=
  (312,.mpf i64 (.int true .i64 0) (Qp (cs.getD k ⟨0,0⟩).cell true has') (KH (cs.getD k ⟨0,0⟩).cell (.int false .i64 (i64.wrap (toI (.int false .i64 (QM l2
  (cs.getD k ⟨0,0⟩).cell))-1))) fun i => .int false .i64 (QM l2 i)))
noncomputable abbrev QEe(all:Int)(body:Code)(cs:List QC)(has':Int→Bool)(k:Nat)(l2:List QC)(many':Int)(may':Int)(sure':Int)(x:QD):List (Nat×Blk):=
  [(336,.cells 0 38 [.slz 1224 0 (i64.wrap ((l2.length:Int)-1)).toNat cO]),(QFn cs has' k l2),(vW ac body),(240,.cells 0 3 [vi many']),
  zJ,(16,.cells 0 3 [vi sure']),(24,.cells 0 3 [vi may']),vA,(320,.cellsR 0 63 [.map 312]),(304,.cellsR 0 123 [.yld 297]),QDn,(QBD cs),
  (1224,.rowz true 56 [.int .i64,.int .i64] l2.length fun i=>QA.enc (l2.getD i ⟨0,0⟩)),(js C x),(vq all),vx,(0,.frz Xt x.d.ps.n fun i=>QA.enc (x.d.ps.get i)),
  (1,.frz Xt x.scans.n fun i=>QA.enc (x.scans.get i)),(jt x),(zL C)]
noncomputable abbrev QFo(all:Int)(body:Code)(has:Int→Bool)(l:List QC)(many:Int)(may:Int)(sure:Int)(x:QD):List (Nat×Blk):=
  [(336,.cells 0 38 [.slz 400 0 l.length cO]),(312,.mpf i64 (.int true .i64 0) has fun i => .int false .i64 (QM l i)),(vW ac body),(240,.cells 0 3 [.int
  false .i64 many]),zJ,(16,.cells 0 3 [vi sure]),(24,.cells 0 3 [vi may]),(400,.rowz true 56 [.int .i64,.int .i64] l.length fun i=>QA.enc
  (l.getD i ⟨0,0⟩)),(js C x),(vq all),vx,vA,(0,.frz Xt x.d.ps.n fun i=>QA.enc (x.d.ps.get i)),(1,.frz Xt x.scans.n fun i=>QA.enc (x.scans.get i)),
  (jt x),(zL C)]
theorem QQL(pb1 pb2:List Prop→Bool)(x:QD)(C:List (List QC))(all:Int)(ac body:Code)(cs l l2:List QC)(has has2:Int→Bool)(many sure may:Int)(k:Nat)(has':Int→Bool)(many' sure' may':Int)(g:Nat→Value):exec (mkC Try.prog (qq pb1 pb2 x C l2 (msU x C all ac body l2 has2 many sure may has' many' sure' may'))) (hnd (mkC Try.prog (qq pb1 pb2 x C l2 (msU x C all ac body l2 has2
  many sure may has' many' sure' may'))) 0) (QZ Try.f77 0) (JSt.inst (msJ x C all ac body cs l has many sure may k) g) (KW vk HK) = .br (decide ((k:Int)<(cs.length :
  Int))) (.need (decide ((0:Int)≤(k:Int)∧(k:Int)<(cs.length:Int))&&decide (cs.length≤cs.length)) (.need (decide (k<cs.length)) (.all (fun(g0:Nat→Value)=>
  .need (isI i64 (.int false .i64 (QM l (cs.getD k ⟨0,0⟩).cell))) (.br (decide (toI (.int false .i64 (QM l (cs.getD k ⟨0,0⟩).cell))≥bif (cs.getD k ⟨0,0⟩).cell == -2
  then x.foreign else (1:Int))) (.leaf (.tup (QBe cs k)) ((QMd C ac all body cs has l many may sure x))) (.need (decide (l.length≤l.length)&&(true&&decide ((l.length+1 +
  (l.length+1) / 4+192)*16≤281474976710656∧l.length+1≤9223372036854775807))) (.need (isI i64 (.int false .i64 (QM l (cs.getD k ⟨0,0⟩).cell))) (.need (pb1 ([0
  = 0,0=0,0=0,l.length+1=l2.length,cO=cO,l2.length≤l.length+1,QE 2 l2.length (QP l.length (fun i=>QA.enc (l.getD i ⟨0,0⟩)) (QJ [(Gr cs
  k)] 0)) fun i=>QA.enc (l2.getD i ⟨0,0⟩),x.d.play.length=x.d.play.length,x.d.play.slack=x.d.play.slack,x.d.play.loose=x.d.play.loose,x.d.play.damp.lo =
  x.d.play.damp.lo,x.d.play.damp.hi=x.d.play.damp.hi,x.d.wide=x.d.wide,x.d.high=x.d.high,x.d.turn=x.d.turn,0=0,x.d.ps.n=x.d.ps.n,cO=cO,0=0,
  x.scans.n=x.scans.n,cO=cO,0=0,x.hang.n=x.hang.n,cO=cO,x.lost=x.lost,x.foreign=x.foreign,0=0,C.length=C.length,cO=cO,
  C.length=C.length,Ku 2 C.length (fun i=>(QN C i).length) (fun i=>(QN C i).length) (fun i j=>QA.enc ((QN C i).getD j ⟨0,0⟩)) fun i j=>QA.enc ((QN C
  i).getD j ⟨0,0⟩),x.d.ps.n≤x.d.ps.n,QE 28 x.d.ps.n (fun i=>QA.enc (x.d.ps.get i)) fun i=>QA.enc (x.d.ps.get i),x.scans.n≤x.scans.n,QE 28 x.scans.n (fun i=>
  QA.enc (x.scans.get i)) fun i=>QA.enc (x.scans.get i),x.hang.n≤x.hang.n,QE 4 x.hang.n (fun i=>QA.enc (x.hang.get i)) fun i=>QA.enc (x.hang.get i)])) (.br
  (!JB x l2) (.need (isI i64 (Bool.rec ((fun _=>(fun i => .int false .i64 (QM l i)) ((fun i=>QA.enc (cs.getD i ⟨0,0⟩)) ((k:Int).toNat+0) 0)) ()) ((fun _=>
  .int false .i64 (i64.wrap (toI ((fun i => .int false .i64 (QM l i)) ((fun i=>QA.enc (cs.getD i ⟨0,0⟩)) ((k:Int).toNat+0) 0))+1))) ()) (decide ((fun i=>
  QA.enc (cs.getD i ⟨0,0⟩)) ((k:Int).toNat+0) 0=(fun i=>QA.enc (cs.getD i ⟨0,0⟩)) ((k:Int).toNat+0) 0)))) (.need (decide ((0:Int)≤i64.wrap ((↑(l.length +
  1):Int)-1)∧(i64.wrap ((↑(l.length+1):Int)-1)).toNat≤l.length+1-0)) (.leaf (.tup (QBe cs k)) ((QGb C ac all body cs has k l many may sure x))))) (.need
  (pb2 ([0=0,0=0,0=0,0=0,0=0,0=0,0=0,0=0,0=0,0=0,0=0,l.length+1=l2.length,cO=cO,l2.length≤l.length+1,QE 2 l2.length
  (QP l.length (fun i=>QA.enc (l.getD i ⟨0,0⟩)) (QJ [(Gr cs k)] 0)) fun i=>QA.enc (l2.getD i ⟨0,0⟩),K8 (.int true .i64 0) (.int true .i64 0) (Qp (cs.getD k ⟨0,
  0⟩).cell true has) has2 (KH (cs.getD k ⟨0,0⟩).cell (.int false .i64 (i64.wrap (toI (.int false .i64 (QM l (cs.getD k ⟨0,0⟩).cell))+1))) fun i => .int false .i64
  (QM l i)) fun i => .int false .i64 (QM l2 i),LoopState.ready=LoopState.ready,(none:Option Code)=none,Array.mk [12]=Array.mk [12],ac=ac,body=body,0=0,0=0,
  (0:Int)=0,Fn.func 54=Fn.func 54,0=0,0=0,0=0,0=0,0=0,0=0,0=0,0=0,0=0,0=0,(0:Int)=0,false=false,0=0,0=0,0=0,0=0,Fn.func 76 =
  Fn.func 76,0=0,0=0,many=many,(0:Int)=0,sure=sure,may=may,Fn.func 77=Fn.func 77,0=0,0=0,0=0,0=0,0=0,0=0,0=0,0=0,0=0,0=0,0=0,0
  = 0,Fn.func 54=Fn.func 54,0=0,0=0,0=0,0=0,0=0,0=0,all=all,x.d.play.length=x.d.play.length,x.d.play.slack=x.d.play.slack,x.d.play.loose =
  x.d.play.loose,x.d.play.damp.lo=x.d.play.damp.lo,x.d.play.damp.hi=x.d.play.damp.hi,x.d.wide=x.d.wide,x.d.high=x.d.high,x.d.turn=x.d.turn,0=0,x.d.ps.n=x.d.ps.n,
  cO=cO,0=0,x.scans.n=x.scans.n,cO=cO,0=0,x.hang.n=x.hang.n,cO=cO,x.lost=x.lost,x.foreign=x.foreign,0=0,C.length =
  C.length,cO=cO,C.length=C.length,Ku 2 C.length (fun i=>(QN C i).length) (fun i=>(QN C i).length) (fun i j=>QA.enc ((QN C i).getD j ⟨0,0⟩)) fun
  i j=>QA.enc ((QN C i).getD j ⟨0,0⟩),x.d.ps.n≤x.d.ps.n,QE 28 x.d.ps.n (fun i=>QA.enc (x.d.ps.get i)) fun i=>QA.enc (x.d.ps.get i),x.scans.n≤x.scans.n,
  QE 28 x.scans.n (fun i=>QA.enc (x.scans.get i)) fun i=>QA.enc (x.scans.get i),x.hang.n≤x.hang.n,QE 4 x.hang.n (fun i=>QA.enc (x.hang.get i)) fun i=>
  QA.enc (x.hang.get i)])) (.need (isI i64 (.int false .i64 (QM l2 (cs.getD k ⟨0,0⟩).cell))) (.need (decide ((0:Int)≤i64.wrap ((l2.length:Int)-1) ∧
  (i64.wrap ((l2.length:Int)-1)).toNat≤l2.length-0)) (.br (false) (.leaf (.tup [.nili,.ptr 98 0 0,.bool true false]) ([(336,.cells 0 38 [.slz 1224 0
  (i64.wrap ((l2.length:Int)-1)).toNat cO]),(QFn cs has' k l2),(vW ac body),(240,.cells 0 3 [vi many']),zJ,(16,.cells 0 3 [.int false
  .i64 sure']),(24,.cells 0 3 [vi may']),(1224,.rowz true 56 [.int .i64,.int .i64] l2.length fun i=>QA.enc (l2.getD i ⟨0,0⟩)),(js C x),(vq all),vx,
  vA,(0,.frz Xt x.d.ps.n fun i=>QA.enc (x.d.ps.get i)),(1,.frz Xt x.scans.n fun i=>QA.enc (x.scans.get i)),(jt x),(zL C)])) (.leaf (.tup (QBe cs k)) ((QEe
  C ac all body cs has' k l2 many' may' sure' x)))))))))))))))) (.leaf (.tup [.ptr 0 0 0,.ptr 98 0 0]) ((QFo C ac all body has l many may sure x))):=by kernel_rfl
noncomputable abbrev QBB:List AV:=
  [.ptr 336 0 0,.ptr 264 0 0,.ptr 320 0 0,.ptr 304 0 0,.ptr 344 0 0,.slz 408 0 cs.length cO,vi (cs.length:Int),vi (i64.wrap ((k :
  Int)+1))]
abbrev Jq:List Prop:=
  [0=0,0=0,0=0,0=0,0=0,0=0]
abbrev Xc:List Prop:=
  [0=0,0=0,0=0,0=0]
abbrev QCI(k':Nat):List Prop:=
  [0=0,cs.length=cs.length,cO=cO,(cs.length:Int)=(cs.length:Int),i64.wrap ((k:Int)+1)=(k':Int),cs.length≤cs.length,QE 2 cs.length
  (fun i=>QA.enc (cs.getD i ⟨0,0⟩)) fun i=>QA.enc (cs.getD i ⟨0,0⟩),0=0]
abbrev QJ5(l:List QC):List Prop:=
  [cO=cO,l.length≤l.length,QE 2 l.length (fun i=>QA.enc (l.getD i ⟨0,0⟩)) fun i=>QA.enc (l.getD i ⟨0,0⟩),K8 (.int true .i64 0) (.int true .i64 0)
  has has (fun i => .int false .i64 (QM l i)) fun i => .int false .i64 (QM l i),LoopState.ready=LoopState.ready,(none:Option Code)=none,Array.mk [12]=Array.mk [(12 :
  Tmp)],ac=ac,body=body,0=0,0=0,(0:Int)=0,Fn.func (54:FuncId)=Fn.func (54:FuncId)]
abbrev QDw:List Prop:=
  [Fn.func (76:FuncId)=Fn.func (76:FuncId),0=0,0=0,many=many,(0:Int)=0]
abbrev QD2:List Prop:=
  [x.d.play.length=x.d.play.length,x.d.play.slack=x.d.play.slack,x.d.play.loose=x.d.play.loose,x.d.play.damp.lo=x.d.play.damp.lo,x.d.play.damp.hi=x.d.play.damp.hi,
  x.d.wide=x.d.wide,x.d.high=x.d.high,x.d.turn=x.d.turn,0=0,x.d.ps.n=x.d.ps.n,cO=cO,0=0,x.scans.n=x.scans.n,cO=cO,0=0,x.hang.n =
  x.hang.n,cO=cO,x.lost=x.lost,x.foreign=x.foreign,0=0,C.length=C.length,cO=cO,C.length=C.length,Ku 2 C.length (fun i=>(QN C
  i).length) (fun i=>(QN C i).length) (fun i j=>QA.enc ((QN C i).getD j ⟨0,0⟩)) fun i j=>QA.enc ((QN C i).getD j ⟨0,0⟩),x.d.ps.n≤x.d.ps.n,QE 28 x.d.ps.n (fun
  i=>QA.enc (x.d.ps.get i)) fun i=>QA.enc (x.d.ps.get i),x.scans.n≤x.scans.n,QE 28 x.scans.n (fun i=>QA.enc (x.scans.get i)) fun i=>QA.enc (x.scans.get i),
  x.hang.n≤x.hang.n,QE 4 x.hang.n (fun i=>QA.enc (x.hang.get i)) fun i=>QA.enc (x.hang.get i)]
theorem QQi(C:List (List QC))(all:Int)(ac body:Code)(cs l:List QC)(has:Int→Bool)(many sure may:Int)(k k':Nat):QO 392 (QBB cs k) ((QMd C ac all body cs has l many may sure x)) (msJ x C all ac body cs l has many sure may k')=(some (Jq++Xc++(QCI cs k k')++[l.length =
  l.length]++(QJ5 ac body has l)++Jq++Xc++[(0:Int)=0,false=false]++Xc++(QDw many)++[sure=sure,may=may,Fn.func 77=Fn.func (77:FuncId)] ++
  Jq++Jq++[Fn.func 54=Fn.func (54:FuncId)]++Jq++[all=all]++(QD2 C x))):=by kernel_rfl
abbrev QIo:List Prop:=
  [(none:Option Code)=none,Array.mk [12]=Array.mk [(12:Tmp)],ac=ac,body=body,0=0,0=0,(0:Int)=0,Fn.func (54:FuncId)=Fn.func (54:FuncId)]
theorem QP7(x:QD)(C:List (List QC))(all:Int)(ac body:Code)(cs l:List QC)(has h':Int→Bool)(many sure may:Int)(k k':Nat):QO 392 (QBB cs k) ((QGb C ac all body cs has k l many may sure x)) (msJ x C all ac body cs l h' many sure may k')=(some (Jq++Xc++(QCI cs k k') ++
  [(i64.wrap ((↑(l.length+1):Int)-1)).toNat=l.length,cO=cO,l.length≤l.length+1,QE 2 l.length (QP l.length (fun i=>QA.enc (l.getD i ⟨0,
  0⟩)) (QJ [(Gr cs k)] 0)) fun i=>QA.enc (l.getD i ⟨0,0⟩),K8 (.int true .i64 0) (.int true .i64 0) (Qp (cs.getD k ⟨0,0⟩).cell true (Qp (cs.getD k ⟨0,0⟩).cell true
  has)) h' (KH (cs.getD k ⟨0,0⟩).cell (.int false .i64 (i64.wrap (toI (Bool.rec ((fun x=>(fun i => .int false .i64 (QM l i)) ((fun i=>QA.enc (cs.getD i ⟨0,0⟩)) ((k
  : Int).toNat+0) 0)) ()) ((fun x => .int false .i64 (i64.wrap (toI ((fun i => .int false .i64 (QM l i)) ((fun i=>QA.enc (cs.getD i ⟨0,0⟩)) ((k:Int).toNat+0) 0))
  + 1))) ()) (decide ((fun i=>QA.enc (cs.getD i ⟨0,0⟩)) ((k:Int).toNat+0) 0=(fun i=>QA.enc (cs.getD i ⟨0,0⟩)) ((k:Int).toNat+0) 0)))-1))) (KH (cs.getD k ⟨0,
  0⟩).cell (.int false .i64 (i64.wrap (toI (.int false .i64 (QM l (cs.getD k ⟨0,0⟩).cell))+1))) fun i => .int false .i64 (QM l i))) fun i => .int false .i64 (QM l i),
  LoopState.ready=LoopState.ready]++(QIo ac body)++Jq++Xc++[(0:Int)=0,false=false]++Xc++(QDw many)++[sure=sure,may=may,Fn.func 77=Fn.func
  (77:FuncId)]++Jq++Jq++[Fn.func 54=Fn.func (54:FuncId)]++Jq++[all=all]++(QD2 C x))):=by kernel_rfl
theorem QUz(C:List (List QC))(all:Int)(ac body:Code)(cs l l2:List QC)(k:Nat)(has' h':Int→Bool)(many' sure' may':Int)(k':Nat):QO 392 (QBB cs k) ((QEe C ac all body cs has' k l2 many' may' sure' x)) (msJ x C all ac body cs l h' many' sure' may' k')=(some (Jq++Xc++(QCI cs k k') ++
  [(i64.wrap ((l2.length:Int)-1)).toNat=l.length,cO=cO,l.length≤l2.length,QE 2 l.length (fun i=>QA.enc (l2.getD i ⟨0,0⟩)) fun i=>QA.enc
  (l.getD i ⟨0,0⟩),K8 (.int true .i64 0) (.int true .i64 0) (Qp (cs.getD k ⟨0,0⟩).cell true has') h' (KH (cs.getD k ⟨0,0⟩).cell (.int false .i64 (i64.wrap (toI
  (.int false .i64 (QM l2 (cs.getD k ⟨0,0⟩).cell))-1))) fun i => .int false .i64 (QM l2 i)) fun i => .int false .i64 (QM l i),LoopState.ready=LoopState.ready]++(QIo ac
  body)++Jq++Xc++[(0:Int)=0,false=false]++Xc++[Fn.func (76:FuncId)=Fn.func (76:FuncId),0=0,0=0,many'=many',(0:Int)=0,sure'=sure',may'
  = may',Fn.func 77=Fn.func (77:FuncId)]++Jq++Jq++[Fn.func 54=Fn.func (54:FuncId)]++Jq++[all=all]++(QD2 C x))):=by kernel_rfl
theorem QTO(C:List (List QC))(all:Int)(ac body:Code)(l:List QC)(has:Int→Bool)(many sure may:Int):QO 392 [] ((QFo C ac all body has l many may sure x)) (msE ac body l has many sure may)=(some ([0=0,l.length=l.length]++(QJ5 ac body has l)++Jq++Xc++[(0 :
  Int)=0,false=false]++Xc++(QDw many)++[sure=sure,may=may])):=by kernel_rfl
abbrev MsS:=Int×Int×Int
def msY(s:MsS)(l:List QC):MsS×Bool:=((i64.wrap (s.1+1),Jg s.2.1 (KL l l.length),orN s.2.2 (Jg all (KL l l.length))),true)
def Yf(C:List (List QC))(all:Int)(ac body:Code)(l:List QC)(has:Int→Bool)(s:MsS):Res MsS→UC
 | .go s' h'=>msU x C all ac body l has s.1 s.2.1 s.2.2 h' s'.1 s'.2.1 s'.2.2
 | .stop s' h'=>msU x C all ac body l has s.1 s.2.1 s.2.2 h' s'.1 s'.2.1 s'.2.2
abbrev MsK:=Nat×MsS×(Int→Bool)
noncomputable def kPb:List Prop→Bool:=match decide (k<cs.length)with
 | true=>Qx
 | false=>fun _=>false
def XV(C:List (List QC))(all:Int)(d:Nat)(l:List QC)(s:MsS)(h:Int→Bool)(c:QC):Res MsS:=onT x C (msY all) d (l++[c]) s h
noncomputable def Zi(P:Program)(x:QD)(C:List (List QC))(all:Int)(ac body:Code)(d:Nat)(cs l:List QC)(t:MsK):Env:=
 mkC P (qq (kPb cs t.1) (kPb cs t.1) x C (l++[cs.getD t.1 ⟨0,0⟩]) (Yf x C all ac body (l++[cs.getD t.1 ⟨0,0⟩]) (Qp (cs.getD t.1 ⟨0,0⟩).cell true t.2.2) t.2.1 (XV x C all d l t.2.1 (Qp (cs.getD t.1 ⟨0,0⟩).cell true t.2.2) (cs.getD t.1 ⟨0,0⟩))))
def ZQ(C:List (List QC))(all:Int)(ac body:Code)(d:Nat)(cs l:List QC)(t:MsK)(e:Ex)(J:JSt):Prop:=match Jp (Jf x l (XV x C all d l)) (cs.drop t.1) t.2.1 t.2.2 with
 | .go s h=>e = .exit 0∧J=msE ac body l h s.1 s.2.1 s.2.2
 | .stop _ _=>False
theorem Kr{k n:Nat}(h:k<n)(hn:n≤1000):i64.wrap ((k:Int)+1)=((k+1:Nat):Int):=(w64 (by omega) (by omega)).trans (by omega)
set_option maxHeartbeats 1600000 in
theorem QWK(C:List (List QC))(all:Int)(ac body:Code)(d:Nat)(cs l:List QC)(hcs:cs.length≤1000)(hl:l.length≤1000):za (fun t:MsK=>msJ x C all ac body cs l t.2.2 t.2.1.1 t.2.1.2.1 t.2.1.2.2 t.1) (fun t=>t.1≤cs.length) (fun t=>cs.length-t.1) (ZQ x C all ac body d cs l) 392 HK vk (Zi Try.prog x C all ac body d cs l) (fun t=>hnd (Zi Try.prog x C all ac body d cs l t) 0) (QZ Try.f77 0):=by
 refine⟨fun t g hk => ?_⟩;obtain⟨k,⟨many,sure,may⟩,has⟩:=t;have hk:k≤cs.length:=hk;obtain⟨s',h',hrec⟩:=Z1 (C:=C) (x:=x) (Y:=msY all) (fun _ _=>rfl) d (l++[cs.getD k ⟨0,0⟩]) (many,sure,may) (Qp (cs.getD k ⟨0,0⟩).cell true has);unfold Zi;simp only;have hrec:XV x C all d l (many,sure,may) (Qp (cs.getD k ⟨0,0⟩).cell true has) (cs.getD k ⟨0,0⟩) = .go s' h':=hrec;rw[hrec];refine KF (QQL (kPb cs k) (kPb cs k) x C all ac body cs l (l++[cs.getD k ⟨0,0⟩]) has (Qp (cs.getD k ⟨0,0⟩).cell true has) many sure may k h' s'.1 s'.2.1 s'.2.2 g) ?_;refine QK (fun h => ?_) (fun h => ?_)
 ·have h:k<cs.length:=by have:=qdt h;omega
  have hw:=Kr h hcs;have hpb:kPb cs k=Qx:=by unfold kPb;rw[decide_eq_true h]
  rw[hpb];have step:=QJN (f:=Jf x l (XV x C all d l)) h (many,sure,may) has
  have next:∀{s2:MsS} {h2:Int→Bool},Jf x l (XV x C all d l) (many,sure,may) has (cs.getD k ⟨0,0⟩) = .go s2 h2→∀ e J,ZQ x C all ac body d cs l (k+1,s2,h2) e J→ZQ x C all ac body d cs l (k,(many,sure,may),has) e J:=by
   intro s2 h2 he e J hr;unfold ZQ at hr ⊢;simp only at hr ⊢;rw[step,he];exact hr
  have one:∀ b,Jy x l (cs.getD k ⟨0,0⟩)=b→Jf x l (XV x C all d l) (many,sure,may) has (cs.getD k ⟨0,0⟩)=match b with
    | true => .go (many,sure,may) has
    | false=>match JB x (l++[cs.getD k ⟨0,0⟩])with
     | false => .go (many,sure,may) (Qp (cs.getD k ⟨0,0⟩).cell true (Qp (cs.getD k ⟨0,0⟩).cell true has))
     | true => .go s' (Qp (cs.getD k ⟨0,0⟩).cell true h'):=by
   intro b hb;unfold Jf;rw[hb,hrec];cases b
   ·cases JB x (l++[cs.getD k ⟨0,0⟩])<;>rfl
   ·rfl
  refine QF (by simp;omega) (QF (by simp;omega) (KN fun _ => ?_))
  refine QF rfl (QK (fun hf => ?_) (fun hf=>QF (by simp;omega) (QF rfl (QF (JS.2 ?_) (QK (fun hq => ?_) (fun hq => ?_))))))
  ·have hf:Jy x l (cs.getD k ⟨0,0⟩)=true:=Wx.trans hf;refine⟨(k+1,(many,sure,may),has),h,by show cs.length-(k+1)<cs.length-k;omega,next (one _ hf),rfl,rfl,_,QQi x C all ac body cs l has many sure may k (k+1),?_⟩
   repeat' first|with_reducible refine Qc ?_ ?_|exact trivial|with_reducible rfl|exact qlr _|exact qRr|exact Q0 _ _ _ _|exact XC _ _ _|exact hw|refine And.intro ?_ ?_
  ·repeat' first|with_reducible refine Qc ?_ ?_|exact trivial|with_reducible rfl|exact qlr _|exact qRr|exact Q0 _ _ _ _|exact H3 _ _|exact Hq _ _|exact Gh _ _ _ rfl|refine And.intro ?_ ?_
  ·have hf:Jy x l (cs.getD k ⟨0,0⟩)=false:=Wx.trans hf;have hq:JB x (l++[cs.getD k ⟨0,0⟩])=false:=by simpa using hq
   have hp:=QGR l hl;have hp1:i64.wrap (((l.length+1:Nat):Int)-1)=l.length:=(w64 (by omega) (by omega)).trans (by omega)
   have ho:=one _ hf;rw[hq]at ho;refine QF (by simp[isI]) (QF (by rw[hp1];simp) ?_)
   refine⟨(k+1,(many,sure,may),Qp (cs.getD k ⟨0,0⟩).cell true (Qp (cs.getD k ⟨0,0⟩).cell true has)),h,by show cs.length-(k+1)<cs.length-k;omega,next ho,rfl,rfl,_,QP7 x C all ac body cs l has (Qp (cs.getD k ⟨0,0⟩).cell true (Qp (cs.getD k ⟨0,0⟩).cell true has)) many sure may k (k+1),?_⟩
   repeat' first|with_reducible refine Qc ?_ ?_|exact trivial|with_reducible rfl|exact qlr _|exact qRr|exact Q0 _ _ _ _|exact hw|exact hp|exact Nat.le_succ _|exact QLy _ _|exact QFs _ _ _ hl (by simp[toI];rfl) _|refine And.intro ?_ ?_
  ·have hf:Jy x l (cs.getD k ⟨0,0⟩)=false:=Wx.trans hf;have hq:JB x (l++[cs.getD k ⟨0,0⟩])=true:=by simpa using hq
   have hp:=QIA l (cs.getD k ⟨0,0⟩) hl
   have hp1:i64.wrap (((l++[cs.getD k ⟨0,0⟩]).length:Int)-1)=l.length:=by
    rw[List.length_append,List.length_singleton];exact(w64 (by omega) (by omega)).trans (by omega)
   have ho:=one _ hf;rw[hq]at ho;refine QF (JS.2 ?_) (QF rfl (QF (by rw[hp1];simp) (QK (fun q=>by cases q) (fun _ => ?_))))
   ·repeat' first|with_reducible refine Qc ?_ ?_|exact trivial|with_reducible rfl|exact qlr _|exact qRr|exact Q0 _ _ _ _|exact H3 _ _|exact Hq _ _|exact Gh _ _ _ rfl|exact QEl _ _ hl rfl _|refine And.intro ?_ ?_
   refine⟨(k+1,s',Qp (cs.getD k ⟨0,0⟩).cell true h'),h,by show cs.length-(k+1)<cs.length-k;omega,next ho,rfl,rfl,_,QUz x C all ac body cs l (l++[cs.getD k ⟨0,0⟩]) k h' (Qp (cs.getD k ⟨0,0⟩).cell true h') s'.1 s'.2.1 s'.2.2 (k+1),?_⟩
   repeat' first|with_reducible refine Qc ?_ ?_|exact trivial|with_reducible rfl|exact qlr _|exact qRr|exact Q0 _ _ _ _|exact hw|exact hp|exact(by simp:l.length≤(l++[cs.getD k ⟨0,0⟩]).length)|exact QJF _ _|exact QMS _ _ hl rfl _|refine And.intro ?_ ?_
 ·have h:cs.length≤k:=by have:=of_decide_eq_false h;omega
  have he:=QEr (f:=Jf x l (XV x C all d l)) h (many,sure,may) has;refine⟨msE ac body l has many sure may,by unfold ZQ;simp only[he,and_self],rfl,rfl,_,QTO x C all ac body l has many sure may,?_⟩
  repeat' first|with_reducible refine Qc ?_ ?_|exact trivial|with_reducible rfl|exact qlr _|exact qRr|exact Q0 _ _ _ _|exact XC _ _ _|refine And.intro ?_ ?_
abbrev msX(P:Program)(J:JSt)(X:List (Prop×Ex×JSt)):Hnd:={ hnd (mkE P Qy) 2 with loop:=fun _=>KE 392 vk J X }
abbrev msN(P : Program)(T : Tab): Hnd := { hnd (mkE P T) 2 with loop := fun _ _ _ => .fail "a loop" }
noncomputable abbrev QEF:Nat×Blk:=
  (297,.lp LoopState.ready none msT (Array.mk [12]) (Qi Try.f53 0).1 (Qi Try.f53 0).2)
noncomputable abbrev QAy:Nat×Blk:=
  (208,.cells 0 3 [vi 0])
noncomputable abbrev QEo:Nat×Blk:=
  (48,.cellsR 0 125 [vi x.d.play.length,vi x.d.play.slack,vi x.d.play.loose,vi x.d.play.damp.lo,.int false .i64
  x.d.play.damp.hi,vi x.d.wide,vi x.d.high,.bool false x.d.turn,.slz 0 0 x.d.ps.n cO,.slz 1 0 x.scans.n cO,.slz 2 0 x.hang.n (Cap.of
  0),vi x.lost,vi x.foreign,.slz 49 0 C.length cO])
noncomputable abbrev QJH:Nat×Blk:=
  (216,.cellsR 0 101 [.fn (Fn.func 54) [.ptr 16 0 0,.ptr 24 0 0,.ptr 160 0 0]])
abbrev zx:List CK:=
  [.int .i64,.int .i64,.int .i64,.int .i64,.int .i64,.int .i64,.int .i64,.int .i64,.int .i64,.int .i64,.int .i64,.int .i64,.int .i64,.int .i64,.int .i64,.int .i64,.int
  .i64,.int .i64,.int .i64,.int .i64,.int .i64,.int .i64,.int .i64,.int .i64,.int .i64,.int .i64,.int .i64,.int .i64]
noncomputable abbrev QGq:Nat×Blk:=
  (49,.frz2 false 38 [.int .i64,.int .i64] C.length (fun i=>(QN C i).length) fun i j=>QA.enc ((QN C i).getD j ⟨0,0⟩))
noncomputable abbrev QDM(l:List QC)(many:Int)(may:Int)(sure:Int)(x:QD):List (Nat×Blk):=
  [(336,.cells 0 38 [.slz 384 0 l.length cO]),(312,.mpf i64 (.int true .i64 0) has fun i => .int false .i64 (QM l i)),QEF,(240,.cells 0 3 [.int false .i64
  many]),QAy,(16,.cells 0 3 [vi sure]),(24,.cells 0 3 [vi may]),(384,.rowz true 56 [.int .i64,.int .i64] l.length fun i=>QA.enc (l.getD i ⟨0,
  0⟩)),(QEo C x),(160,.cellsR 0 3 [vi all]),QJH,(264,.cellsR 0 89 [.ptr 48 0 0]),(0,.frz zx x.d.ps.n fun i=>QA.enc (x.d.ps.get i)),(1,.frz zx
  x.scans.n fun i=>QA.enc (x.scans.get i)),(2,.frz [.int .i64,.int .i64,.int .i64,.int .i64] x.hang.n fun i=>QA.enc (x.hang.get i)),(QGq C)]
noncomputable abbrev QGo(hs:Int)(l:List QC)(many:Int)(may:Int)(sure:Int)(x:QD):List (Nat×Blk):=
  [(336,.cells 0 38 [.slz 384 0 l.length cO]),(312,.mpf i64 (.int true .i64 0) has fun i => .int false .i64 (QM l i)),QEF,(240,.cells 0 3 [.int false .i64
  (i64.wrap (many+1))]),QAy,(16,.cells 0 3 [vi (Jg sure hs)]),(24,.cells 0 3 [vi (orN may (Jg all hs))]),(384,.rowz true 56 [.int .i64,
  .int .i64] l.length fun i=>QA.enc (l.getD i ⟨0,0⟩)),(QEo C x),(160,.cellsR 0 3 [vi all]),QJH,(264,.cellsR 0 89 [.ptr 48 0 0]),(0,.frz zx x.d.ps.n fun i
  => QA.enc (x.d.ps.get i)),(1,.frz zx x.scans.n fun i=>QA.enc (x.scans.get i)),(2,.frz [.int .i64,.int .i64,.int .i64,.int .i64] x.hang.n fun i=>QA.enc (x.hang.get
  i)),(QGq C)]
theorem QJR(pb:List Prop→Bool)(x:QD)(C:List (List QC))(all:Int)(l:List QC)(has:Int→Bool)(many sure may hs:Int):(V4 (mkE Try.prog (Wl pb (mmU l 0 sure may all hs))) (msN Try.prog (Wl pb (mmU l 0 sure may all hs))) Try.f77 QCR (H7 x C all (Qi Try.f53 0).1 (Qi Try.f53
  0).2 l has many sure may).hp 392 fun v h _=>W3 vk v h) = .br ((l.length:Int)==(x.scans.n:Int)) (.need (isI i64 (.int false .i64 (QM l (-2:Int)))) (.br
  (decide (i64.wrap ((x.d.ps.n:Int)-i64.wrap ((l.length:Int)-toI (.int false .i64 (QM l (-2:Int)))))>x.lost)) (.leaf (.bool true true) ((QDM C all has l
  many may sure x))) (.need (pb ([(0:Int)=0,0=0,l.length=l.length,Cap.of 0=Cap.of 0,0=0,0=0,0=0,0=0,0=0,0=0,l.length≤l.length,QE 2 l.length (fun
  i=>QA.enc (l.getD i ⟨0,0⟩)) fun i=>QA.enc (l.getD i ⟨0,0⟩),sure=sure,may=may,all=all])) (.leaf (.bool true true) ((QGo C all has hs l many may sure x))))))
  (.need (decide ((0 : Int) ≤ (l.length : Int) ∧ (l.length : Int) < (C.length : Int)) && decide (C.length ≤ C.length)) (.need (decide (l.length < C.length)) (.fail ("a loop")))) := by kernel_rfl
abbrev QFO(l:List QC):List Prop:=
  [true=true,0=0,l.length=l.length,cO=cO,l.length≤l.length,QE 2 l.length (fun i=>QA.enc (l.getD i ⟨0,0⟩)) fun i=>QA.enc (l.getD i ⟨0,0⟩),
  K8 (.int true .i64 0) (.int true .i64 0) has has (fun i => .int false .i64 (QM l i)) fun i => .int false .i64 (QM l i),LoopState.ready=LoopState.ready,(none:Option
  Code)=none,Array.mk [12]=Array.mk [(12:Tmp)],(Qi Try.f53 0).1=(Qi Try.f53 0).1,(Qi Try.f53 0).2=(Qi Try.f53 0).2,0=0,0=0,(0:Int)=0,Fn.func
  (54:FuncId)=Fn.func (54:FuncId)]
abbrev Yl:List Prop:=
  [0=0,0=0,0=0,0=0]
theorem QPr(C:List (List QC))(all:Int)(l:List QC)(has:Int→Bool)(many sure may:Int):QO 392 [(.bool true true)] ((QDM C all has l many may sure x)) (JF (msU x C all (Qi Try.f53 0).1 (Qi Try.f53 0).2 l has many sure may has many sure may))=(some
  ((QFO has l)++Yl++Yl++[0=0,0=0,(0:Int)=0,false=false]++Yl++[Fn.func (76:FuncId)=Fn.func (76:FuncId),0=0,0=0,many=many,(0:Int)=0,
  sure=sure,may=may])):=by kernel_rfl
theorem QTC(C:List (List QC))(all:Int)(l:List QC)(has:Int→Bool)(many sure may hs many' sure' may':Int):QO 392 [(.bool true true)] ((QGo C all has hs l many may sure x)) (JF (msU x C all (Qi Try.f53 0).1 (Qi Try.f53 0).2 l has many sure may has many' sure' may'))=(some
  ((QFO has l)++Yl++Yl++[0=0,0=0,(0:Int)=0,false=false]++Yl++[Fn.func (76:FuncId)=Fn.func (76:FuncId),0=0,0=0,i64.wrap (many+1) =
  many',(0:Int)=0,Jg sure hs=sure',orN may (Jg all hs)=may'])):=by kernel_rfl
noncomputable abbrev QIV(l:List QC)(many':Int)(may':Int)(sure':Int):List (Nat×Blk):=
  [(336,.cells 0 38 [.slz 400 0 l.length cO]),(312,.mpf i64 (.int true .i64 0) has' fun i => .int false .i64 (QM l i)),QEF,(240,.cells 0 3 [.int false .i64
  many']),QAy,(16,.cells 0 3 [vi sure']),(24,.cells 0 3 [vi may']),(400,.rowz true 56 [.int .i64,.int .i64] l.length fun i=>QA.enc (l.getD i ⟨0,
  0⟩))]
theorem QVP(C:List (List QC))(all:Int)(cs l:List QC)(has:Int→Bool)(many sure may:Int)(has':Int→Bool)(many' sure' may':Int):(V4 (mkE Try.prog Qy) (msX Try.prog (msJ x C all (Qi Try.f53 0).1 (Qi Try.f53 0).2 cs l has many sure may 0) [(True,.exit 0,msE (Qi Try.f53 0).1 (Qi Try.f53
  0).2 l has' many' sure' may')]) Try.f77 QCR (H7 x C all (Qi Try.f53 0).1 (Qi Try.f53 0).2 l has many sure may).hp 392 fun v h _=>W3 vk v h) = .br ((l.length :
  Int)==(x.scans.n:Int)) (.need (isI i64 (.int false .i64 (QM l (-2:Int)))) (.br (decide (i64.wrap ((x.d.ps.n:Int)-i64.wrap ((l.length:Int)-toI
  (.int false .i64 (QM l (-2 : Int))))) > x.lost)) (.leaf (.bool true true) ((QDM C all has l many may sure x))) (.fail ("a loop")))) (.need (decide ((0 : Int) ≤ (l.length : Int) ∧
  (l.length:Int)<(C.length:Int))&&decide (C.length≤C.length)) (.need (decide (l.length<C.length)) (.ask (0=0) (.ask (0=0) (.ask (0=0) (.ask (0=0) (.ask (0=0)
  (.ask (0=0) (.ask (0=0) (.ask (0=0) (.ask (0=0) (.ask (0=0) (.ask (0=0) (.ask ((QN C l.length).length=cs.length) (.ask (Cap.of 0=Cap.of 0) (.ask ((↑(QN C
  l.length).length:Int)=(cs.length:Int)) (.ask ((0:Int)=0) (.ask (cs.length≤(QN C l.length).length) (.ask (QE 2 cs.length (fun j=>QA.enc ((QN C l.length).getD
  j ⟨0,0⟩)) fun i=>QA.enc (cs.getD i ⟨0,0⟩)) (.ask (0=0) (.ask (l.length=l.length) (.ask (Cap.of 0=Cap.of 0) (.ask (l.length≤l.length) (.ask (QE 2 l.length (fun i=>
  QA.enc (l.getD i ⟨0,0⟩)) fun i=>QA.enc (l.getD i ⟨0,0⟩)) (.ask (K8 (.int true .i64 0) (.int true .i64 0) has has (fun i => .int false .i64 (QM l i)) fun i => .int false
  .i64 (QM l i)) (.ask (LoopState.ready=LoopState.ready) (.ask ((none:Option Code)=none) (.ask (Array.mk [(12:Tmp)]=Array.mk [(12:Tmp)]) (.ask ((Qi Try.f53 0).1 =
  (Qi Try.f53 0).1) (.ask ((Qi Try.f53 0).2=(Qi Try.f53 0).2) (.ask (0=0) (.ask (0=0) (.ask ((0:Int)=0) (.ask (Fn.func (54:FuncId)=Fn.func (54:FuncId))
  (.ask (0=0) (.ask (0=0) (.ask (0=0) (.ask (0=0) (.ask (0=0) (.ask (0=0) (.ask (0=0) (.ask (0=0) (.ask (0=0) (.ask (0=0) (.ask ((0:Int)=0) (.ask (false =
  false) (.ask (0=0) (.ask (0=0) (.ask (0=0) (.ask (0=0) (.ask (Fn.func (76:FuncId)=Fn.func (76:FuncId)) (.ask (0=0) (.ask (0=0) (.ask (many=many) (.ask ((0:Int)
  = 0) (.ask (sure=sure) (.ask (may=may) (.ask (Fn.func (77:FuncId)=Fn.func (77:FuncId)) (.ask (0=0) (.ask (0=0) (.ask (0=0) (.ask (0=0) (.ask (0=0) (.ask (0=0)
  (.ask (0=0) (.ask (0=0) (.ask (0=0) (.ask (0=0) (.ask (0=0) (.ask (0=0) (.ask (Fn.func (54:FuncId)=Fn.func (54:FuncId)) (.ask (0=0) (.ask (0=0) (.ask (0=0)
  (.ask (0=0) (.ask (0=0) (.ask (0=0) (.ask (all=all) (.ask (x.d.play.length=x.d.play.length) (.ask (x.d.play.slack=x.d.play.slack) (.ask (x.d.play.loose=x.d.play.loose)
  (.ask (x.d.play.damp.lo=x.d.play.damp.lo) (.ask (x.d.play.damp.hi=x.d.play.damp.hi) (.ask (x.d.wide=x.d.wide) (.ask (x.d.high=x.d.high) (.ask (x.d.turn=x.d.turn) (.ask (0
  = 0) (.ask (x.d.ps.n=x.d.ps.n) (.ask (Cap.of 0=Cap.of 0) (.ask (0=0) (.ask (x.scans.n=x.scans.n) (.ask (Cap.of 0=Cap.of 0) (.ask (0=0) (.ask (x.hang.n=x.hang.n) (.ask
  (Cap.of 0=Cap.of 0) (.ask (x.lost=x.lost) (.ask (x.foreign=x.foreign) (.ask (0=0) (.ask (C.length=C.length) (.ask (Cap.of 0=Cap.of 0) (.ask (C.length=C.length) (.ask
  (Ku 2 C.length (fun i=>(QN C i).length) (fun i=>(QN C i).length) (fun i j=>QA.enc ((QN C i).getD j ⟨0,0⟩)) fun i j=>QA.enc ((QN C i).getD j ⟨0,0⟩)) (.ask
  (x.d.ps.n≤x.d.ps.n) (.ask (QE 28 x.d.ps.n (fun i=>QA.enc (x.d.ps.get i)) fun i=>QA.enc (x.d.ps.get i)) (.ask (x.scans.n≤x.scans.n) (.ask (QE 28 x.scans.n (fun i
  => QA.enc (x.scans.get i)) fun i=>QA.enc (x.scans.get i)) (.ask (x.hang.n≤x.hang.n) (.ask (QE 4 x.hang.n (fun i=>QA.enc (x.hang.get i)) fun i=>QA.enc (x.hang.get
  i)) (.asm (True) (.all (fun(g0:Nat→Value) => .leaf (.bool true true) ((QIV has' l many' may'
  sure'))))))))))))))))))))))))))))))))))))))))))))))))))))))))))))))))))))))))))))))))))))))))))))))))))))))))))))))))):=by kernel_rfl
theorem QR5(C:List (List QC))(all:Int)(l:List QC)(has:Int→Bool)(many sure may:Int)(has':Int→Bool)(many' sure' may':Int):QO 392 [(.bool true true)] ((QIV has' l many' may' sure')) (JF (msU x C all (Qi Try.f53 0).1 (Qi Try.f53 0).2 l has many sure may has' many' sure' may'))=(some
  ([true=true,0=0,l.length=l.length,cO=cO,l.length≤l.length,QE 2 l.length (fun i=>QA.enc (l.getD i ⟨0,0⟩)) fun i=>QA.enc (l.getD i ⟨0,0⟩),
  K8 (.int true .i64 0) (.int true .i64 0) has' has' (fun i => .int false .i64 (QM l i)) fun i => .int false .i64 (QM l i),LoopState.ready=LoopState.ready,(none:Option
  Code)=none,Array.mk [12]=Array.mk [(12:Tmp)],(Qi Try.f53 0).1=(Qi Try.f53 0).1,(Qi Try.f53 0).2=(Qi Try.f53 0).2,0=0,0=0,(0:Int)=0,Fn.func
  (54:FuncId)=Fn.func (54:FuncId)]++Yl++Yl++[0=0,0=0,(0:Int)=0,false=false]++Yl++[Fn.func (76:FuncId)=Fn.func (76:FuncId),0=0,0=0,many'
  = many',(0:Int)=0,sure'=sure',may'=may'])):=by kernel_rfl
noncomputable abbrev XP:Code:=(Qi Try.f53 0).1
noncomputable abbrev XW:Code:=(Qi Try.f53 0).2
theorem QMN(N M k nid:Nat)(h:N≤M+k):JC N M nid (M+k)=nid+k:=by
 have:Nat.blt (M+k) N=false:=qr (by omega)
 simp only[JC,this];omega
structure Z3 (x:QD) (C:List (List QC)):Prop where
 n:C.length=x.scans.n
 le:∀ i,(QN C i).length≤1000
 s:∀ i,∀ c∈QN C i,JW c
theorem QAN{α:Type}{l:List α}{i:Nat}{z:α}(h:i<l.length):l.getD i z∈l:=by
 rw[List.getD_eq_getElem?_getD,List.getElem?_eq_getElem h];exact List.getElem_mem h
theorem QET{l:List QC}(hp:0<l.length)(hl:l.length≤1000)(h:∀ c∈l,JW c):qb l:=⟨hp,hl,fun i hi=>h _ (QAN hi)⟩
theorem QMG{l:List QC}(hl:l.length≤1000)(h:∀ c∈l,JW c):WU l:=⟨hl,fun i hi=>by
 have:=(h _ (QAN (z:=⟨0,0⟩) hi)).cell;omega⟩
theorem QHK{x:QD}{l:List QC}(h1:x.d.ps.n≤1000)(h2:l.length≤1000):decide (i64.wrap ((x.d.ps.n:Int)-i64.wrap ((l.length:Int)-QM l (-2)))>x.lost)=Yn x l:=by
 have a1:=QAg l (-2);have a2:=HC l (-2);rw[show i64.wrap ((l.length:Int)-QM l (-2))=(l.length:Int)-QM l (-2)from w64 (by omega) (by omega),show i64.wrap ((x.d.ps.n:Int)-((l.length:Int)-QM l (-2)))=(x.d.ps.n:Int)-((l.length:Int)-QM l (-2))from w64 (by omega) (by omega)]
 rfl
theorem QK1(C:List (List QC))(all:Int)(ac body:Code)(l:List QC)(has:Int→Bool)(many sure may:Int)(has':Int→Bool)(many' sure' may':Int):(msU x C all ac body l has many sure may has' many' sure' may').Ok:=by
 refine⟨(by decide:376≤392),rfl,rfl,?_,rfl,fun _ _=>rfl,fun nid h => ?_⟩
 ·intro q hq;simp only[UC.po,msU,msW,rwL,List.mem_cons,List.not_mem_nil,or_false]at hq;rcases hq with rfl|rfl|rfl|rfl|rfl|rfl|rfl|rfl<;>refine⟨rfl,rfl,rfl,?_⟩<;>first|exact fun _=>rfl|exact fun h=>absurd (show 392<376 from h) (by decide)
 ·have e0:=QMN 376 392 0 nid (by decide)
  simp only[UC.po,msU,msW,rwL,H7,msT,List.map_cons,List.map_nil,Blk.mapId,AV.mapId,AV.mapIdL,Nat.add_zero]at e0 ⊢;rw[e0];rfl
theorem QJt(T:Tab)(hT:QV T)(G:Ctx)(hrd:G.rd=none):Q5 (mkE Try.prog T) G (msN Try.prog T) (Qq Try.f77):=
 JT (body:=QZ Try.f77 0) (QR hT) hrd (by kernel_rfl) (fun _ _ _ _ _ _ _ h _ _=>h.elim)
theorem QQ3{x:QD}(hx:K6 x)(C:List (List QC))(all:Int){l:List QC}(hn:l.length=x.scans.n)(hl:∀ c∈l,JW c)(s:MsS)(h:Int→Bool):QQ Try.prog 77 (uFC (Yf x C all XP XW l h s (X2 x (msY all) l s h))):=by
 obtain⟨many,sure,may⟩:=s;have hs:=hx.s;have hd:=hx.d.n9;have hT:QV (Wl Qx (mmU l 0 sure may all (KL l l.length))):=KK.add (QPm l 0 sure may all (QMG (by omega) hl))
 have fin:∀(s':MsS),YK (HF (msU x C all XP XW l h many sure may h s'.1 s'.2.1 s'.2.2)) (Vu (mkE Try.prog (Wl Qx (mmU l 0 sure may all (KL l l.length)))) (msN Try.prog (Wl Qx (mmU l 0 sure may all (KL l l.length)))) Try.f77 (msU x C all XP XW l h many sure may h s'.1 s'.2.1 s'.2.2))→QQ Try.prog 77 (uFC (msU x C all XP XW l h many sure may h s'.1 s'.2.1 s'.2.2)):=fun s' hd=>
  VZ (E:=mkE Try.prog (Wl Qx (mmU l 0 sure may all (KL l l.length)))) (QR hT) Try.func77 (by kernel_rfl) (by kernel_rfl) (QK1 ..) (fun G h1 _=>QJt _ hT G h1) ⟨hd⟩
 have he:=QHK (x:=x) (l:=l) (by omega) (by omega)
 cases hb:Yn x l with
 | true=>
  rw[hb]at he;simp only[X2,hb,Yf];refine fin (many,sure,may) (KF (QJR Qx x C all l h many sure may (KL l l.length)) ?_);refine QK (fun _=>QF rfl (QK (fun _ => ?_) (fun q=>Bool.noConfusion (show true=false from he.symm.trans q)))) (fun q=>by rw[hn]at q;simp at q)
  refine⟨rfl,rfl,_,QPr x C all l h many sure may,?_⟩
  repeat' first|with_reducible refine Qc ?_ ?_|exact trivial|with_reducible rfl|exact qlr _|exact qRr|exact Q0 _ _ _ _|exact XC _ _ _|refine And.intro ?_ ?_
 | false=>
  rw[hb]at he;simp only[X2,hb,msY,Yf];refine fin (i64.wrap (many+1),Jg sure (KL l l.length),orN may (Jg all (KL l l.length))) (KF (QJR Qx x C all l h many sure may (KL l l.length)) ?_);refine QK (fun _=>QF rfl (QK (fun q=>Bool.noConfusion (show true=false from q.symm.trans he)) (fun _=>QF (JS.2 ?_) ?_))) (fun q=>by rw[hn]at q;simp at q)
  ·repeat' first|with_reducible refine Qc ?_ ?_|exact trivial|with_reducible rfl|exact qlr _|exact qRr|refine And.intro ?_ ?_
  refine⟨rfl,rfl,_,QTC x C all l h many sure may (KL l l.length) _ _ _,?_⟩
  repeat' first|with_reducible refine Qc ?_ ?_|exact trivial|with_reducible rfl|exact qlr _|exact qRr|exact Q0 _ _ _ _|exact XC _ _ _|exact(show _=Jg _ _ from rfl)|exact(show _=orN _ _ from rfl)|refine And.intro ?_ ?_
theorem QSH{x:QD}(hx:K6 x){C:List (List QC)}{all:Int}{ac body:Code}{cs l:List QC}(hl:l.length<1000)(hls:∀ c∈l,JW c)(hcs:∀ c∈cs,JW c)(IH:∀ c∈cs,∀ s h,QQ Try.prog 77 (uFC (Yf x C all ac body (l++[c]) h s (XV x C all d l s h c))))(t:MsK):(Zi Try.prog x C all ac body d cs l t).Sound:=by
 unfold Zi kPb;split
 ·rename_i hk;have hk:=qdt hk;have hm:=QAN (z:=(⟨0,0⟩:QC)) hk;refine QAF ((KK.add (QGe x C _ hx (QET (by simp) (by simp;omega) ?_))).add (IH _ hm _ _))
  intro c hc;rcases List.mem_append.1 hc with h|h
  ·exact hls c h
  ·rw[List.mem_singleton.1 h];exact hcs _ hm
 ·exact QAF ((KK.add (vm (by kernel_rfl) _)).add (vm (by kernel_rfl) _))
theorem QRg{x:QD}(hx:K6 x){C:List (List QC)}(hC:Z3 x C){all:Int}{ac body:Code}{l:List QC}(hl:l.length+(d+1)=x.scans.n)(hls:∀ c∈l,JW c)(IH:∀ c∈QN C l.length,∀ s h,QQ Try.prog 77 (uFC (Yf x C all ac body (l++[c]) h s (XV x C all d l s h c))))(s:MsS)(h:Int→Bool){X:List (Prop×Ex×JSt)}(hX:∀ e J,ZQ x C all ac body d (QN C l.length) l (0,s,h) e J→∃ y∈X,y.1∧y.2.1=e∧y.2.2=J)(G:Ctx)(hrd:G.rd=none)(hG:G.n=392):
  Q5 (mkE Try.prog Qy) G (msX Try.prog (msJ x C all ac body (QN C l.length) l h s.1 s.2.1 s.2.2 0) X) (Qq Try.f77):=by
 have hs:=hx.s;refine JT (body:=QZ Try.f77 0) (QR KK) hrd (by kernel_rfl) ?_
 have hE:=fun t=>QSH hx (C:=C) (all:=all) (ac:=ac) (body:=body) (d:=d) (cs:=QN C l.length) (l:=l) (by omega) hls (hC.s _) IH t
 refine QBX (E0:=mkE Try.prog Qy) (E:=Zi Try.prog x C all ac body d (QN C l.length) l) (H:=fun t=>hnd (Zi Try.prog x C all ac body d (QN C l.length) l t) 0) (n0:=392) (s0:=(0,s,h)) (fun _=>rfl) hE (by omega) (fun t _=>Qv (hE t) 0 G _ hrd) (fun t _=>(by decide:392≤424)) ?_ (QWK x C all ac body d (QN C l.length) l (hC.le _) (by omega)) (Nat.zero_le _) hX
 intro t e J hr;unfold ZQ at hr;split at hr
 ·rw[hr.2];exact(by decide:392≤424)
 ·exact hr.elim
theorem QSV{x:QD}(hx:K6 x){C:List (List QC)}(hC:Z3 x C){all:Int}{l:List QC}(hl:l.length+(d+1)=x.scans.n)(hls:∀ c∈l,JW c)(IH:∀ c∈QN C l.length,∀ s h,QQ Try.prog 77 (uFC (Yf x C all XP XW (l++[c]) h s (XV x C all d l s h c))))(s:MsS)(h:Int→Bool):QQ Try.prog 77 (uFC (Yf x C all XP XW l h s (onT x C (msY all) (d+1) l s h))):=by
 obtain⟨s',h',he⟩:=Z1 (C:=C) (x:=x) (Y:=msY all) (fun _ _=>rfl) (d+1) l s h;rw[he];have hc:Jp (Jf x l (XV x C all d l)) (QN C l.length) s h = .go s' h':=he;have hCn:=hC.n;refine VZ (E:=mkE Try.prog Qy) (QR KK) Try.func77 (by kernel_rfl) (by kernel_rfl) (QK1 ..) (QRg hx hC hl hls IH s h (X:=[(True,.exit 0,msE XP XW l h' s'.1 s'.2.1 s'.2.2)]) ?_) ⟨?_⟩
 ·intro e J hr;unfold ZQ at hr;simp only[List.drop_zero,hc]at hr;exact⟨_,List.mem_cons_self,trivial,hr.1.symm,hr.2.symm⟩
 ·refine KF (QVP x C all (QN C l.length) l h s.1 s.2.1 s.2.2 h' s'.1 s'.2.1 s'.2.2) ?_;refine QK (fun q=>by simp at q;omega) (fun _=>QF (by simp;omega) (QF (by simp;omega) ?_))
  repeat' first|refine Qa (p:=_=_) rfl ?_|refine Qa (p:=_≤_) (qlr _) ?_|refine Qa (p:=QE _ _ _ _) (qRr) ?_|refine Qa (p:=Ku _ _ _ _ _ _) (Q0 _ _ _ _) ?_|refine Qa (p:=K8 _ _ _ _ _ _) (XC _ _ _) ?_
  refine KQ fun _=>KN fun g=>⟨rfl,rfl,_,QR5 x C all l h s.1 s.2.1 s.2.2 h' s'.1 s'.2.1 s'.2.2,?_⟩
  repeat' first|with_reducible refine Qc ?_ ?_|exact trivial|with_reducible rfl|exact qlr _|exact qRr|exact Q0 _ _ _ _|exact XC _ _ _|refine And.intro ?_ ?_
theorem QKd{x:QD}(hx:K6 x){C:List (List QC)}(hC:Z3 x C)(all:Int):∀(d:Nat) (l:List QC) (s:MsS) (h:Int→Bool),l.length+d=x.scans.n→(∀ c∈l,JW c)→QQ Try.prog 77 (uFC (Yf x C all XP XW l h s (onT x C (msY all) d l s h)))
 | 0,l,s,h,hn,hl=>QQ3 hx C all (by omega) hl s h
 | d+1,l,s,h,hn,hl=>QSV hx hC (by omega) hl (fun c hc s h=>QKd hx hC all d (l++[c]) s h (by simp;omega) (fun y hy=>by
   rcases List.mem_append.1 hy with q|q
   ·exact hl y q
   ·rw[List.mem_singleton.1 q];exact hC.s _ c hc)) s h
end Go.Proofs.Ytbpffdkemeoajaa
