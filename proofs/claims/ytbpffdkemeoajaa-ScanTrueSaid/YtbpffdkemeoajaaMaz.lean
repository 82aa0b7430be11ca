/- - -/
import Derived.Test.YtbpffdkemeoajaaMay
open Go.IntKind (i64)
set_option maxRecDepth 100000
namespace Go.Proofs.Ytbpffdkemeoajaa
open Go.SX
def QM(fn:Func)(k:Nat):Code×Code:=match (JB (Qr fn))[k]? with
 | some (.rangeFunc _ _ ac body)=>(ac,body)
 | _=>(.skip,.skip)
def srK(c:Nat)(x:QE)(C:List (List QB)):List AV:=Jt 0 x++[.slz c 0 C.length (.of 0)]
def msT:List AV:=[.ptr 48 0 0,.int true .i64 0,.fn (.func 54) [.ptr 16 0 0,.ptr 24 0 0,.ptr 160 0 0],.tup [],.ptr 208 0 0,.ptr 216 0 0,.int true .i64 0,.bool true false,.ptr 240 0 0,.tup [],.ptr 48 0 0,.fn (.func 76) [.ptr 264 0 0],.tup [],.tup [],.tup [],.tup [],.tup [],.tup [],.tup [],.tup [],.tup [],.tup []]
def QGI:List AV:=[.ptr 336 0 0,.ptr 264 0 0,.ptr 320 0 0,.ptr 304 0 0,.ptr 344 0 0]
variable {d:Nat}(C:List (List QB))(all:Int)(x:QE)(ac body:Code)(cs:List QB)(k:Nat)(l:List QB)(has has':Int→Bool)(many:Int)
def msR(C:List (List QB))(all:Int):List (Nat×Blk):=
 [(344,.cellsR 0 34 [.fn (.func 77) QGI]),(320,.cellsR 0 63 [.map 312]),(304,.cellsR 0 123 [.yld 297]),(264,.cellsR 0 89 [.ptr 48 0 0]),(216,.cellsR 0 101 [.fn (.func 54) [.ptr 16 0 0,.ptr 24 0 0,.ptr 160 0 0]]),(160,.cellsR 0 3 [.int false .i64 all]),(48,.cellsR 0 125 (srK 49 x C)),Y0 false 49 C]++VY 0 x
def msW(a:Nat)(has:Int→Bool)(many sure may:Int):List (Nat×Blk):=
 [(336,.cells 0 38 [.slz a 0 l.length (.of 0)]),rwL a l,(312,.mpf .i64 (.int true .i64 0) has fun i => .int false .i64 (QH l i)),(297,.lp .ready none msT #[12] ac body),(240,.cells 0 3 [.int false .i64 many]),(208,.cells 0 3 [.int false .i64 0]),(16,.cells 0 3 [.int false .i64 sure]),(24,.cells 0 3 [.int false .i64 may])]
def QCL(C:List (List QB))(all:Int)(ac body:Code)(l:List QB)(has:Int→Bool)(many sure may:Int):JSt:=
 ⟨5,[(0,.ptr 336 0 0),(1,.ptr 264 0 0),(2,.ptr 320 0 0),(3,.ptr 304 0 0),(4,.ptr 344 0 0)],msW ac body l 384 has many sure may++msR x C all,392⟩
def jv(pb:List Prop→Bool)(U:UC):Tab:=Qe Qn 54 (Jj pb U)
def msU(C:List (List QB))(all:Int)(ac body:Code)(l:List QB)(has:Int→Bool)(many sure may:Int)(has':Int→Bool)(many' sure' may':Int):UC:=
 ⟨376,QCL x C all ac body l has many sure may,fun _ => .bool false true,fun m=>msW ac body l m has' many' sure' may'⟩
def XO(pb1 pb2:List Prop→Bool)(x:QE)(C:List (List QB))(l:List QB)(U:UC):Tab:=Qe (Qe Qn 78 (Jj pb1 (ftU x C l))) 77 (Jj pb2 U)
def msJ(C:List (List QB))(all:Int)(ac body:Code)(cs l:List QB)(has:Int→Bool)(many sure may:Int)(k:Nat):JSt:=
 ⟨98,[(0,.ptr 336 0 0),(1,.ptr 264 0 0),(2,.ptr 320 0 0),(3,.ptr 304 0 0),(4,.ptr 344 0 0),(48,.slz 408 0 cs.length (.of 0)),(49,.int false .i64 cs.length),(50,.int false .i64 k)],
  (408,.frz [.int .i64,.int .i64] cs.length fun i=>QA.enc (cs.getD i ⟨0,0⟩))::msW ac body l 400 has many sure may++msR x C all,424⟩
def msE(many sure may:Int):JSt:=⟨98,[],msW ac body l 400 has many sure may,424⟩
def Zp:Ex→List Nat
 | .normal=>[0,1,2,3,4,48,49,50]
 | .exit _=>[]
 | .ret=>[5]
def Hi:List Nat:=[336,312,297,240,208,16,24]
noncomputable abbrev QEH:List AV:=
  [.nilp,.ptr 98 0 0,.ptr 336 0 0,.ptr 264 0 0,.ptr 320 0 0,.ptr 304 0 0,.ptr 344 0 0,.slz 408 0 cs.length cO,vi (cs.length:Int),.int false .i64
  (i64.wrap ((k:Int)+1))]
noncomputable abbrev Gz:Nat×Blk:=
  (297,.lp LoopState.ready none msT (Array.mk [12]) ac body)
noncomputable abbrev Hw:Nat×Blk:=
  (208,.cells 0 3 [vi 0])
noncomputable abbrev GW:Nat×Blk:=
  (264,.cellsR 0 89 [.ptr 48 0 0])
noncomputable abbrev QEy:Nat×Blk:=
  (344,.cellsR 0 34 [.fn (Fn.func 77) [.ptr 336 0 0,.ptr 264 0 0,.ptr 320 0 0,.ptr 304 0 0,.ptr 344 0 0]])
noncomputable abbrev QE8:Nat×Blk:=
  (408,.frz [.int .i64,.int .i64] cs.length fun i=>QA.enc (cs.getD i ⟨0,0⟩))
noncomputable abbrev zh:Nat×Blk:=
  (48,.cellsR 0 125 [vi x.d.play.length,vi x.d.play.slack,vi x.d.play.loose,vi x.d.play.damp.lo,.int false .i64
  x.d.play.damp.hi,vi x.d.wide,vi x.d.high,.bool false x.d.turn,.slz 0 0 x.d.ps.n cO,.slz 1 0 x.scans.n cO,.slz 2 0 x.hang.n (Cap.of
  0),vi x.lost,vi x.foreign,.slz 49 0 C.length cO])
noncomputable abbrev G3:Nat×Blk:=
  (160,.cellsR 0 3 [vi all])
noncomputable abbrev HH:Nat×Blk:=
  (216,.cellsR 0 101 [.fn (Fn.func 54) [.ptr 16 0 0,.ptr 24 0 0,.ptr 160 0 0]])
abbrev Y7:List CK:=
  [.int .i64,.int .i64,.int .i64,.int .i64,.int .i64,.int .i64,.int .i64,.int .i64,.int .i64,.int .i64,.int .i64,.int .i64,.int .i64,.int .i64,.int .i64,.int .i64,.int
  .i64,.int .i64,.int .i64,.int .i64,.int .i64,.int .i64,.int .i64,.int .i64,.int .i64,.int .i64,.int .i64,.int .i64]
noncomputable abbrev Hj:Nat×Blk:=
  (2,.frz [.int .i64,.int .i64,.int .i64,.int .i64] x.hang.n fun i=>QA.enc (x.hang.get i))
noncomputable abbrev H1:Nat×Blk:=
  (49,.frz2 false 38 [.int .i64,.int .i64] C.length (fun i=>(QJ C i).length) fun i j=>QA.enc ((QJ C i).getD j ⟨0,0⟩))
noncomputable abbrev QPm(all:Int)(body:Code)(cs:List QB)(has:Int→Bool)(l:List QB)(many:Int)(may:Int)(sure:Int)(x:QE):List (Nat×Blk):=
  [(336,.cells 0 38 [.slz 400 0 l.length cO]),(312,.mpf i64 (.int true .i64 0) has fun i => .int false .i64 (QH l i)),(Gz ac body),(240,.cells 0 3 [.int
  false .i64 many]),Hw,(16,.cells 0 3 [vi sure]),(24,.cells 0 3 [vi may]),GW,(320,.cellsR 0 63 [.map 312]),(304,.cellsR 0 123 [.yld 297]),
  QEy,(QE8 cs),(400,.rowz true 56 [.int .i64,.int .i64] l.length fun i=>QA.enc (l.getD i ⟨0,0⟩)),(zh C x),(G3 all),HH,(0,.frz Y7 x.d.ps.n fun i=>QA.enc
  (x.d.ps.get i)),(1,.frz Y7 x.scans.n fun i=>QA.enc (x.scans.get i)),(Hj x),(H1 C)]
noncomputable abbrev QCW:List AV:=
  [vi (cs.getD k ⟨0,0⟩).cell,vi (cs.getD k ⟨0,0⟩).turn]
noncomputable abbrev QNU(all:Int)(body:Code)(cs:List QB)(has:Int→Bool)(k:Nat)(l:List QB)(many:Int)(may:Int)(sure:Int)(x:QE):List (Nat×Blk):=
  [(336,.cells 0 38 [.slz 1112 0 (i64.wrap ((↑(l.length+1):Int)-1)).toNat cO]),(312,.mpf i64 (.int true .i64 0) (QW (cs.getD k ⟨0,0⟩).cell true
  (QW (cs.getD k ⟨0,0⟩).cell true has)) (Q9 (cs.getD k ⟨0,0⟩).cell (.int false .i64 (i64.wrap (toI (Bool.rec ((fun _=>(fun i => .int false .i64 (QH l i)) ((fun i=>
  QA.enc (cs.getD i ⟨0,0⟩)) ((k:Int).toNat+0) 0)) ()) ((fun _ => .int false .i64 (i64.wrap (toI ((fun i => .int false .i64 (QH l i)) ((fun i=>QA.enc (cs.getD i
  ⟨0,0⟩)) ((k:Int).toNat+0) 0))+1))) ()) (decide ((fun i=>QA.enc (cs.getD i ⟨0,0⟩)) ((k:Int).toNat+0) 0=(fun i=>QA.enc (cs.getD i ⟨0,0⟩)) ((k:Int).toNat+0)
  0)))-1))) (Q9 (cs.getD k ⟨0,0⟩).cell (.int false .i64 (i64.wrap (toI (.int false .i64 (QH l (cs.getD k ⟨0,0⟩).cell))+1))) fun i => .int false .i64 (QH l i)))),
  (Gz ac body),(240,.cells 0 3 [vi many]),Hw,(16,.cells 0 3 [vi sure]),(24,.cells 0 3 [vi may]),GW,(320,.cellsR 0 63 [.map
  312]),(304,.cellsR 0 123 [.yld 297]),QEy,(QE8 cs),(1112,.rowz true 56 [.int .i64,.int .i64] (l.length+1) (QY l.length (fun i=>QA.enc (l.getD i ⟨0,0⟩)) (QR
  [(QCW cs k)] 0))),(zh C x),(G3 all),HH,(0,.frz Y7 x.d.ps.n fun i=>QA.enc (x.d.ps.get i)),(1,.frz Y7 x.scans.n fun i=>QA.enc (x.scans.get i)),(Hj x),
  (H1 C)]
noncomputable abbrev QRN(k:Nat)(l2:List QB):Nat×Blk:=
  (312,.mpf i64 (.int true .i64 0) (QW (cs.getD k ⟨0,0⟩).cell true has') (Q9 (cs.getD k ⟨0,0⟩).cell (.int false .i64 (i64.wrap (toI (.int false .i64 (QH l2
  (cs.getD k ⟨0,0⟩).cell))-1))) fun i => .int false .i64 (QH l2 i)))
noncomputable abbrev QRF(all:Int)(body:Code)(cs:List QB)(has':Int→Bool)(k:Nat)(l2:List QB)(many':Int)(may':Int)(sure':Int)(x:QE):List (Nat×Blk):=
  [(336,.cells 0 38 [.slz 1224 0 (i64.wrap ((l2.length:Int)-1)).toNat cO]),(QRN cs has' k l2),(Gz ac body),(240,.cells 0 3 [vi many']),
  Hw,(16,.cells 0 3 [vi sure']),(24,.cells 0 3 [vi may']),GW,(320,.cellsR 0 63 [.map 312]),(304,.cellsR 0 123 [.yld 297]),QEy,(QE8 cs),
  (1224,.rowz true 56 [.int .i64,.int .i64] l2.length fun i=>QA.enc (l2.getD i ⟨0,0⟩)),(zh C x),(G3 all),HH,(0,.frz Y7 x.d.ps.n fun i=>QA.enc (x.d.ps.get i)),
  (1,.frz Y7 x.scans.n fun i=>QA.enc (x.scans.get i)),(Hj x),(H1 C)]
noncomputable abbrev QPI(all:Int)(body:Code)(has:Int→Bool)(l:List QB)(many:Int)(may:Int)(sure:Int)(x:QE):List (Nat×Blk):=
  [(336,.cells 0 38 [.slz 400 0 l.length cO]),(312,.mpf i64 (.int true .i64 0) has fun i => .int false .i64 (QH l i)),(Gz ac body),(240,.cells 0 3 [.int
  false .i64 many]),Hw,(16,.cells 0 3 [vi sure]),(24,.cells 0 3 [vi may]),(400,.rowz true 56 [.int .i64,.int .i64] l.length fun i=>QA.enc
  (l.getD i ⟨0,0⟩)),(zh C x),(G3 all),HH,GW,(0,.frz Y7 x.d.ps.n fun i=>QA.enc (x.d.ps.get i)),(1,.frz Y7 x.scans.n fun i=>QA.enc (x.scans.get i)),
  (Hj x),(H1 C)]
theorem QWx(pb1 pb2:List Prop→Bool)(x:QE)(C:List (List QB))(all:Int)(ac body:Code)(cs l l2:List QB)(has has2:Int→Bool)(many sure may:Int)(k:Nat)(has':Int→Bool)(many' sure' may':Int)(g:Nat→Value):exec (mkC Try.prog (XO pb1 pb2 x C l2 (msU x C all ac body l2 has2 many sure may has' many' sure' may'))) (hnd (mkC Try.prog (XO pb1 pb2 x C l2 (msU x C all ac body l2 has2
  many sure may has' many' sure' may'))) 0) (Qd Try.f77 0) (JSt.inst (msJ x C all ac body cs l has many sure may k) g) (KS Hi Zp) = .br (decide ((k:Int)<(cs.length :
  Int))) (.need (decide ((0:Int)≤(k:Int)∧(k:Int)<(cs.length:Int))&&decide (cs.length≤cs.length)) (.need (decide (k<cs.length)) (.all (fun(g0:Nat→Value)=>
  .need (isI i64 (.int false .i64 (QH l (cs.getD k ⟨0,0⟩).cell))) (.br (decide (toI (.int false .i64 (QH l (cs.getD k ⟨0,0⟩).cell))≥bif (cs.getD k ⟨0,0⟩).cell == -2
  then x.foreign else (1:Int))) (.leaf (.tup (QEH cs k)) ((QPm C ac all body cs has l many may sure x))) (.need (decide (l.length≤l.length)&&(true&&decide ((l.length+1 +
  (l.length+1) / 4+192)*16≤281474976710656∧l.length+1≤9223372036854775807))) (.need (isI i64 (.int false .i64 (QH l (cs.getD k ⟨0,0⟩).cell))) (.need (pb1 ([0
  = 0,0=0,0=0,l.length+1=l2.length,cO=cO,l2.length≤l.length+1,QC 2 l2.length (QY l.length (fun i=>QA.enc (l.getD i ⟨0,0⟩)) (QR [(QCW cs
  k)] 0)) fun i=>QA.enc (l2.getD i ⟨0,0⟩),x.d.play.length=x.d.play.length,x.d.play.slack=x.d.play.slack,x.d.play.loose=x.d.play.loose,x.d.play.damp.lo =
  x.d.play.damp.lo,x.d.play.damp.hi=x.d.play.damp.hi,x.d.wide=x.d.wide,x.d.high=x.d.high,x.d.turn=x.d.turn,0=0,x.d.ps.n=x.d.ps.n,cO=cO,0=0,
  x.scans.n=x.scans.n,cO=cO,0=0,x.hang.n=x.hang.n,cO=cO,x.lost=x.lost,x.foreign=x.foreign,0=0,C.length=C.length,cO=cO,
  C.length=C.length,Kd 2 C.length (fun i=>(QJ C i).length) (fun i=>(QJ C i).length) (fun i j=>QA.enc ((QJ C i).getD j ⟨0,0⟩)) fun i j=>QA.enc ((QJ C
  i).getD j ⟨0,0⟩),x.d.ps.n≤x.d.ps.n,QC 28 x.d.ps.n (fun i=>QA.enc (x.d.ps.get i)) fun i=>QA.enc (x.d.ps.get i),x.scans.n≤x.scans.n,QC 28 x.scans.n (fun i=>
  QA.enc (x.scans.get i)) fun i=>QA.enc (x.scans.get i),x.hang.n≤x.hang.n,QC 4 x.hang.n (fun i=>QA.enc (x.hang.get i)) fun i=>QA.enc (x.hang.get i)])) (.br
  (!Kj x l2) (.need (isI i64 (Bool.rec ((fun _=>(fun i => .int false .i64 (QH l i)) ((fun i=>QA.enc (cs.getD i ⟨0,0⟩)) ((k:Int).toNat+0) 0)) ()) ((fun _=>
  .int false .i64 (i64.wrap (toI ((fun i => .int false .i64 (QH l i)) ((fun i=>QA.enc (cs.getD i ⟨0,0⟩)) ((k:Int).toNat+0) 0))+1))) ()) (decide ((fun i=>
  QA.enc (cs.getD i ⟨0,0⟩)) ((k:Int).toNat+0) 0=(fun i=>QA.enc (cs.getD i ⟨0,0⟩)) ((k:Int).toNat+0) 0)))) (.need (decide ((0:Int)≤i64.wrap ((↑(l.length +
  1):Int)-1)∧(i64.wrap ((↑(l.length+1):Int)-1)).toNat≤l.length+1-0)) (.leaf (.tup (QEH cs k)) ((QNU C ac all body cs has k l many may sure x))))) (.need
  (pb2 ([0=0,0=0,0=0,0=0,0=0,0=0,0=0,0=0,0=0,0=0,0=0,l.length+1=l2.length,cO=cO,l2.length≤l.length+1,QC 2 l2.length
  (QY l.length (fun i=>QA.enc (l.getD i ⟨0,0⟩)) (QR [(QCW cs k)] 0)) fun i=>QA.enc (l2.getD i ⟨0,0⟩),KA (.int true .i64 0) (.int true .i64 0) (QW (cs.getD k ⟨0,
  0⟩).cell true has) has2 (Q9 (cs.getD k ⟨0,0⟩).cell (.int false .i64 (i64.wrap (toI (.int false .i64 (QH l (cs.getD k ⟨0,0⟩).cell))+1))) fun i => .int false .i64
  (QH l i)) fun i => .int false .i64 (QH l2 i),LoopState.ready=LoopState.ready,(none:Option Code)=none,Array.mk [12]=Array.mk [12],ac=ac,body=body,0=0,0=0,
  (0:Int)=0,Fn.func 54=Fn.func 54,0=0,0=0,0=0,0=0,0=0,0=0,0=0,0=0,0=0,0=0,(0:Int)=0,false=false,0=0,0=0,0=0,0=0,Fn.func 76 =
  Fn.func 76,0=0,0=0,many=many,(0:Int)=0,sure=sure,may=may,Fn.func 77=Fn.func 77,0=0,0=0,0=0,0=0,0=0,0=0,0=0,0=0,0=0,0=0,0=0,0
  = 0,Fn.func 54=Fn.func 54,0=0,0=0,0=0,0=0,0=0,0=0,all=all,x.d.play.length=x.d.play.length,x.d.play.slack=x.d.play.slack,x.d.play.loose =
  x.d.play.loose,x.d.play.damp.lo=x.d.play.damp.lo,x.d.play.damp.hi=x.d.play.damp.hi,x.d.wide=x.d.wide,x.d.high=x.d.high,x.d.turn=x.d.turn,0=0,x.d.ps.n=x.d.ps.n,
  cO=cO,0=0,x.scans.n=x.scans.n,cO=cO,0=0,x.hang.n=x.hang.n,cO=cO,x.lost=x.lost,x.foreign=x.foreign,0=0,C.length =
  C.length,cO=cO,C.length=C.length,Kd 2 C.length (fun i=>(QJ C i).length) (fun i=>(QJ C i).length) (fun i j=>QA.enc ((QJ C i).getD j ⟨0,0⟩)) fun
  i j=>QA.enc ((QJ C i).getD j ⟨0,0⟩),x.d.ps.n≤x.d.ps.n,QC 28 x.d.ps.n (fun i=>QA.enc (x.d.ps.get i)) fun i=>QA.enc (x.d.ps.get i),x.scans.n≤x.scans.n,
  QC 28 x.scans.n (fun i=>QA.enc (x.scans.get i)) fun i=>QA.enc (x.scans.get i),x.hang.n≤x.hang.n,QC 4 x.hang.n (fun i=>QA.enc (x.hang.get i)) fun i=>
  QA.enc (x.hang.get i)])) (.need (isI i64 (.int false .i64 (QH l2 (cs.getD k ⟨0,0⟩).cell))) (.need (decide ((0:Int)≤i64.wrap ((l2.length:Int)-1) ∧
  (i64.wrap ((l2.length:Int)-1)).toNat≤l2.length-0)) (.br (false) (.leaf (.tup [.nili,.ptr 98 0 0,.bool true false]) ([(336,.cells 0 38 [.slz 1224 0
  (i64.wrap ((l2.length:Int)-1)).toNat cO]),(QRN cs has' k l2),(Gz ac body),(240,.cells 0 3 [vi many']),Hw,(16,.cells 0 3 [.int false
  .i64 sure']),(24,.cells 0 3 [vi may']),(1224,.rowz true 56 [.int .i64,.int .i64] l2.length fun i=>QA.enc (l2.getD i ⟨0,0⟩)),(zh C x),(G3 all),HH,
  GW,(0,.frz Y7 x.d.ps.n fun i=>QA.enc (x.d.ps.get i)),(1,.frz Y7 x.scans.n fun i=>QA.enc (x.scans.get i)),(Hj x),(H1 C)])) (.leaf (.tup (QEH cs k)) ((QRF
  C ac all body cs has' k l2 many' may' sure' x)))))))))))))))) (.leaf (.tup [.ptr 0 0 0,.ptr 98 0 0]) ((QPI C ac all body has l many may sure x))):=by kernel_rfl
noncomputable abbrev QGx:List AV:=
  [.ptr 336 0 0,.ptr 264 0 0,.ptr 320 0 0,.ptr 304 0 0,.ptr 344 0 0,.slz 408 0 cs.length cO,vi (cs.length:Int),vi (i64.wrap ((k :
  Int)+1))]
abbrev Vg:List Prop:=
  [0=0,0=0,0=0,0=0,0=0,0=0]
abbrev Yo:List Prop:=
  [0=0,0=0,0=0,0=0]
abbrev QEV(k':Nat):List Prop:=
  [0=0,cs.length=cs.length,cO=cO,(cs.length:Int)=(cs.length:Int),i64.wrap ((k:Int)+1)=(k':Int),cs.length≤cs.length,QC 2 cs.length
  (fun i=>QA.enc (cs.getD i ⟨0,0⟩)) fun i=>QA.enc (cs.getD i ⟨0,0⟩),0=0]
abbrev QLA(l:List QB):List Prop:=
  [cO=cO,l.length≤l.length,QC 2 l.length (fun i=>QA.enc (l.getD i ⟨0,0⟩)) fun i=>QA.enc (l.getD i ⟨0,0⟩),KA (.int true .i64 0) (.int true .i64 0)
  has has (fun i => .int false .i64 (QH l i)) fun i => .int false .i64 (QH l i),LoopState.ready=LoopState.ready,(none:Option Code)=none,Array.mk [12]=Array.mk [(12 :
  Tmp)],ac=ac,body=body,0=0,0=0,(0:Int)=0,Fn.func (54:FuncId)=Fn.func (54:FuncId)]
abbrev QGP:List Prop:=
  [Fn.func (76:FuncId)=Fn.func (76:FuncId),0=0,0=0,many=many,(0:Int)=0]
abbrev QHR:List Prop:=
  [x.d.play.length=x.d.play.length,x.d.play.slack=x.d.play.slack,x.d.play.loose=x.d.play.loose,x.d.play.damp.lo=x.d.play.damp.lo,x.d.play.damp.hi=x.d.play.damp.hi,
  x.d.wide=x.d.wide,x.d.high=x.d.high,x.d.turn=x.d.turn,0=0,x.d.ps.n=x.d.ps.n,cO=cO,0=0,x.scans.n=x.scans.n,cO=cO,0=0,x.hang.n =
  x.hang.n,cO=cO,x.lost=x.lost,x.foreign=x.foreign,0=0,C.length=C.length,cO=cO,C.length=C.length,Kd 2 C.length (fun i=>(QJ C
  i).length) (fun i=>(QJ C i).length) (fun i j=>QA.enc ((QJ C i).getD j ⟨0,0⟩)) fun i j=>QA.enc ((QJ C i).getD j ⟨0,0⟩),x.d.ps.n≤x.d.ps.n,QC 28 x.d.ps.n (fun
  i=>QA.enc (x.d.ps.get i)) fun i=>QA.enc (x.d.ps.get i),x.scans.n≤x.scans.n,QC 28 x.scans.n (fun i=>QA.enc (x.scans.get i)) fun i=>QA.enc (x.scans.get i),
  x.hang.n≤x.hang.n,QC 4 x.hang.n (fun i=>QA.enc (x.hang.get i)) fun i=>QA.enc (x.hang.get i)]
theorem Qb6(C:List (List QB))(all:Int)(ac body:Code)(cs l:List QB)(has:Int→Bool)(many sure may:Int)(k k':Nat):QK 392 (QGx cs k) ((QPm C ac all body cs has l many may sure x)) (msJ x C all ac body cs l has many sure may k')=(some (Vg++Yo++(QEV cs k k')++[l.length =
  l.length]++(QLA ac body has l)++Vg++Yo++[(0:Int)=0,false=false]++Yo++(QGP many)++[sure=sure,may=may,Fn.func 77=Fn.func (77:FuncId)] ++
  Vg++Vg++[Fn.func 54=Fn.func (54:FuncId)]++Vg++[all=all]++(QHR C x))):=by kernel_rfl
abbrev QPs:List Prop:=
  [(none:Option Code)=none,Array.mk [12]=Array.mk [(12:Tmp)],ac=ac,body=body,0=0,0=0,(0:Int)=0,Fn.func (54:FuncId)=Fn.func (54:FuncId)]
theorem QTM(x:QE)(C:List (List QB))(all:Int)(ac body:Code)(cs l:List QB)(has h':Int→Bool)(many sure may:Int)(k k':Nat):QK 392 (QGx cs k) ((QNU C ac all body cs has k l many may sure x)) (msJ x C all ac body cs l h' many sure may k')=(some (Vg++Yo++(QEV cs k k') ++
  [(i64.wrap ((↑(l.length+1):Int)-1)).toNat=l.length,cO=cO,l.length≤l.length+1,QC 2 l.length (QY l.length (fun i=>QA.enc (l.getD i ⟨0,
  0⟩)) (QR [(QCW cs k)] 0)) fun i=>QA.enc (l.getD i ⟨0,0⟩),KA (.int true .i64 0) (.int true .i64 0) (QW (cs.getD k ⟨0,0⟩).cell true (QW (cs.getD k ⟨0,0⟩).cell true
  has)) h' (Q9 (cs.getD k ⟨0,0⟩).cell (.int false .i64 (i64.wrap (toI (Bool.rec ((fun x=>(fun i => .int false .i64 (QH l i)) ((fun i=>QA.enc (cs.getD i ⟨0,0⟩)) ((k
  : Int).toNat+0) 0)) ()) ((fun x => .int false .i64 (i64.wrap (toI ((fun i => .int false .i64 (QH l i)) ((fun i=>QA.enc (cs.getD i ⟨0,0⟩)) ((k:Int).toNat+0) 0))
  + 1))) ()) (decide ((fun i=>QA.enc (cs.getD i ⟨0,0⟩)) ((k:Int).toNat+0) 0=(fun i=>QA.enc (cs.getD i ⟨0,0⟩)) ((k:Int).toNat+0) 0)))-1))) (Q9 (cs.getD k ⟨0,
  0⟩).cell (.int false .i64 (i64.wrap (toI (.int false .i64 (QH l (cs.getD k ⟨0,0⟩).cell))+1))) fun i => .int false .i64 (QH l i))) fun i => .int false .i64 (QH l i),
  LoopState.ready=LoopState.ready]++(QPs ac body)++Vg++Yo++[(0:Int)=0,false=false]++Yo++(QGP many)++[sure=sure,may=may,Fn.func 77=Fn.func
  (77:FuncId)]++Vg++Vg++[Fn.func 54=Fn.func (54:FuncId)]++Vg++[all=all]++(QHR C x))):=by kernel_rfl
theorem QaY(C:List (List QB))(all:Int)(ac body:Code)(cs l l2:List QB)(k:Nat)(has' h':Int→Bool)(many' sure' may':Int)(k':Nat):QK 392 (QGx cs k) ((QRF C ac all body cs has' k l2 many' may' sure' x)) (msJ x C all ac body cs l h' many' sure' may' k')=(some (Vg++Yo++(QEV cs k k') ++
  [(i64.wrap ((l2.length:Int)-1)).toNat=l.length,cO=cO,l.length≤l2.length,QC 2 l.length (fun i=>QA.enc (l2.getD i ⟨0,0⟩)) fun i=>QA.enc
  (l.getD i ⟨0,0⟩),KA (.int true .i64 0) (.int true .i64 0) (QW (cs.getD k ⟨0,0⟩).cell true has') h' (Q9 (cs.getD k ⟨0,0⟩).cell (.int false .i64 (i64.wrap (toI
  (.int false .i64 (QH l2 (cs.getD k ⟨0,0⟩).cell))-1))) fun i => .int false .i64 (QH l2 i)) fun i => .int false .i64 (QH l i),LoopState.ready=LoopState.ready]++(QPs ac
  body)++Vg++Yo++[(0:Int)=0,false=false]++Yo++[Fn.func (76:FuncId)=Fn.func (76:FuncId),0=0,0=0,many'=many',(0:Int)=0,sure'=sure',may'
  = may',Fn.func 77=Fn.func (77:FuncId)]++Vg++Vg++[Fn.func 54=Fn.func (54:FuncId)]++Vg++[all=all]++(QHR C x))):=by kernel_rfl
theorem QdN(C:List (List QB))(all:Int)(ac body:Code)(l:List QB)(has:Int→Bool)(many sure may:Int):QK 392 [] ((QPI C ac all body has l many may sure x)) (msE ac body l has many sure may)=(some ([0=0,l.length=l.length]++(QLA ac body has l)++Vg++Yo++[(0 :
  Int)=0,false=false]++Yo++(QGP many)++[sure=sure,may=may])):=by kernel_rfl
abbrev MsS:=Int×Int×Int
def msY(s:MsS)(l:List QB):MsS×Bool:=((i64.wrap (s.1+1),VM s.2.1 (Kr l l.length),orN s.2.2 (VM all (Kr l l.length))),true)
def Zx(C:List (List QB))(all:Int)(ac body:Code)(l:List QB)(has:Int→Bool)(s:MsS):Res MsS→UC
 | .go s' h'=>msU x C all ac body l has s.1 s.2.1 s.2.2 h' s'.1 s'.2.1 s'.2.2
 | .stop s' h'=>msU x C all ac body l has s.1 s.2.1 s.2.2 h' s'.1 s'.2.1 s'.2.2
abbrev MsK:=Nat×MsS×(Int→Bool)
noncomputable def kPb:List Prop→Bool:=match decide (k<cs.length)with
 | true=>QS
 | false=>fun _=>false
def Yn(C:List (List QB))(all:Int)(d:Nat)(l:List QB)(s:MsS)(h:Int→Bool)(c:QB):Res MsS:=onT x C (msY all) d (l++[c]) s h
noncomputable def jS(P:Program)(x:QE)(C:List (List QB))(all:Int)(ac body:Code)(d:Nat)(cs l:List QB)(t:MsK):Env:=
 mkC P (XO (kPb cs t.1) (kPb cs t.1) x C (l++[cs.getD t.1 ⟨0,0⟩]) (Zx x C all ac body (l++[cs.getD t.1 ⟨0,0⟩]) (QW (cs.getD t.1 ⟨0,0⟩).cell true t.2.2) t.2.1 (Yn x C all d l t.2.1 (QW (cs.getD t.1 ⟨0,0⟩).cell true t.2.2) (cs.getD t.1 ⟨0,0⟩))))
def WC(C:List (List QB))(all:Int)(ac body:Code)(d:Nat)(cs l:List QB)(t:MsK)(e:Ex)(J:JSt):Prop:=match Jk (Kf x l (Yn x C all d l)) (cs.drop t.1) t.2.1 t.2.2 with
 | .go s h=>e = .exit 0∧J=msE ac body l h s.1 s.2.1 s.2.2
 | .stop _ _=>False
theorem K6{k n:Nat}(h:k<n)(hn:n≤1000):i64.wrap ((k:Int)+1)=((k+1:Nat):Int):=(w64 (by omega) (by omega)).trans (by omega)
set_option maxHeartbeats 1600000 in
theorem QS5(C:List (List QB))(all:Int)(ac body:Code)(d:Nat)(cs l:List QB)(hcs:cs.length≤1000)(hl:l.length≤1000):jN (fun t:MsK=>msJ x C all ac body cs l t.2.2 t.2.1.1 t.2.1.2.1 t.2.1.2.2 t.1) (fun t=>t.1≤cs.length) (fun t=>cs.length-t.1) (WC x C all ac body d cs l) 392 Zp Hi (jS Try.prog x C all ac body d cs l) (fun t=>hnd (jS Try.prog x C all ac body d cs l t) 0) (Qd Try.f77 0):=by
 refine⟨fun t g hk => ?_⟩;obtain⟨k,⟨many,sure,may⟩,has⟩:=t;have hk:k≤cs.length:=hk;obtain⟨s',h',hrec⟩:=ZL (C:=C) (x:=x) (Y:=msY all) (fun _ _=>rfl) d (l++[cs.getD k ⟨0,0⟩]) (many,sure,may) (QW (cs.getD k ⟨0,0⟩).cell true has);unfold jS;simp only;have hrec:Yn x C all d l (many,sure,may) (QW (cs.getD k ⟨0,0⟩).cell true has) (cs.getD k ⟨0,0⟩) = .go s' h':=hrec;rw[hrec];refine Q0 (QWx (kPb cs k) (kPb cs k) x C all ac body cs l (l++[cs.getD k ⟨0,0⟩]) has (QW (cs.getD k ⟨0,0⟩).cell true has) many sure may k h' s'.1 s'.2.1 s'.2.2 g) ?_;refine QI (fun h => ?_) (fun h => ?_)
 ·have h:k<cs.length:=by have:=qdt h;omega
  have hw:=K6 h hcs;have hpb:kPb cs k=QS:=by unfold kPb;rw[decide_eq_true h]
  rw[hpb];have step:=HI (f:=Kf x l (Yn x C all d l)) h (many,sure,may) has
  have next:∀{s2:MsS} {h2:Int→Bool},Kf x l (Yn x C all d l) (many,sure,may) has (cs.getD k ⟨0,0⟩) = .go s2 h2→∀ e J,WC x C all ac body d cs l (k+1,s2,h2) e J→WC x C all ac body d cs l (k,(many,sure,may),has) e J:=by
   intro s2 h2 he e J hr;unfold WC at hr ⊢;simp only at hr ⊢;rw[step,he];exact hr
  have one:∀ b,JG x l (cs.getD k ⟨0,0⟩)=b→Kf x l (Yn x C all d l) (many,sure,may) has (cs.getD k ⟨0,0⟩)=match b with
    | true => .go (many,sure,may) has
    | false=>match Kj x (l++[cs.getD k ⟨0,0⟩])with
     | false => .go (many,sure,may) (QW (cs.getD k ⟨0,0⟩).cell true (QW (cs.getD k ⟨0,0⟩).cell true has))
     | true => .go s' (QW (cs.getD k ⟨0,0⟩).cell true h'):=by
   intro b hb;unfold Kf;rw[hb,hrec];cases b
   ·cases Kj x (l++[cs.getD k ⟨0,0⟩])<;>rfl
   ·rfl
  refine QF (by simp;omega) (QF (by simp;omega) (KK fun _ => ?_))
  refine QF rfl (QI (fun hf => ?_) (fun hf=>QF (by simp;omega) (QF rfl (QF (Q4.2 ?_) (QI (fun hq => ?_) (fun hq => ?_))))))
  ·have hf:JG x l (cs.getD k ⟨0,0⟩)=true:=XB.trans hf;refine⟨(k+1,(many,sure,may),has),h,by show cs.length-(k+1)<cs.length-k;omega,next (one _ hf),rfl,rfl,_,Qb6 x C all ac body cs l has many sure may k (k+1),?_⟩
   repeat' first|with_reducible refine QN ?_ ?_|exact trivial|with_reducible rfl|exact qlr _|exact qRr|exact QZ _ _ _ _|exact K1 _ _ _|exact hw|refine And.intro ?_ ?_
  ·repeat' first|with_reducible refine QN ?_ ?_|exact trivial|with_reducible rfl|exact qlr _|exact qRr|exact QZ _ _ _ _|exact ZD _ _|exact ZG _ _|exact Y2 _ _ _ rfl|refine And.intro ?_ ?_
  ·have hf:JG x l (cs.getD k ⟨0,0⟩)=false:=XB.trans hf;have hq:Kj x (l++[cs.getD k ⟨0,0⟩])=false:=by simpa using hq
   have hp:=Hr l hl;have hp1:i64.wrap (((l.length+1:Nat):Int)-1)=l.length:=(w64 (by omega) (by omega)).trans (by omega)
   have ho:=one _ hf;rw[hq]at ho;refine QF (by simp[isI]) (QF (by rw[hp1];simp) ?_)
   refine⟨(k+1,(many,sure,may),QW (cs.getD k ⟨0,0⟩).cell true (QW (cs.getD k ⟨0,0⟩).cell true has)),h,by show cs.length-(k+1)<cs.length-k;omega,next ho,rfl,rfl,_,QTM x C all ac body cs l has (QW (cs.getD k ⟨0,0⟩).cell true (QW (cs.getD k ⟨0,0⟩).cell true has)) many sure may k (k+1),?_⟩
   repeat' first|with_reducible refine QN ?_ ?_|exact trivial|with_reducible rfl|exact qlr _|exact qRr|exact QZ _ _ _ _|exact hw|exact hp|exact Nat.le_succ _|exact H4 _ _|exact zq _ _ _ hl (by simp[toI];rfl) _|refine And.intro ?_ ?_
  ·have hf:JG x l (cs.getD k ⟨0,0⟩)=false:=XB.trans hf;have hq:Kj x (l++[cs.getD k ⟨0,0⟩])=true:=by simpa using hq
   have hp:=HX l (cs.getD k ⟨0,0⟩) hl
   have hp1:i64.wrap (((l++[cs.getD k ⟨0,0⟩]).length:Int)-1)=l.length:=by
    rw[List.length_append,List.length_singleton];exact(w64 (by omega) (by omega)).trans (by omega)
   have ho:=one _ hf;rw[hq]at ho;refine QF (Q4.2 ?_) (QF rfl (QF (by rw[hp1];simp) (QI (fun q=>by cases q) (fun _ => ?_))))
   ·repeat' first|with_reducible refine QN ?_ ?_|exact trivial|with_reducible rfl|exact qlr _|exact qRr|exact QZ _ _ _ _|exact ZD _ _|exact ZG _ _|exact Y2 _ _ _ rfl|exact H9 _ _ hl rfl _|refine And.intro ?_ ?_
   refine⟨(k+1,s',QW (cs.getD k ⟨0,0⟩).cell true h'),h,by show cs.length-(k+1)<cs.length-k;omega,next ho,rfl,rfl,_,QaY x C all ac body cs l (l++[cs.getD k ⟨0,0⟩]) k h' (QW (cs.getD k ⟨0,0⟩).cell true h') s'.1 s'.2.1 s'.2.2 (k+1),?_⟩
   repeat' first|with_reducible refine QN ?_ ?_|exact trivial|with_reducible rfl|exact qlr _|exact qRr|exact QZ _ _ _ _|exact hw|exact hp|exact(by simp:l.length≤(l++[cs.getD k ⟨0,0⟩]).length)|exact Gb _ _|exact Gq _ _ hl rfl _|refine And.intro ?_ ?_
 ·have h:cs.length≤k:=by have:=of_decide_eq_false h;omega
  have he:=Gk (f:=Kf x l (Yn x C all d l)) h (many,sure,may) has;refine⟨msE ac body l has many sure may,by unfold WC;simp only[he,and_self],rfl,rfl,_,QdN x C all ac body l has many sure may,?_⟩
  repeat' first|with_reducible refine QN ?_ ?_|exact trivial|with_reducible rfl|exact qlr _|exact qRr|exact QZ _ _ _ _|exact K1 _ _ _|refine And.intro ?_ ?_
abbrev msX(P:Program)(J:JSt)(X:List (Prop×Ex×JSt)):Hnd:={ hnd (mkE P Qn) 2 with loop:=fun _=>KN 392 Hi J X }
abbrev msN(P : Program)(T : Tab): Hnd := { hnd (mkE P T) 2 with loop := fun _ _ _ => .fail "a loop" }
noncomputable abbrev QHY:Nat×Blk:=
  (297,.lp LoopState.ready none msT (Array.mk [12]) (QM Try.f53 0).1 (QM Try.f53 0).2)
noncomputable abbrev QFV:Nat×Blk:=
  (208,.cells 0 3 [vi 0])
noncomputable abbrev QJK:Nat×Blk:=
  (48,.cellsR 0 125 [vi x.d.play.length,vi x.d.play.slack,vi x.d.play.loose,vi x.d.play.damp.lo,.int false .i64
  x.d.play.damp.hi,vi x.d.wide,vi x.d.high,.bool false x.d.turn,.slz 0 0 x.d.ps.n cO,.slz 1 0 x.scans.n cO,.slz 2 0 x.hang.n (Cap.of
  0),vi x.lost,vi x.foreign,.slz 49 0 C.length cO])
noncomputable abbrev QPF:Nat×Blk:=
  (216,.cellsR 0 101 [.fn (Fn.func 54) [.ptr 16 0 0,.ptr 24 0 0,.ptr 160 0 0]])
abbrev QDe:List CK:=
  [.int .i64,.int .i64,.int .i64,.int .i64,.int .i64,.int .i64,.int .i64,.int .i64,.int .i64,.int .i64,.int .i64,.int .i64,.int .i64,.int .i64,.int .i64,.int .i64,.int
  .i64,.int .i64,.int .i64,.int .i64,.int .i64,.int .i64,.int .i64,.int .i64,.int .i64,.int .i64,.int .i64,.int .i64]
noncomputable abbrev QQA:Nat×Blk:=
  (49,.frz2 false 38 [.int .i64,.int .i64] C.length (fun i=>(QJ C i).length) fun i j=>QA.enc ((QJ C i).getD j ⟨0,0⟩))
noncomputable abbrev QFG(l:List QB)(many:Int)(may:Int)(sure:Int)(x:QE):List (Nat×Blk):=
  [(336,.cells 0 38 [.slz 384 0 l.length cO]),(312,.mpf i64 (.int true .i64 0) has fun i => .int false .i64 (QH l i)),QHY,(240,.cells 0 3 [.int false .i64
  many]),QFV,(16,.cells 0 3 [vi sure]),(24,.cells 0 3 [vi may]),(384,.rowz true 56 [.int .i64,.int .i64] l.length fun i=>QA.enc (l.getD i ⟨0,
  0⟩)),(QJK C x),(160,.cellsR 0 3 [vi all]),QPF,(264,.cellsR 0 89 [.ptr 48 0 0]),(0,.frz QDe x.d.ps.n fun i=>QA.enc (x.d.ps.get i)),(1,.frz QDe
  x.scans.n fun i=>QA.enc (x.scans.get i)),(2,.frz [.int .i64,.int .i64,.int .i64,.int .i64] x.hang.n fun i=>QA.enc (x.hang.get i)),(QQA C)]
noncomputable abbrev QL0(hs:Int)(l:List QB)(many:Int)(may:Int)(sure:Int)(x:QE):List (Nat×Blk):=
  [(336,.cells 0 38 [.slz 384 0 l.length cO]),(312,.mpf i64 (.int true .i64 0) has fun i => .int false .i64 (QH l i)),QHY,(240,.cells 0 3 [.int false .i64
  (i64.wrap (many+1))]),QFV,(16,.cells 0 3 [vi (VM sure hs)]),(24,.cells 0 3 [vi (orN may (VM all hs))]),(384,.rowz true 56 [.int .i64,
  .int .i64] l.length fun i=>QA.enc (l.getD i ⟨0,0⟩)),(QJK C x),(160,.cellsR 0 3 [vi all]),QPF,(264,.cellsR 0 89 [.ptr 48 0 0]),(0,.frz QDe x.d.ps.n fun i
  => QA.enc (x.d.ps.get i)),(1,.frz QDe x.scans.n fun i=>QA.enc (x.scans.get i)),(2,.frz [.int .i64,.int .i64,.int .i64,.int .i64] x.hang.n fun i=>QA.enc (x.hang.get
  i)),(QQA C)]
theorem QHu(pb:List Prop→Bool)(x:QE)(C:List (List QB))(all:Int)(l:List QB)(has:Int→Bool)(many sure may hs:Int):(Vc (mkE Try.prog (jv pb (mmU l 0 sure may all hs))) (msN Try.prog (jv pb (mmU l 0 sure may all hs))) Try.f77 QGI (QCL x C all (QM Try.f53 0).1 (QM Try.f53
  0).2 l has many sure may).hp 392 fun v h _=>Yc Hi v h) = .br ((l.length:Int)==(x.scans.n:Int)) (.need (isI i64 (.int false .i64 (QH l (-2:Int)))) (.br
  (decide (i64.wrap ((x.d.ps.n:Int)-i64.wrap ((l.length:Int)-toI (.int false .i64 (QH l (-2:Int)))))>x.lost)) (.leaf (.bool true true) ((QFG C all has l
  many may sure x))) (.need (pb ([(0:Int)=0,0=0,l.length=l.length,Cap.of 0=Cap.of 0,0=0,0=0,0=0,0=0,0=0,0=0,l.length≤l.length,QC 2 l.length (fun
  i=>QA.enc (l.getD i ⟨0,0⟩)) fun i=>QA.enc (l.getD i ⟨0,0⟩),sure=sure,may=may,all=all])) (.leaf (.bool true true) ((QL0 C all has hs l many may sure x))))))
  (.need (decide ((0 : Int) ≤ (l.length : Int) ∧ (l.length : Int) < (C.length : Int)) && decide (C.length ≤ C.length)) (.need (decide (l.length < C.length)) (.fail ("a loop")))) := by kernel_rfl
abbrev QIQ(l:List QB):List Prop:=
  [true=true,0=0,l.length=l.length,cO=cO,l.length≤l.length,QC 2 l.length (fun i=>QA.enc (l.getD i ⟨0,0⟩)) fun i=>QA.enc (l.getD i ⟨0,0⟩),
  KA (.int true .i64 0) (.int true .i64 0) has has (fun i => .int false .i64 (QH l i)) fun i => .int false .i64 (QH l i),LoopState.ready=LoopState.ready,(none:Option
  Code)=none,Array.mk [12]=Array.mk [(12:Tmp)],(QM Try.f53 0).1=(QM Try.f53 0).1,(QM Try.f53 0).2=(QM Try.f53 0).2,0=0,0=0,(0:Int)=0,Fn.func
  (54:FuncId)=Fn.func (54:FuncId)]
abbrev ZX:List Prop:=
  [0=0,0=0,0=0,0=0]
theorem QVH(C:List (List QB))(all:Int)(l:List QB)(has:Int→Bool)(many sure may:Int):QK 392 [(.bool true true)] ((QFG C all has l many may sure x)) (Kk (msU x C all (QM Try.f53 0).1 (QM Try.f53 0).2 l has many sure may has many sure may))=(some
  ((QIQ has l)++ZX++ZX++[0=0,0=0,(0:Int)=0,false=false]++ZX++[Fn.func (76:FuncId)=Fn.func (76:FuncId),0=0,0=0,many=many,(0:Int)=0,
  sure=sure,may=may])):=by kernel_rfl
theorem QZu(C:List (List QB))(all:Int)(l:List QB)(has:Int→Bool)(many sure may hs many' sure' may':Int):QK 392 [(.bool true true)] ((QL0 C all has hs l many may sure x)) (Kk (msU x C all (QM Try.f53 0).1 (QM Try.f53 0).2 l has many sure may has many' sure' may'))=(some
  ((QIQ has l)++ZX++ZX++[0=0,0=0,(0:Int)=0,false=false]++ZX++[Fn.func (76:FuncId)=Fn.func (76:FuncId),0=0,0=0,i64.wrap (many+1) =
  many',(0:Int)=0,VM sure hs=sure',orN may (VM all hs)=may'])):=by kernel_rfl
noncomputable abbrev QOM(l:List QB)(many':Int)(may':Int)(sure':Int):List (Nat×Blk):=
  [(336,.cells 0 38 [.slz 400 0 l.length cO]),(312,.mpf i64 (.int true .i64 0) has' fun i => .int false .i64 (QH l i)),QHY,(240,.cells 0 3 [.int false .i64
  many']),QFV,(16,.cells 0 3 [vi sure']),(24,.cells 0 3 [vi may']),(400,.rowz true 56 [.int .i64,.int .i64] l.length fun i=>QA.enc (l.getD i ⟨0,
  0⟩))]
theorem Qcf(C:List (List QB))(all:Int)(cs l:List QB)(has:Int→Bool)(many sure may:Int)(has':Int→Bool)(many' sure' may':Int):(Vc (mkE Try.prog Qn) (msX Try.prog (msJ x C all (QM Try.f53 0).1 (QM Try.f53 0).2 cs l has many sure may 0) [(True,.exit 0,msE (QM Try.f53 0).1 (QM Try.f53
  0).2 l has' many' sure' may')]) Try.f77 QGI (QCL x C all (QM Try.f53 0).1 (QM Try.f53 0).2 l has many sure may).hp 392 fun v h _=>Yc Hi v h) = .br ((l.length :
  Int)==(x.scans.n:Int)) (.need (isI i64 (.int false .i64 (QH l (-2:Int)))) (.br (decide (i64.wrap ((x.d.ps.n:Int)-i64.wrap ((l.length:Int)-toI
  (.int false .i64 (QH l (-2 : Int))))) > x.lost)) (.leaf (.bool true true) ((QFG C all has l many may sure x))) (.fail ("a loop")))) (.need (decide ((0 : Int) ≤ (l.length : Int) ∧
  (l.length:Int)<(C.length:Int))&&decide (C.length≤C.length)) (.need (decide (l.length<C.length)) (.ask (0=0) (.ask (0=0) (.ask (0=0) (.ask (0=0) (.ask (0=0)
  (.ask (0=0) (.ask (0=0) (.ask (0=0) (.ask (0=0) (.ask (0=0) (.ask (0=0) (.ask ((QJ C l.length).length=cs.length) (.ask (Cap.of 0=Cap.of 0) (.ask ((↑(QJ C
  l.length).length:Int)=(cs.length:Int)) (.ask ((0:Int)=0) (.ask (cs.length≤(QJ C l.length).length) (.ask (QC 2 cs.length (fun j=>QA.enc ((QJ C l.length).getD
  j ⟨0,0⟩)) fun i=>QA.enc (cs.getD i ⟨0,0⟩)) (.ask (0=0) (.ask (l.length=l.length) (.ask (Cap.of 0=Cap.of 0) (.ask (l.length≤l.length) (.ask (QC 2 l.length (fun i=>
  QA.enc (l.getD i ⟨0,0⟩)) fun i=>QA.enc (l.getD i ⟨0,0⟩)) (.ask (KA (.int true .i64 0) (.int true .i64 0) has has (fun i => .int false .i64 (QH l i)) fun i => .int false
  .i64 (QH l i)) (.ask (LoopState.ready=LoopState.ready) (.ask ((none:Option Code)=none) (.ask (Array.mk [(12:Tmp)]=Array.mk [(12:Tmp)]) (.ask ((QM Try.f53 0).1 =
  (QM Try.f53 0).1) (.ask ((QM Try.f53 0).2=(QM Try.f53 0).2) (.ask (0=0) (.ask (0=0) (.ask ((0:Int)=0) (.ask (Fn.func (54:FuncId)=Fn.func (54:FuncId))
  (.ask (0=0) (.ask (0=0) (.ask (0=0) (.ask (0=0) (.ask (0=0) (.ask (0=0) (.ask (0=0) (.ask (0=0) (.ask (0=0) (.ask (0=0) (.ask ((0:Int)=0) (.ask (false =
  false) (.ask (0=0) (.ask (0=0) (.ask (0=0) (.ask (0=0) (.ask (Fn.func (76:FuncId)=Fn.func (76:FuncId)) (.ask (0=0) (.ask (0=0) (.ask (many=many) (.ask ((0:Int)
  = 0) (.ask (sure=sure) (.ask (may=may) (.ask (Fn.func (77:FuncId)=Fn.func (77:FuncId)) (.ask (0=0) (.ask (0=0) (.ask (0=0) (.ask (0=0) (.ask (0=0) (.ask (0=0)
  (.ask (0=0) (.ask (0=0) (.ask (0=0) (.ask (0=0) (.ask (0=0) (.ask (0=0) (.ask (Fn.func (54:FuncId)=Fn.func (54:FuncId)) (.ask (0=0) (.ask (0=0) (.ask (0=0)
  (.ask (0=0) (.ask (0=0) (.ask (0=0) (.ask (all=all) (.ask (x.d.play.length=x.d.play.length) (.ask (x.d.play.slack=x.d.play.slack) (.ask (x.d.play.loose=x.d.play.loose)
  (.ask (x.d.play.damp.lo=x.d.play.damp.lo) (.ask (x.d.play.damp.hi=x.d.play.damp.hi) (.ask (x.d.wide=x.d.wide) (.ask (x.d.high=x.d.high) (.ask (x.d.turn=x.d.turn) (.ask (0
  = 0) (.ask (x.d.ps.n=x.d.ps.n) (.ask (Cap.of 0=Cap.of 0) (.ask (0=0) (.ask (x.scans.n=x.scans.n) (.ask (Cap.of 0=Cap.of 0) (.ask (0=0) (.ask (x.hang.n=x.hang.n) (.ask
  (Cap.of 0=Cap.of 0) (.ask (x.lost=x.lost) (.ask (x.foreign=x.foreign) (.ask (0=0) (.ask (C.length=C.length) (.ask (Cap.of 0=Cap.of 0) (.ask (C.length=C.length) (.ask
  (Kd 2 C.length (fun i=>(QJ C i).length) (fun i=>(QJ C i).length) (fun i j=>QA.enc ((QJ C i).getD j ⟨0,0⟩)) fun i j=>QA.enc ((QJ C i).getD j ⟨0,0⟩)) (.ask
  (x.d.ps.n≤x.d.ps.n) (.ask (QC 28 x.d.ps.n (fun i=>QA.enc (x.d.ps.get i)) fun i=>QA.enc (x.d.ps.get i)) (.ask (x.scans.n≤x.scans.n) (.ask (QC 28 x.scans.n (fun i
  => QA.enc (x.scans.get i)) fun i=>QA.enc (x.scans.get i)) (.ask (x.hang.n≤x.hang.n) (.ask (QC 4 x.hang.n (fun i=>QA.enc (x.hang.get i)) fun i=>QA.enc (x.hang.get
  i)) (.asm (True) (.all (fun(g0:Nat→Value) => .leaf (.bool true true) ((QOM has' l many' may'
  sure'))))))))))))))))))))))))))))))))))))))))))))))))))))))))))))))))))))))))))))))))))))))))))))))))))))))))))))))))):=by kernel_rfl
theorem QcS(C:List (List QB))(all:Int)(l:List QB)(has:Int→Bool)(many sure may:Int)(has':Int→Bool)(many' sure' may':Int):QK 392 [(.bool true true)] ((QOM has' l many' may' sure')) (Kk (msU x C all (QM Try.f53 0).1 (QM Try.f53 0).2 l has many sure may has' many' sure' may'))=(some
  ([true=true,0=0,l.length=l.length,cO=cO,l.length≤l.length,QC 2 l.length (fun i=>QA.enc (l.getD i ⟨0,0⟩)) fun i=>QA.enc (l.getD i ⟨0,0⟩),
  KA (.int true .i64 0) (.int true .i64 0) has' has' (fun i => .int false .i64 (QH l i)) fun i => .int false .i64 (QH l i),LoopState.ready=LoopState.ready,(none:Option
  Code)=none,Array.mk [12]=Array.mk [(12:Tmp)],(QM Try.f53 0).1=(QM Try.f53 0).1,(QM Try.f53 0).2=(QM Try.f53 0).2,0=0,0=0,(0:Int)=0,Fn.func
  (54:FuncId)=Fn.func (54:FuncId)]++ZX++ZX++[0=0,0=0,(0:Int)=0,false=false]++ZX++[Fn.func (76:FuncId)=Fn.func (76:FuncId),0=0,0=0,many'
  = many',(0:Int)=0,sure'=sure',may'=may'])):=by kernel_rfl
noncomputable abbrev Yp:Code:=(QM Try.f53 0).1
noncomputable abbrev YZ:Code:=(QM Try.f53 0).2
theorem Xn(N M k nid:Nat)(h:N≤M+k):Je N M nid (M+k)=nid+k:=by
 have:Nat.blt (M+k) N=false:=ve (by omega)
 simp only[Je,this];omega
theorem zR{N M i:Nat}(h:i<N)(nid:Nat):Je N M nid i=i:=by
 simp only[Je,vI h]
structure Xt (x:QE) (C:List (List QB)):Prop where
 n:C.length=x.scans.n
 le:∀ i,(QJ C i).length≤1000
 s:∀ i,∀ c∈QJ C i,K4 c
theorem jz{α:Type}{l:List α}{i:Nat}{z:α}(h:i<l.length):l.getD i z∈l:=by
 rw[List.getD_eq_getElem?_getD,List.getElem?_eq_getElem h];exact List.getElem_mem h
theorem QAj{l:List QB}(hp:0<l.length)(hl:l.length≤1000)(h:∀ c∈l,K4 c):zD l:=⟨hp,hl,fun i hi=>h _ (jz hi)⟩
theorem QPV{l:List QB}(hl:l.length≤1000)(h:∀ c∈l,K4 c):ji l:=⟨hl,fun i hi=>by
 have:=(h _ (jz (z:=⟨0,0⟩) hi)).cell;omega⟩
theorem QDM{x:QE}{l:List QB}(h1:x.d.ps.n≤1000)(h2:l.length≤1000):decide (i64.wrap ((x.d.ps.n:Int)-i64.wrap ((l.length:Int)-QH l (-2)))>x.lost)=X2 x l:=by
 have a1:=QBH l (-2);have a2:=QB8 l (-2);rw[show i64.wrap ((l.length:Int)-QH l (-2))=(l.length:Int)-QH l (-2)from w64 (by omega) (by omega),show i64.wrap ((x.d.ps.n:Int)-((l.length:Int)-QH l (-2)))=(x.d.ps.n:Int)-((l.length:Int)-QH l (-2))from w64 (by omega) (by omega)]
 rfl
theorem QNL(C:List (List QB))(all:Int)(ac body:Code)(l:List QB)(has:Int→Bool)(many sure may:Int)(has':Int→Bool)(many' sure' may':Int):(msU x C all ac body l has many sure may has' many' sure' may').Ok:=by
 refine⟨(by decide:376≤392),rfl,rfl,?_,rfl,fun _ _=>rfl,fun nid h => ?_⟩
 ·intro q hq;simp only[UC.po,msU,msW,rwL,List.mem_cons,List.not_mem_nil,or_false]at hq;rcases hq with rfl|rfl|rfl|rfl|rfl|rfl|rfl|rfl<;>refine⟨rfl,rfl,rfl,?_⟩<;>first|exact fun _=>rfl|exact fun h=>absurd (show 392<376 from h) (by decide)
 ·have e0:=Xn 376 392 0 nid (by decide)
  simp only[UC.po,msU,msW,rwL,QCL,msT,List.map_cons,List.map_nil,Blk.mapId,AV.mapId,AV.mapIdL,Nat.add_zero]at e0 ⊢;rw[e0];rfl
theorem He(T:Tab)(hT:Qc T)(G:Ctx)(hrd:G.rd=none):KH (mkE Try.prog T) G (msN Try.prog T) (Qr Try.f77):=
 Jd (body:=Qd Try.f77 0) (QT hT) hrd (by kernel_rfl) (fun _ _ _ _ _ _ _ h _ _=>h.elim)
theorem QYw{x:QE}(hx:K7 x)(C:List (List QB))(all:Int){l:List QB}(hn:l.length=x.scans.n)(hl:∀ c∈l,K4 c)(s:MsS)(h:Int→Bool):QQ Try.prog 77 (uFC (Zx x C all Yp YZ l h s (Jp x (msY all) l s h))):=by
 obtain⟨many,sure,may⟩:=s;have hs:=hx.s;have hd:=hx.d.n9;have hT:Qc (jv QS (mmU l 0 sure may all (Kr l l.length))):=Q6.add (QWt l 0 sure may all (QPV (by omega) hl))
 have fin:∀(s':MsS),XE (jO (msU x C all Yp YZ l h many sure may h s'.1 s'.2.1 s'.2.2)) (Jw (mkE Try.prog (jv QS (mmU l 0 sure may all (Kr l l.length)))) (msN Try.prog (jv QS (mmU l 0 sure may all (Kr l l.length)))) Try.f77 (msU x C all Yp YZ l h many sure may h s'.1 s'.2.1 s'.2.2))→QQ Try.prog 77 (uFC (msU x C all Yp YZ l h many sure may h s'.1 s'.2.1 s'.2.2)):=fun s' hd=>
  JZ (E:=mkE Try.prog (jv QS (mmU l 0 sure may all (Kr l l.length)))) (QT hT) Try.func77 (by kernel_rfl) (by kernel_rfl) (QNL ..) (fun G h1 _=>He _ hT G h1) ⟨hd⟩
 have he:=QDM (x:=x) (l:=l) (by omega) (by omega)
 cases hb:X2 x l with
 | true=>
  rw[hb]at he;simp only[Jp,hb,Zx];refine fin (many,sure,may) (Q0 (QHu QS x C all l h many sure may (Kr l l.length)) ?_);refine QI (fun _=>QF rfl (QI (fun _ => ?_) (fun q=>Bool.noConfusion (show true=false from he.symm.trans q)))) (fun q=>by rw[hn]at q;simp at q)
  refine⟨rfl,rfl,_,QVH x C all l h many sure may,?_⟩
  repeat' first|with_reducible refine QN ?_ ?_|exact trivial|with_reducible rfl|exact qlr _|exact qRr|exact QZ _ _ _ _|exact K1 _ _ _|refine And.intro ?_ ?_
 | false=>
  rw[hb]at he;simp only[Jp,hb,msY,Zx];refine fin (i64.wrap (many+1),VM sure (Kr l l.length),orN may (VM all (Kr l l.length))) (Q0 (QHu QS x C all l h many sure may (Kr l l.length)) ?_);refine QI (fun _=>QF rfl (QI (fun q=>Bool.noConfusion (show true=false from q.symm.trans he)) (fun _=>QF (Q4.2 ?_) ?_))) (fun q=>by rw[hn]at q;simp at q)
  ·repeat' first|with_reducible refine QN ?_ ?_|exact trivial|with_reducible rfl|exact qlr _|exact qRr|refine And.intro ?_ ?_
  refine⟨rfl,rfl,_,QZu x C all l h many sure may (Kr l l.length) _ _ _,?_⟩
  repeat' first|with_reducible refine QN ?_ ?_|exact trivial|with_reducible rfl|exact qlr _|exact qRr|exact QZ _ _ _ _|exact K1 _ _ _|exact(show _=VM _ _ from rfl)|exact(show _=orN _ _ from rfl)|refine And.intro ?_ ?_
theorem QYQ{x:QE}(hx:K7 x){C:List (List QB)}{all:Int}{ac body:Code}{cs l:List QB}(hl:l.length<1000)(hls:∀ c∈l,K4 c)(hcs:∀ c∈cs,K4 c)(IH:∀ c∈cs,∀ s h,QQ Try.prog 77 (uFC (Zx x C all ac body (l++[c]) h s (Yn x C all d l s h c))))(t:MsK):(jS Try.prog x C all ac body d cs l t).Sound:=by
 unfold jS kPb;split
 ·rename_i hk;have hk:=qdt hk;have hm:=jz (z:=(⟨0,0⟩:QB)) hk;refine Wu ((Q6.add (QCI x C _ hx (QAj (by simp) (by simp;omega) ?_))).add (IH _ hm _ _))
  intro c hc;rcases List.mem_append.1 hc with h|h
  ·exact hls c h
  ·rw[List.mem_singleton.1 h];exact hcs _ hm
 ·exact Wu ((Q6.add (Zt (by kernel_rfl) _)).add (Zt (by kernel_rfl) _))
theorem QZT{x:QE}(hx:K7 x){C:List (List QB)}(hC:Xt x C){all:Int}{ac body:Code}{l:List QB}(hl:l.length+(d+1)=x.scans.n)(hls:∀ c∈l,K4 c)(IH:∀ c∈QJ C l.length,∀ s h,QQ Try.prog 77 (uFC (Zx x C all ac body (l++[c]) h s (Yn x C all d l s h c))))(s:MsS)(h:Int→Bool){X:List (Prop×Ex×JSt)}(hX:∀ e J,WC x C all ac body d (QJ C l.length) l (0,s,h) e J→∃ y∈X,y.1∧y.2.1=e∧y.2.2=J)(G:Ctx)(hrd:G.rd=none)(hG:G.n=392):
  KH (mkE Try.prog Qn) G (msX Try.prog (msJ x C all ac body (QJ C l.length) l h s.1 s.2.1 s.2.2 0) X) (Qr Try.f77):=by
 have hs:=hx.s;refine Jd (body:=Qd Try.f77 0) (QT Q6) hrd (by kernel_rfl) ?_
 have hE:=fun t=>QYQ hx (C:=C) (all:=all) (ac:=ac) (body:=body) (d:=d) (cs:=QJ C l.length) (l:=l) (by omega) hls (hC.s _) IH t
 refine zx (E0:=mkE Try.prog Qn) (E:=jS Try.prog x C all ac body d (QJ C l.length) l) (H:=fun t=>hnd (jS Try.prog x C all ac body d (QJ C l.length) l t) 0) (n0:=392) (s0:=(0,s,h)) (fun _=>rfl) hE (by omega) (fun t _=>Qz (hE t) 0 G _ hrd) (fun t _=>(by decide:392≤424)) ?_ (QS5 x C all ac body d (QJ C l.length) l (hC.le _) (by omega)) (Nat.zero_le _) hX
 intro t e J hr;unfold WC at hr;split at hr
 ·rw[hr.2];exact(by decide:392≤424)
 ·exact hr.elim
theorem QXF{x:QE}(hx:K7 x){C:List (List QB)}(hC:Xt x C){all:Int}{l:List QB}(hl:l.length+(d+1)=x.scans.n)(hls:∀ c∈l,K4 c)(IH:∀ c∈QJ C l.length,∀ s h,QQ Try.prog 77 (uFC (Zx x C all Yp YZ (l++[c]) h s (Yn x C all d l s h c))))(s:MsS)(h:Int→Bool):QQ Try.prog 77 (uFC (Zx x C all Yp YZ l h s (onT x C (msY all) (d+1) l s h))):=by
 obtain⟨s',h',he⟩:=ZL (C:=C) (x:=x) (Y:=msY all) (fun _ _=>rfl) (d+1) l s h;rw[he];have hc:Jk (Kf x l (Yn x C all d l)) (QJ C l.length) s h = .go s' h':=he;have hCn:=hC.n;refine JZ (E:=mkE Try.prog Qn) (QT Q6) Try.func77 (by kernel_rfl) (by kernel_rfl) (QNL ..) (QZT hx hC hl hls IH s h (X:=[(True,.exit 0,msE Yp YZ l h' s'.1 s'.2.1 s'.2.2)]) ?_) ⟨?_⟩
 ·intro e J hr;unfold WC at hr;simp only[List.drop_zero,hc]at hr;exact⟨_,List.mem_cons_self,trivial,hr.1.symm,hr.2.symm⟩
 ·refine Q0 (Qcf x C all (QJ C l.length) l h s.1 s.2.1 s.2.2 h' s'.1 s'.2.1 s'.2.2) ?_;refine QI (fun q=>by simp at q;omega) (fun _=>QF (by simp;omega) (QF (by simp;omega) ?_))
  repeat' first|refine Qb (p:=_=_) rfl ?_|refine Qb (p:=_≤_) (qlr _) ?_|refine Qb (p:=QC _ _ _ _) (qRr) ?_|refine Qb (p:=Kd _ _ _ _ _ _) (QZ _ _ _ _) ?_|refine Qb (p:=KA _ _ _ _ _ _) (K1 _ _ _) ?_
  refine KO fun _=>KK fun g=>⟨rfl,rfl,_,QcS x C all l h s.1 s.2.1 s.2.2 h' s'.1 s'.2.1 s'.2.2,?_⟩
  repeat' first|with_reducible refine QN ?_ ?_|exact trivial|with_reducible rfl|exact qlr _|exact qRr|exact QZ _ _ _ _|exact K1 _ _ _|refine And.intro ?_ ?_
theorem QQE{x:QE}(hx:K7 x){C:List (List QB)}(hC:Xt x C)(all:Int):∀(d:Nat) (l:List QB) (s:MsS) (h:Int→Bool),l.length+d=x.scans.n→(∀ c∈l,K4 c)→QQ Try.prog 77 (uFC (Zx x C all Yp YZ l h s (onT x C (msY all) d l s h)))
 | 0,l,s,h,hn,hl=>QYw hx C all (by omega) hl s h
 | d+1,l,s,h,hn,hl=>QXF hx hC (by omega) hl (fun c hc s h=>QQE hx hC all d (l++[c]) s h (by simp;omega) (fun y hy=>by
   rcases List.mem_append.1 hy with q|q
   ·exact hl y q
   ·rw[List.mem_singleton.1 q];exact hC.s _ c hc)) s h
end Go.Proofs.Ytbpffdkemeoajaa
