/- - -/
import Derived.Test.YtbpffdkemeoajaaMvz
open Go.IntKind (i64)
set_option maxRecDepth 100000
namespace Go.Proofs.Ytbpffdkemeoajaa
open Go.SX
def plT:List AV:=[.ptr 48 0 0,.agg Ga,.fn (.func 51) [],.tup [],.ptr 128 0 0,.ptr 136 0 0,.ptr 144 0 0,.bool true false,.ptr 160 0 0,.tup [],.ptr 48 0 0,.fn (.func 76) [.ptr 184 0 0],.tup [],.tup [],.tup [],.tup [],.tup [],.tup [],.tup [],.tup [],.tup [],.tup []]
def QBS:List AV:=[.ptr 256 0 0,.ptr 184 0 0,.ptr 240 0 0,.ptr 224 0 0,.ptr 264 0 0]
variable {d:Nat}(C:List (List QB))(ac:Code)(x:QE)(body:Code)(cs l:List QB)(has:Int→Bool)(k:Nat)(f:Nat→Int)(many:Int)(has':Int→Bool)(f':Nat→Int)
def plR(C:List (List QB)):List (Nat×Blk):=
 [(264,.cellsR 0 34 [.fn (.func 77) QBS]),(240,.cellsR 0 63 [.map 232]),(224,.cellsR 0 123 [.yld 217]),(184,.cellsR 0 89 [.ptr 48 0 0]),(136,.cellsR 0 99 [.fn (.func 51) []]),(48,.cellsR 0 125 (srK 49 x C)),Zt false 49 C]++Ve 0 x
def plW(a:Nat)(has:Int→Bool)(many:Int)(f:Nat→Int):List (Nat×Blk):=
 [(256,.cells 0 38 [.slz a 0 l.length (.of 0)]),rwL a l,(232,.mpf .i64 (.int true .i64 0) has fun i => .int false .i64 (QL l i)),(217,.lp .ready none plT #[12] ac body),(160,.cells 0 3 [.int false .i64 many]),(128,.cells 1 95 (WY f))]
def zt(C:List (List QB))(ac body:Code)(l:List QB)(has:Int→Bool)(many:Int)(f:Nat→Int):JSt:=
 ⟨5,[(0,.ptr 256 0 0),(1,.ptr 184 0 0),(2,.ptr 240 0 0),(3,.ptr 224 0 0),(4,.ptr 264 0 0)],plW ac body l 304 has many f++plR x C,312⟩
def plU(C:List (List QB))(ac body:Code)(l:List QB)(has:Int→Bool)(many:Int)(f:Nat→Int)(has':Int→Bool)(many':Int)(f':Nat→Int):UC:=
 ⟨296,zt x C ac body l has many f,fun _ => .bool false true,fun m=>plW ac body l m has' many' f'⟩
def plJ(C:List (List QB))(ac body:Code)(cs l:List QB)(has:Int→Bool)(many:Int)(f:Nat→Int)(k:Nat):JSt:=
 ⟨98,[(0,.ptr 256 0 0),(1,.ptr 184 0 0),(2,.ptr 240 0 0),(3,.ptr 224 0 0),(4,.ptr 264 0 0),(48,.slz 328 0 cs.length (.of 0)),(49,.int false .i64 cs.length),(50,.int false .i64 k)],
  (328,.frz [.int .i64,.int .i64] cs.length fun i=>QA.enc (cs.getD i ⟨0,0⟩))::plW ac body l 320 has many f++plR x C,344⟩
def plE(f:Nat→Int):JSt:=⟨98,[],plW ac body l 320 has many f,344⟩
def jq:List Nat:=[256,232,217,160,128]
noncomputable abbrev QDW:List AV:=
  [.nilp,.ptr 98 0 0,.ptr 256 0 0,.ptr 184 0 0,.ptr 240 0 0,.ptr 224 0 0,.ptr 264 0 0,.slz 328 0 cs.length cO,vi (cs.length:Int),.int false .i64
  (i64.wrap ((k:Int)+1))]
noncomputable abbrev zW:Nat×Blk:=
  (217,.lp LoopState.ready none plT (Array.mk [12]) ac body)
noncomputable abbrev QCq:Nat×Blk:=
  (128,.cells 1 95 [vi (f 0),vi (f 1),vi (f 2),vi (f 3),vi (f 4),vi (f 5),vi (f 6),
  .int false .i64 (f 7),vi (f 8),vi (f 9),vi (f 10),vi (f 11),vi (f 12)])
noncomputable abbrev vH:Nat×Blk:=
  (184,.cellsR 0 89 [.ptr 48 0 0])
noncomputable abbrev QDp:Nat×Blk:=
  (264,.cellsR 0 34 [.fn (Fn.func 77) [.ptr 256 0 0,.ptr 184 0 0,.ptr 240 0 0,.ptr 224 0 0,.ptr 264 0 0]])
noncomputable abbrev QDy:Nat×Blk:=
  (328,.frz [.int .i64,.int .i64] cs.length fun i=>QA.enc (cs.getD i ⟨0,0⟩))
noncomputable abbrev zG:Nat×Blk:=
  (48,.cellsR 0 125 [vi x.d.play.length,vi x.d.play.slack,vi x.d.play.loose,vi x.d.play.damp.lo,.int false .i64
  x.d.play.damp.hi,vi x.d.wide,vi x.d.high,.bool false x.d.turn,.slz 0 0 x.d.ps.n cO,.slz 1 0 x.scans.n cO,.slz 2 0 x.hang.n (Cap.of
  0),vi x.lost,vi x.foreign,.slz 49 0 C.length cO])
noncomputable abbrev vu:Nat×Blk:=
  (136,.cellsR 0 99 [.fn (Fn.func 51) []])
abbrev YR:List CK:=
  [.int .i64,.int .i64,.int .i64,.int .i64,.int .i64,.int .i64,.int .i64,.int .i64,.int .i64,.int .i64,.int .i64,.int .i64,.int .i64,.int .i64,.int .i64,.int .i64,.int
  .i64,.int .i64,.int .i64,.int .i64,.int .i64,.int .i64,.int .i64,.int .i64,.int .i64,.int .i64,.int .i64,.int .i64]
noncomputable abbrev vv:Nat×Blk:=
  (2,.frz [.int .i64,.int .i64,.int .i64,.int .i64] x.hang.n fun i=>QA.enc (x.hang.get i))
noncomputable abbrev zB:Nat×Blk:=
  (49,.frz2 false 38 [.int .i64,.int .i64] C.length (fun i=>(QM C i).length) fun i j=>QA.enc ((QM C i).getD j ⟨0,0⟩))
noncomputable abbrev QKt(has:Int→Bool)(l:List QB)(many:Int)(x:QE):List (Nat×Blk):=
  [(256,.cells 0 38 [.slz 320 0 l.length cO]),(232,.mpf i64 (.int true .i64 0) has fun i => .int false .i64 (QL l i)),(zW ac body),(160,.cells 0 3 [.int
  false .i64 many]),(QCq f),vH,(240,.cellsR 0 63 [.map 232]),(224,.cellsR 0 123 [.yld 217]),QDp,(QDy cs),(320,.rowz true 56 [.int .i64,.int .i64] l.length fun i=>
  QA.enc (l.getD i ⟨0,0⟩)),(zG C x),vu,(0,.frz YR x.d.ps.n fun i=>QA.enc (x.d.ps.get i)),(1,.frz YR x.scans.n fun i=>QA.enc (x.scans.get i)),(vv x),
  (zB C)]
noncomputable abbrev QAf:List AV:=
  [vi (cs.getD k ⟨0,0⟩).cell,vi (cs.getD k ⟨0,0⟩).turn]
noncomputable abbrev QEz(has:Int→Bool)(k:Nat)(l:List QB)(many:Int)(x:QE):List (Nat×Blk):=
  [(256,.cells 0 38 [.slz 952 0 (i64.wrap ((↑(l.length+1):Int)-1)).toNat cO]),(232,.mpf i64 (.int true .i64 0) (Ql (cs.getD k ⟨0,0⟩).cell true
  (Ql (cs.getD k ⟨0,0⟩).cell true has)) (KQ (cs.getD k ⟨0,0⟩).cell (.int false .i64 (i64.wrap (toI (Bool.rec ((fun _=>(fun i => .int false .i64 (QL l i)) ((fun i=>
  QA.enc (cs.getD i ⟨0,0⟩)) ((k:Int).toNat+0) 0)) ()) ((fun _ => .int false .i64 (i64.wrap (toI ((fun i => .int false .i64 (QL l i)) ((fun i=>QA.enc (cs.getD i
  ⟨0,0⟩)) ((k:Int).toNat+0) 0))+1))) ()) (decide ((fun i=>QA.enc (cs.getD i ⟨0,0⟩)) ((k:Int).toNat+0) 0=(fun i=>QA.enc (cs.getD i ⟨0,0⟩)) ((k:Int).toNat+0)
  0)))-1))) (KQ (cs.getD k ⟨0,0⟩).cell (.int false .i64 (i64.wrap (toI (.int false .i64 (QL l (cs.getD k ⟨0,0⟩).cell))+1))) fun i => .int false .i64 (QL l i)))),
  (zW ac body),(160,.cells 0 3 [vi many]),(QCq f),vH,(240,.cellsR 0 63 [.map 232]),(224,.cellsR 0 123 [.yld 217]),QDp,(QDy cs),(952,.rowz true 56
  [.int .i64,.int .i64] (l.length+1) (QX l.length (fun i=>QA.enc (l.getD i ⟨0,0⟩)) (QR [(QAf cs k)] 0))),(zG C x),vu,(0,.frz YR x.d.ps.n fun i=>QA.enc
  (x.d.ps.get i)),(1,.frz YR x.scans.n fun i=>QA.enc (x.scans.get i)),(vv x),(zB C)]
noncomputable abbrev QLT(k:Nat)(l2:List QB):Nat×Blk:=
  (232,.mpf i64 (.int true .i64 0) (Ql (cs.getD k ⟨0,0⟩).cell true has') (KQ (cs.getD k ⟨0,0⟩).cell (.int false .i64 (i64.wrap (toI (.int false .i64 (QL l2
  (cs.getD k ⟨0,0⟩).cell))-1))) fun i => .int false .i64 (QL l2 i)))
noncomputable abbrev QLf:Nat×Blk:=
  (128,.cells 1 95 [vi (f' 0),vi (f' 1),vi (f' 2),vi (f' 3),vi (f' 4),vi (f' 5),.int false .i64
  (f' 6),vi (f' 7),vi (f' 8),vi (f' 9),vi (f' 10),vi (f' 11),vi (f' 12)])
noncomputable abbrev QHc(has':Int→Bool)(k:Nat)(l2:List QB)(many':Int)(x:QE):List (Nat×Blk):=
  [(256,.cells 0 38 [.slz 1064 0 (i64.wrap ((l2.length:Int)-1)).toNat cO]),(QLT cs has' k l2),(zW ac body),(160,.cells 0 3 [vi many']),
  (QLf f'),vH,(240,.cellsR 0 63 [.map 232]),(224,.cellsR 0 123 [.yld 217]),QDp,(QDy cs),(1064,.rowz true 56 [.int .i64,.int .i64] l2.length fun i=>QA.enc
  (l2.getD i ⟨0,0⟩)),(zG C x),vu,(0,.frz YR x.d.ps.n fun i=>QA.enc (x.d.ps.get i)),(1,.frz YR x.scans.n fun i=>QA.enc (x.scans.get i)),(vv x),(zB C)]
noncomputable abbrev QHn(has:Int→Bool)(l:List QB)(many:Int)(x:QE):List (Nat×Blk):=
  [(256,.cells 0 38 [.slz 320 0 l.length cO]),(232,.mpf i64 (.int true .i64 0) has fun i => .int false .i64 (QL l i)),(zW ac body),(160,.cells 0 3 [.int
  false .i64 many]),(QCq f),(320,.rowz true 56 [.int .i64,.int .i64] l.length fun i=>QA.enc (l.getD i ⟨0,0⟩)),(zG C x),vu,vH,(0,.frz YR x.d.ps.n fun i=>
  QA.enc (x.d.ps.get i)),(1,.frz YR x.scans.n fun i=>QA.enc (x.scans.get i)),(vv x),(zB C)]
theorem QU0(pb1 pb2:List Prop→Bool)(x:QE)(C:List (List QB))(ac body:Code)(cs l l2:List QB)(has has2:Int→Bool)(many:Int)(f:Nat→Int)(k:Nat)(has':Int→Bool)(many':Int)(f':Nat→Int)(g:Nat→Value):exec (mkC Try.prog (Zm pb1 pb2 x C l2 (plU x C ac body l2 has2 many f has' many' f'))) (hnd (mkC Try.prog (Zm pb1 pb2 x C l2 (plU x C ac body l2 has2 many f has' many' f')))
  0) (Qa Try.f77 0) (JSt.inst (plJ x C ac body cs l has many f k) g) (KL jq ju) = .br (decide ((k:Int)<(cs.length:Int))) (.need (decide ((0:Int)≤(k:Int)∧(k :
  Int)<(cs.length:Int))&&decide (cs.length≤cs.length)) (.need (decide (k<cs.length)) (.all (fun(g0:Nat→Value) => .need (isI i64 (.int false .i64 (QL l
  (cs.getD k ⟨0,0⟩).cell))) (.br (decide (toI (.int false .i64 (QL l (cs.getD k ⟨0,0⟩).cell))≥bif (cs.getD k ⟨0,0⟩).cell == -2 then x.foreign else (1:Int))) (.leaf (.tup
  (QDW cs k)) ((QKt C ac body cs f has l many x))) (.need (decide (l.length≤l.length)&&(true&&decide ((l.length+1+(l.length+1) / 4+192)*16≤281474976710656 ∧
  l.length+1≤9223372036854775807))) (.need (isI i64 (.int false .i64 (QL l (cs.getD k ⟨0,0⟩).cell))) (.need (pb1 ([0=0,0=0,0=0,l.length+1=l2.length,Cap.of
  0=cO,l2.length≤l.length+1,QD 2 l2.length (QX l.length (fun i=>QA.enc (l.getD i ⟨0,0⟩)) (QR [(QAf cs k)] 0)) fun i=>QA.enc (l2.getD i ⟨0,0⟩),
  x.d.play.length=x.d.play.length,x.d.play.slack=x.d.play.slack,x.d.play.loose=x.d.play.loose,x.d.play.damp.lo=x.d.play.damp.lo,x.d.play.damp.hi=x.d.play.damp.hi,
  x.d.wide=x.d.wide,x.d.high=x.d.high,x.d.turn=x.d.turn,0=0,x.d.ps.n=x.d.ps.n,cO=cO,0=0,x.scans.n=x.scans.n,cO=cO,0=0,x.hang.n =
  x.hang.n,cO=cO,x.lost=x.lost,x.foreign=x.foreign,0=0,C.length=C.length,cO=cO,C.length=C.length,K0 2 C.length (fun i=>(QM C
  i).length) (fun i=>(QM C i).length) (fun i j=>QA.enc ((QM C i).getD j ⟨0,0⟩)) fun i j=>QA.enc ((QM C i).getD j ⟨0,0⟩),x.d.ps.n≤x.d.ps.n,QD 28 x.d.ps.n (fun
  i=>QA.enc (x.d.ps.get i)) fun i=>QA.enc (x.d.ps.get i),x.scans.n≤x.scans.n,QD 28 x.scans.n (fun i=>QA.enc (x.scans.get i)) fun i=>QA.enc (x.scans.get i),
  x.hang.n≤x.hang.n,QD 4 x.hang.n (fun i=>QA.enc (x.hang.get i)) fun i=>QA.enc (x.hang.get i)])) (.br (!Ku x l2) (.need (isI i64 (Bool.rec ((fun _=>(fun i
  => .int false .i64 (QL l i)) ((fun i=>QA.enc (cs.getD i ⟨0,0⟩)) ((k:Int).toNat+0) 0)) ()) ((fun _ => .int false .i64 (i64.wrap (toI ((fun i => .int false .i64
  (QL l i)) ((fun i=>QA.enc (cs.getD i ⟨0,0⟩)) ((k:Int).toNat+0) 0))+1))) ()) (decide ((fun i=>QA.enc (cs.getD i ⟨0,0⟩)) ((k:Int).toNat+0) 0=(fun i=>QA.enc
  (cs.getD i ⟨0,0⟩)) ((k:Int).toNat+0) 0)))) (.need (decide ((0:Int)≤i64.wrap ((↑(l.length+1):Int)-1)∧(i64.wrap ((↑(l.length+1):Int)-1)).toNat ≤
  l.length+1-0)) (.leaf (.tup (QDW cs k)) ((QEz C ac body cs f has k l many x))))) (.need (pb2 ([0=0,0=0,0=0,0=0,0=0,0=0,0=0,0=0,0=0,0=0,0=0,
  l.length+1=l2.length,cO=cO,l2.length≤l.length+1,QD 2 l2.length (QX l.length (fun i=>QA.enc (l.getD i ⟨0,0⟩)) (QR [(QAf cs k)] 0)) fun i=>
  QA.enc (l2.getD i ⟨0,0⟩),Kt (.int true .i64 0) (.int true .i64 0) (Ql (cs.getD k ⟨0,0⟩).cell true has) has2 (KQ (cs.getD k ⟨0,0⟩).cell (.int false .i64
  (i64.wrap (toI (.int false .i64 (QL l (cs.getD k ⟨0,0⟩).cell))+1))) fun i => .int false .i64 (QL l i)) fun i => .int false .i64 (QL l2 i),LoopState.ready =
  LoopState.ready,(none:Option Code)=none,Array.mk [12]=Array.mk [12],ac=ac,body=body,0=0,0=0,(0:Int)=0,(0:Int)=0,(0:Int)=0,(0:Int)=0,(0 :
  Int)=0,(0:Int)=0,(0:Int)=0,(0:Int)=0,(0:Int)=0,(0:Int)=0,(0:Int)=0,(0:Int)=0,(0:Int)=0,Fn.func 51=Fn.func 51,0=0,0=0,0=0,0 =
  0,0=0,0=0,false=false,0=0,0=0,0=0,0=0,Fn.func 76=Fn.func 76,0=0,0=0,many=many,f 0=f 0,f 1=f 1,f 2=f 2,f 3=f 3,f 4=f 4,f 5=f 5,f 6
  = f 6,f 7=f 7,f 8=f 8,f 9=f 9,f 10=f 10,f 11=f 11,f 12=f 12,Fn.func 77=Fn.func 77,0=0,0=0,0=0,0=0,0=0,0=0,0=0,0=0,0=0,0=0,0=0,
  0=0,Fn.func 51=Fn.func 51,x.d.play.length=x.d.play.length,x.d.play.slack=x.d.play.slack,x.d.play.loose=x.d.play.loose,x.d.play.damp.lo=x.d.play.damp.lo,
  x.d.play.damp.hi=x.d.play.damp.hi,x.d.wide=x.d.wide,x.d.high=x.d.high,x.d.turn=x.d.turn,0=0,x.d.ps.n=x.d.ps.n,cO=cO,0=0,x.scans.n=x.scans.n,
  cO=cO,0=0,x.hang.n=x.hang.n,cO=cO,x.lost=x.lost,x.foreign=x.foreign,0=0,C.length=C.length,cO=cO,C.length=C.length,
  K0 2 C.length (fun i=>(QM C i).length) (fun i=>(QM C i).length) (fun i j=>QA.enc ((QM C i).getD j ⟨0,0⟩)) fun i j=>QA.enc ((QM C i).getD j ⟨0,0⟩),
  x.d.ps.n≤x.d.ps.n,QD 28 x.d.ps.n (fun i=>QA.enc (x.d.ps.get i)) fun i=>QA.enc (x.d.ps.get i),x.scans.n≤x.scans.n,QD 28 x.scans.n (fun i=>QA.enc
  (x.scans.get i)) fun i=>QA.enc (x.scans.get i),x.hang.n≤x.hang.n,QD 4 x.hang.n (fun i=>QA.enc (x.hang.get i)) fun i=>QA.enc (x.hang.get i)])) (.need (isI
  i64 (.int false .i64 (QL l2 (cs.getD k ⟨0,0⟩).cell))) (.need (decide ((0:Int)≤i64.wrap ((l2.length:Int)-1)∧(i64.wrap ((l2.length:Int) -
  1)).toNat≤l2.length-0)) (.br (false) (.leaf (.tup [.nili,.ptr 98 0 0,.bool true false]) ([(256,.cells 0 38 [.slz 1064 0 (i64.wrap ((l2.length:Int)-1)).toNat
  cO]),(QLT cs has' k l2),(zW ac body),(160,.cells 0 3 [vi many']),(QLf f'),(1064,.rowz true 56 [.int .i64,.int .i64] l2.length fun i=>QA.enc
  (l2.getD i ⟨0,0⟩)),(zG C x),vu,vH,(0,.frz YR x.d.ps.n fun i=>QA.enc (x.d.ps.get i)),(1,.frz YR x.scans.n fun i=>QA.enc (x.scans.get i)),(vv x),(zB
  C)])) (.leaf (.tup (QDW cs k)) ((QHc C ac body cs f' has' k l2 many' x)))))))))))))))) (.leaf (.tup [.ptr 0 0 0,.ptr 98 0 0]) ((QHn C ac body f has l many x))):=by kernel_rfl
noncomputable abbrev QBC:List AV:=
  [.ptr 256 0 0,.ptr 184 0 0,.ptr 240 0 0,.ptr 224 0 0,.ptr 264 0 0,.slz 328 0 cs.length cO,vi (cs.length:Int),vi (i64.wrap ((k :
  Int)+1))]
abbrev XS:List Prop:=
  [0=0,0=0,0=0,0=0,0=0,0=0]
abbrev QEF(k':Nat):List Prop:=
  [0=0,0=0,0=0,0=0,0=0,cs.length=cs.length,cO=cO,(cs.length:Int)=(cs.length:Int),i64.wrap ((k:Int)+1)=(k':Int),cs.length ≤
  cs.length,QD 2 cs.length (fun i=>QA.enc (cs.getD i ⟨0,0⟩)) fun i=>QA.enc (cs.getD i ⟨0,0⟩),0=0]
abbrev QI7(l:List QB):List Prop:=
  [l.length=l.length,cO=cO,l.length≤l.length,QD 2 l.length (fun i=>QA.enc (l.getD i ⟨0,0⟩)) fun i=>QA.enc (l.getD i ⟨0,0⟩),Kt (.int true .i64 0)
  (.int true .i64 0) has has (fun i => .int false .i64 (QL l i)) fun i => .int false .i64 (QL l i),LoopState.ready=LoopState.ready,(none:Option Code)=none,Array.mk [12] =
  Array.mk [(12:Tmp)],ac=ac,body=body,0=0,0=0]
abbrev GV:List Prop:=
  [(0:Int)=0,(0:Int)=0,(0:Int)=0,(0:Int)=0,(0:Int)=0,(0:Int)=0,(0:Int)=0,(0:Int)=0]
abbrev QAM:List Prop:=
  [(0:Int)=0,(0:Int)=0,(0:Int)=0,(0:Int)=0]
abbrev QBE:List Prop:=
  [0=0,0=0,0=0,Fn.func (76:FuncId)=Fn.func (76:FuncId),0=0,0=0,many=many,f 0=f 0,f 1=f 1,f 2=f 2,f 3=f 3,f 4=f 4,f 5=f 5,f 6=f 6,f 7=f
  7,f 8=f 8,f 9=f 9,f 10=f 10,f 11=f 11,f 12=f 12]
abbrev QBj:List Prop:=
  [x.d.play.length=x.d.play.length,x.d.play.slack=x.d.play.slack,x.d.play.loose=x.d.play.loose,x.d.play.damp.lo=x.d.play.damp.lo,x.d.play.damp.hi=x.d.play.damp.hi,
  x.d.wide=x.d.wide,x.d.high=x.d.high,x.d.turn=x.d.turn,0=0,x.d.ps.n=x.d.ps.n,cO=cO,0=0,x.scans.n=x.scans.n,cO=cO,0=0,x.hang.n =
  x.hang.n,cO=cO,x.lost=x.lost,x.foreign=x.foreign,0=0,C.length=C.length,cO=cO,C.length=C.length,K0 2 C.length (fun i=>(QM C
  i).length) (fun i=>(QM C i).length) (fun i j=>QA.enc ((QM C i).getD j ⟨0,0⟩)) fun i j=>QA.enc ((QM C i).getD j ⟨0,0⟩),x.d.ps.n≤x.d.ps.n,QD 28 x.d.ps.n (fun
  i=>QA.enc (x.d.ps.get i)) fun i=>QA.enc (x.d.ps.get i),x.scans.n≤x.scans.n,QD 28 x.scans.n (fun i=>QA.enc (x.scans.get i)) fun i=>QA.enc (x.scans.get i),
  x.hang.n≤x.hang.n,QD 4 x.hang.n (fun i=>QA.enc (x.hang.get i)) fun i=>QA.enc (x.hang.get i)]
theorem QOE(C:List (List QB))(ac body:Code)(cs l:List QB)(has:Int→Bool)(many:Int)(f:Nat→Int)(k k':Nat):QK 312 (QBC cs k) ((QKt C ac body cs f has l many x)) (plJ x C ac body cs l has many f k')=(some (XS++(QEF cs k k')++(QI7 ac body has l)++GV++QAM++[(0 :
  Int)=0,Fn.func (51:FuncId)=Fn.func (51:FuncId)]++XS++[false=false,0=0]++(QBE f many)++[Fn.func 77=Fn.func (77:FuncId)]++XS++XS++[Fn.func
  51=Fn.func (51:FuncId)]++(QBj C x))):=by kernel_rfl
theorem QVr(x:QE)(C:List (List QB))(ac body:Code)(cs l:List QB)(has h':Int→Bool)(many:Int)(f:Nat→Int)(k k':Nat):QK 312 (QBC cs k) ((QEz C ac body cs f has k l many x)) (plJ x C ac body cs l h' many f k')=(some (XS++(QEF cs k k')++[(i64.wrap ((↑(l.length+1):Int) -
  1)).toNat=l.length,cO=cO,l.length≤l.length+1,QD 2 l.length (QX l.length (fun i=>QA.enc (l.getD i ⟨0,0⟩)) (QR [(QAf cs k)] 0)) fun i=>
  QA.enc (l.getD i ⟨0,0⟩),Kt (.int true .i64 0) (.int true .i64 0) (Ql (cs.getD k ⟨0,0⟩).cell true (Ql (cs.getD k ⟨0,0⟩).cell true has)) h' (KQ (cs.getD k ⟨0,0⟩).cell
  (.int false .i64 (i64.wrap (toI (Bool.rec ((fun x=>(fun i => .int false .i64 (QL l i)) ((fun i=>QA.enc (cs.getD i ⟨0,0⟩)) ((k:Int).toNat+0) 0)) ()) ((fun x=>
  .int false .i64 (i64.wrap (toI ((fun i => .int false .i64 (QL l i)) ((fun i=>QA.enc (cs.getD i ⟨0,0⟩)) ((k:Int).toNat+0) 0))+1))) ()) (decide ((fun i=>
  QA.enc (cs.getD i ⟨0,0⟩)) ((k:Int).toNat+0) 0=(fun i=>QA.enc (cs.getD i ⟨0,0⟩)) ((k:Int).toNat+0) 0)))-1))) (KQ (cs.getD k ⟨0,0⟩).cell (.int false .i64
  (i64.wrap (toI (.int false .i64 (QL l (cs.getD k ⟨0,0⟩).cell))+1))) fun i => .int false .i64 (QL l i))) fun i => .int false .i64 (QL l i),LoopState.ready =
  LoopState.ready,(none:Option Code)=none,Array.mk [12]=Array.mk [(12:Tmp)],ac=ac,body=body,0=0,0=0]++GV++QAM++[(0:Int)=0,Fn.func (51:FuncId) =
  Fn.func (51:FuncId)]++XS++[false=false,0=0]++(QBE f many)++[Fn.func 77=Fn.func (77:FuncId)]++XS++XS++[Fn.func 51=Fn.func (51:FuncId)] ++
  (QBj C x))):=by kernel_rfl
theorem QVX(C:List (List QB))(ac body:Code)(cs l l2:List QB)(k:Nat)(has' h':Int→Bool)(many':Int)(f':Nat→Int)(k':Nat):QK 312 (QBC cs k) ((QHc C ac body cs f' has' k l2 many' x)) (plJ x C ac body cs l h' many' f' k')=(some (XS++(QEF cs k k')++[(i64.wrap ((l2.length:Int) -
  1)).toNat=l.length,cO=cO,l.length≤l2.length,QD 2 l.length (fun i=>QA.enc (l2.getD i ⟨0,0⟩)) fun i=>QA.enc (l.getD i ⟨0,0⟩),Kt (.int true .i64
  0) (.int true .i64 0) (Ql (cs.getD k ⟨0,0⟩).cell true has') h' (KQ (cs.getD k ⟨0,0⟩).cell (.int false .i64 (i64.wrap (toI (.int false .i64 (QL l2 (cs.getD k ⟨0,
  0⟩).cell))-1))) fun i => .int false .i64 (QL l2 i)) fun i => .int false .i64 (QL l i),LoopState.ready=LoopState.ready,(none:Option Code)=none,Array.mk [12]=Array.mk
  [(12:Tmp)],ac=ac,body=body,0=0,0=0]++GV++QAM++[(0:Int)=0,Fn.func (51:FuncId)=Fn.func (51:FuncId)]++XS++[false=false,0=0,0=0,0 =
  0,0=0,Fn.func (76:FuncId)=Fn.func (76:FuncId),0=0,0=0,many'=many',f' 0=f' 0,f' 1=f' 1,f' 2=f' 2,f' 3=f' 3,f' 4=f' 4,f' 5=f' 5,f' 6=f' 6,f' 7
  = f' 7,f' 8=f' 8,f' 9=f' 9,f' 10=f' 10,f' 11=f' 11,f' 12=f' 12,Fn.func 77=Fn.func (77:FuncId)]++XS++XS++[Fn.func 51=Fn.func (51:FuncId)] ++
  (QBj C x))):=by kernel_rfl
theorem QSR(C:List (List QB))(ac body:Code)(l:List QB)(has:Int→Bool)(many:Int)(f:Nat→Int):QK 312 [] ((QHn C ac body f has l many x)) (plE ac body l has many f)=(some ([0=0]++(QI7 ac body has l)++GV++QAM++[(0:Int)=0,Fn.func (51:FuncId) =
  Fn.func (51:FuncId)]++XS++[false=false,0=0]++(QBE f many))):=by kernel_rfl
abbrev PlS:=Int×(Nat→Int)
def plY(s:PlS)(l:List QB):PlS×Bool:=((i64.wrap (s.1+1),plL l s.2 l.length),true)
def Va(x:QE)(s:PlS):Prop:=True
theorem QTR{x:QE}{s:PlS}{l:List QB}(_:Va x s)(_:l.length=x.scans.n):Va x (plY s l).1:=trivial
def Yn(C:List (List QB))(ac body:Code)(l:List QB)(has:Int→Bool)(s:PlS):Res PlS→UC
 | .go s' h'=>plU x C ac body l has s.1 s.2 h' s'.1 s'.2
 | .stop s' h'=>plU x C ac body l has s.1 s.2 h' s'.1 s'.2
abbrev PlK:=Nat×PlS×(Int→Bool)
open Classical in
noncomputable def Wx(s:PlS):List Prop→Bool:=if k<cs.length∧Va x s then Qn else fun _=>false
def X4(C:List (List QB))(d:Nat)(l:List QB)(s:PlS)(h:Int→Bool)(c:QB):Res PlS:=onT x C plY d (l++[c]) s h
noncomputable def W2(P:Program)(x:QE)(C:List (List QB))(ac body:Code)(d:Nat)(cs l:List QB)(t:PlK):Env:=
 mkC P (Zm (Wx x cs t.1 t.2.1) (Wx x cs t.1 t.2.1) x C (l++[cs.getD t.1 ⟨0,0⟩]) (Yn x C ac body (l++[cs.getD t.1 ⟨0,0⟩]) (Ql (cs.getD t.1 ⟨0,0⟩).cell true t.2.2) t.2.1 (X4 x C d l t.2.1 (Ql (cs.getD t.1 ⟨0,0⟩).cell true t.2.2) (cs.getD t.1 ⟨0,0⟩))))
def Ze(C:List (List QB))(ac body:Code)(d:Nat)(cs l:List QB)(t:PlK)(e:Ex)(J:JSt):Prop:=match Jt (JG x l (X4 x C d l)) (cs.drop t.1) t.2.1 t.2.2 with
 | .go s h=>e = .exit 0∧J=plE ac body l h s.1 s.2
 | .stop _ _=>False
set_option maxHeartbeats 1600000 in
theorem QOi(C:List (List QB))(ac body:Code)(d:Nat)(cs l:List QB)(hcs:cs.length≤1000)(hl:l.length≤1000)(hn:l.length+1+d=x.scans.n):zJ (fun t:PlK=>plJ x C ac body cs l t.2.2 t.2.1.1 t.2.1.2 t.1) (fun t=>t.1≤cs.length∧Va x t.2.1) (fun t=>cs.length-t.1) (Ze x C ac body d cs l) 312 ju jq (W2 Try.prog x C ac body d cs l) (fun t=>hnd (W2 Try.prog x C ac body d cs l t) 0) (Qa Try.f77 0):=by
 refine⟨fun t g hk => ?_⟩;obtain⟨k,⟨many,f⟩,has⟩:=t;obtain⟨hk,hgd⟩:=hk;have hk:k≤cs.length:=hk;have hgd:Va x (many,f):=hgd;obtain⟨s',h',hrec⟩:=Gx (C:=C) (x:=x) (Y:=plY) (fun _ _=>rfl) d (l++[cs.getD k ⟨0,0⟩]) (many,f) (Ql (cs.getD k ⟨0,0⟩).cell true has);have hgd':Va x s':=QLK (G:=Va x) (fun s l hs hn=>QTR hs hn) d _ _ _ (by simp;omega) hgd hrec
 unfold W2;simp only;have hrec:X4 x C d l (many,f) (Ql (cs.getD k ⟨0,0⟩).cell true has) (cs.getD k ⟨0,0⟩) = .go s' h':=hrec;rw[hrec];refine KB (QU0 (Wx x cs k (many,f)) (Wx x cs k (many,f)) x C ac body cs l (l++[cs.getD k ⟨0,0⟩]) has (Ql (cs.getD k ⟨0,0⟩).cell true has) many f k h' s'.1 s'.2 g) ?_;refine QI (fun h => ?_) (fun h => ?_)
 ·have h:k<cs.length:=by have:=qdt h;omega
  have hw:=JO h hcs;have hpb:Wx x cs k (many,f)=Qn:=by unfold Wx;rw[if_pos ⟨h,hgd⟩]
  rw[hpb];have step:=QD3 (f:=JG x l (X4 x C d l)) h (many,f) has
  have next:∀{s2:PlS} {h2:Int→Bool},JG x l (X4 x C d l) (many,f) has (cs.getD k ⟨0,0⟩) = .go s2 h2→∀ e J,Ze x C ac body d cs l (k+1,s2,h2) e J→Ze x C ac body d cs l (k,(many,f),has) e J:=by
   intro s2 h2 he e J hr;unfold Ze at hr ⊢;simp only at hr ⊢;rw[step,he];exact hr
  have one:∀ b,JX x l (cs.getD k ⟨0,0⟩)=b→JG x l (X4 x C d l) (many,f) has (cs.getD k ⟨0,0⟩)=match b with
    | true => .go (many,f) has
    | false=>match Ku x (l++[cs.getD k ⟨0,0⟩])with
     | false => .go (many,f) (Ql (cs.getD k ⟨0,0⟩).cell true (Ql (cs.getD k ⟨0,0⟩).cell true has))
     | true => .go s' (Ql (cs.getD k ⟨0,0⟩).cell true h'):=by
   intro b hb;unfold JG;rw[hb,hrec];cases b
   ·cases Ku x (l++[cs.getD k ⟨0,0⟩])<;>rfl
   ·rfl
  refine QF (by simp;omega) (QF (by simp;omega) (KX fun _ => ?_))
  refine QF rfl (QI (fun hf => ?_) (fun hf=>QF (by simp;omega) (QF rfl (QF (JB.2 ?_) (QI (fun hq => ?_) (fun hq => ?_))))))
  ·have hf:JX x l (cs.getD k ⟨0,0⟩)=true:=Yr.trans hf;refine⟨(k+1,(many,f),has),⟨h,hgd⟩,by show cs.length-(k+1)<cs.length-k;omega,next (one _ hf),rfl,rfl,_,QOE x C ac body cs l has many f k (k+1),?_⟩
   repeat' first|with_reducible refine QO ?_ ?_|exact trivial|with_reducible rfl|exact qlr _|exact qRr|exact Qh _ _ _ _|exact Jf _ _ _|exact hw|refine And.intro ?_ ?_
  ·repeat' first|with_reducible refine QO ?_ ?_|exact trivial|with_reducible rfl|exact qlr _|exact qRr|exact Qh _ _ _ _|exact jT _ _|exact qS _ _|exact jK _ _ _ rfl|refine And.intro ?_ ?_
  ·have hf:JX x l (cs.getD k ⟨0,0⟩)=false:=Yr.trans hf;have hq:Ku x (l++[cs.getD k ⟨0,0⟩])=false:=by simpa using hq
   have hp:=QEj l hl;have hp1:i64.wrap (((l.length+1:Nat):Int)-1)=l.length:=(w64 (by omega) (by omega)).trans (by omega)
   have ho:=one _ hf;rw[hq]at ho;refine QF (by simp[isI]) (QF (by rw[hp1];simp) ?_)
   refine⟨(k+1,(many,f),Ql (cs.getD k ⟨0,0⟩).cell true (Ql (cs.getD k ⟨0,0⟩).cell true has)),⟨h,hgd⟩,by show cs.length-(k+1)<cs.length-k;omega,next ho,rfl,rfl,_,QVr x C ac body cs l has (Ql (cs.getD k ⟨0,0⟩).cell true (Ql (cs.getD k ⟨0,0⟩).cell true has)) many f k (k+1),?_⟩
   repeat' first|with_reducible refine QO ?_ ?_|exact trivial|with_reducible rfl|exact qlr _|exact qRr|exact Qh _ _ _ _|exact hw|exact hp|exact Nat.le_succ _|exact QDG _ _|exact QBL _ _ _ hl (by simp[toI];rfl) _|refine And.intro ?_ ?_
  ·have hf:JX x l (cs.getD k ⟨0,0⟩)=false:=Yr.trans hf;have hq:Ku x (l++[cs.getD k ⟨0,0⟩])=true:=by simpa using hq
   have hp:=QD9 l (cs.getD k ⟨0,0⟩) hl
   have hp1:i64.wrap (((l++[cs.getD k ⟨0,0⟩]).length:Int)-1)=l.length:=by
    rw[List.length_append,List.length_singleton];exact(w64 (by omega) (by omega)).trans (by omega)
   have ho:=one _ hf;rw[hq]at ho;refine QF (JB.2 ?_) (QF rfl (QF (by rw[hp1];simp) (QI (fun q=>by cases q) (fun _ => ?_))))
   ·repeat' first|with_reducible refine QO ?_ ?_|exact trivial|with_reducible rfl|exact qlr _|exact qRr|exact Qh _ _ _ _|exact jT _ _|exact qS _ _|exact jK _ _ _ rfl|exact QCx _ _ hl rfl _|refine And.intro ?_ ?_
   refine⟨(k+1,s',Ql (cs.getD k ⟨0,0⟩).cell true h'),⟨h,hgd'⟩,by show cs.length-(k+1)<cs.length-k;omega,next ho,rfl,rfl,_,QVX x C ac body cs l (l++[cs.getD k ⟨0,0⟩]) k h' (Ql (cs.getD k ⟨0,0⟩).cell true h') s'.1 s'.2 (k+1),?_⟩
   repeat' first|with_reducible refine QO ?_ ?_|exact trivial|with_reducible rfl|exact qlr _|exact qRr|exact Qh _ _ _ _|exact hw|exact hp|exact(by simp:l.length≤(l++[cs.getD k ⟨0,0⟩]).length)|exact QD5 _ _|exact QDP _ _ hl rfl _|refine And.intro ?_ ?_
 ·have h:cs.length≤k:=by have:=of_decide_eq_false h;omega
  have he:=QEn (f:=JG x l (X4 x C d l)) h (many,f) has;refine⟨plE ac body l has many f,by unfold Ze;simp only[he,and_self],rfl,rfl,_,QSR x C ac body l has many f,?_⟩
  repeat' first|with_reducible refine QO ?_ ?_|exact trivial|with_reducible rfl|exact qlr _|exact qRr|exact Qh _ _ _ _|exact Jf _ _ _|refine And.intro ?_ ?_
def jP(pb:List Prop→Bool)(U:UC):Tab:=Qb Q8 51 (Vf pb U)
abbrev plX(P:Program)(J:JSt)(X:List (Prop×Ex×JSt)):Hnd:={ hnd (mkE P Q8) 2 with loop:=fun _=>KF 312 jq J X }
noncomputable abbrev QBw:Nat×Blk:=
  (217,.lp LoopState.ready none plT (Array.mk [12]) (QT Try.f50 0).1 (QT Try.f50 0).2)
noncomputable abbrev QLy:Nat×Blk:=
  (48,.cellsR 0 125 [vi x.d.play.length,vi x.d.play.slack,vi x.d.play.loose,vi x.d.play.damp.lo,.int false .i64
  x.d.play.damp.hi,vi x.d.wide,vi x.d.high,.bool false x.d.turn,.slz 0 0 x.d.ps.n cO,.slz 1 0 x.scans.n cO,.slz 2 0 x.hang.n (Cap.of
  0),vi x.lost,vi x.foreign,.slz 49 0 C.length cO])
abbrev Gj:List CK:=
  [.int .i64,.int .i64,.int .i64,.int .i64,.int .i64,.int .i64,.int .i64,.int .i64,.int .i64,.int .i64,.int .i64,.int .i64,.int .i64,.int .i64,.int .i64,.int .i64,.int
  .i64,.int .i64,.int .i64,.int .i64,.int .i64,.int .i64,.int .i64,.int .i64,.int .i64,.int .i64,.int .i64,.int .i64]
noncomputable abbrev QKH:Nat×Blk:=
  (49,.frz2 false 38 [.int .i64,.int .i64] C.length (fun i=>(QM C i).length) fun i j=>QA.enc ((QM C i).getD j ⟨0,0⟩))
noncomputable abbrev QB5(has:Int→Bool)(l:List QB)(many:Int)(x:QE):List (Nat×Blk):=
  [(256,.cells 0 38 [.slz 304 0 l.length cO]),(232,.mpf i64 (.int true .i64 0) has fun i => .int false .i64 (QL l i)),QBw,(160,.cells 0 3 [.int false .i64
  many]),(128,.cells 1 95 [vi (f 0),vi (f 1),vi (f 2),vi (f 3),vi (f 4),vi (f 5),.int false .i64
  (f 6),vi (f 7),vi (f 8),vi (f 9),vi (f 10),vi (f 11),vi (f 12)]),(304,.rowz true 56 [.int .i64,
  .int .i64] l.length fun i=>QA.enc (l.getD i ⟨0,0⟩)),(QLy C x),(136,.cellsR 0 99 [.fn (Fn.func 51) []]),(184,.cellsR 0 89 [.ptr 48 0 0]),(0,.frz Gj x.d.ps.n fun i=>
  QA.enc (x.d.ps.get i)),(1,.frz Gj x.scans.n fun i=>QA.enc (x.scans.get i)),(2,.frz [.int .i64,.int .i64,.int .i64,.int .i64] x.hang.n fun i=>QA.enc (x.hang.get
  i)),(QKH C)]
noncomputable abbrev QKc(f2:Nat→Int)(has:Int→Bool)(l:List QB)(many:Int)(x:QE):List (Nat×Blk):=
  [(256,.cells 0 38 [.slz 304 0 l.length cO]),(232,.mpf i64 (.int true .i64 0) has fun i => .int false .i64 (QL l i)),QBw,(160,.cells 0 3 [.int false .i64
  (i64.wrap (many+1))]),(128,.cells 1 95 [vi (f2 0),vi (f2 1),vi (f2 2),vi (f2 3),vi (f2 4),.int
  false .i64 (f2 5),vi (f2 6),vi (f2 7),vi (f2 8),vi (f2 9),vi (f2 10),vi (f2 11),.int false .i64
  (f2 12)]),(304,.rowz true 56 [.int .i64,.int .i64] l.length fun i=>QA.enc (l.getD i ⟨0,0⟩)),(QLy C x),(136,.cellsR 0 99 [.fn (Fn.func 51) []]),(184,.cellsR 0 89 [.ptr
  48 0 0]),(0,.frz Gj x.d.ps.n fun i=>QA.enc (x.d.ps.get i)),(1,.frz Gj x.scans.n fun i=>QA.enc (x.scans.get i)),(2,.frz [.int .i64,.int .i64,.int .i64,.int .i64]
  x.hang.n fun i=>QA.enc (x.hang.get i)),(QKH C)]
theorem QMv(pb:List Prop→Bool)(x:QE)(C:List (List QB))(l:List QB)(has:Int→Bool)(many:Int)(f:Nat→Int)(f2:Nat→Int):(XP (mkE Try.prog (jP pb (pmU l f f2))) (msN Try.prog (jP pb (pmU l f f2))) Try.f77 QBS (zt x C (QT Try.f50 0).1 (QT Try.f50 0).2 l has many f).hp 312 fun v
  h _=>We jq v h) = .br ((l.length:Int)==(x.scans.n:Int)) (.need (isI i64 (.int false .i64 (QL l (-2:Int)))) (.br (decide (i64.wrap ((x.d.ps.n:Int)
  - i64.wrap ((l.length:Int)-toI (.int false .i64 (QL l (-2:Int)))))>x.lost)) (.leaf (.bool true true) ((QB5 C f has l many x))) (.need (pb ([f 0=f 0,f 1=f 1,
  f 2=f 2,f 3=f 3,f 4=f 4,f 5=f 5,f 6=f 6,f 7=f 7,f 8=f 8,f 9=f 9,f 10=f 10,f 11=f 11,f 12=f 12,0=0,l.length=l.length,Cap.of 0=Cap.of 0,
  l.length≤l.length,QD 2 l.length (fun i=>QA.enc (l.getD i ⟨0,0⟩)) fun i=>QA.enc (l.getD i ⟨0,0⟩)])) (.leaf (.bool true true) ((QKc C f2 has l many x)))))) (.need
  (decide ((0 : Int) ≤ (l.length : Int) ∧ (l.length : Int) < (C.length : Int)) && decide (C.length ≤ C.length)) (.need (decide (l.length < C.length)) (.fail ("a loop")))) := by kernel_rfl
abbrev QEw(l:List QB):List Prop:=
  [0=0,l.length=l.length,cO=cO,l.length≤l.length,QD 2 l.length (fun i=>QA.enc (l.getD i ⟨0,0⟩)) fun i=>QA.enc (l.getD i ⟨0,0⟩),Kt (.int true
  .i64 0) (.int true .i64 0) has has (fun i => .int false .i64 (QL l i)) fun i => .int false .i64 (QL l i),LoopState.ready=LoopState.ready,(none:Option Code)=none,
  Array.mk [12]=Array.mk [(12:Tmp)],(QT Try.f50 0).1=(QT Try.f50 0).1,(QT Try.f50 0).2=(QT Try.f50 0).2,0=0,0=0]
abbrev QBg:List Prop:=
  [(0:Int)=0,(0:Int)=0,(0:Int)=0,(0:Int)=0,(0:Int)=0,(0:Int)=0,(0:Int)=0,(0:Int)=0]
abbrev QEo:List Prop:=
  [(0:Int)=0,(0:Int)=0,(0:Int)=0,(0:Int)=0,(0:Int)=0,Fn.func (51:FuncId)=Fn.func (51:FuncId),0=0,0=0,0=0,0=0,0=0,0=0,false=false,0
  = 0,0=0,0=0,0=0,Fn.func (76:FuncId)=Fn.func (76:FuncId),0=0,0=0]
theorem QSF(C:List (List QB))(l:List QB)(has:Int→Bool)(many:Int)(f:Nat→Int):QK 312 [(.bool true true)] ((QB5 C f has l many x)) (JC (plU x C (QT Try.f50 0).1 (QT Try.f50 0).2 l has many f has many f))=(some ([true=true]++(QEw has l) ++
  QBg++QEo++[many=many,f 0=f 0,f 1=f 1,f 2=f 2,f 3=f 3,f 4=f 4,f 5=f 5,f 6=f 6,f 7=f 7,f 8=f 8,f 9=f 9,f 10=f 10,f 11=f 11,f 12=f 12])):=by kernel_rfl
theorem QNC(C:List (List QB))(l:List QB)(has:Int→Bool)(many:Int)(f:Nat→Int)(f2:Nat→Int)(many':Int)(f':Nat→Int):QK 312 [(.bool true true)] ((QKc C f2 has l many x)) (JC (plU x C (QT Try.f50 0).1 (QT Try.f50 0).2 l has many f has many' f'))=(some ([true=true]++(QEw has l)
  ++ QBg++QEo++[i64.wrap (many+1)=many',f2 0=f' 0,f2 1=f' 1,f2 2=f' 2,f2 3=f' 3,f2 4=f' 4,f2 5=f' 5,f2 6=f' 6,f2 7=f' 7,f2 8=f' 8,f2 9 =
  f' 9,f2 10=f' 10,f2 11=f' 11,f2 12=f' 12])):=by kernel_rfl
noncomputable abbrev QK6(has':Int→Bool)(l:List QB)(many':Int):List (Nat×Blk):=
  [(256,.cells 0 38 [.slz 320 0 l.length cO]),(232,.mpf i64 (.int true .i64 0) has' fun i => .int false .i64 (QL l i)),QBw,(160,.cells 0 3 [.int false .i64
  many']),(128,.cells 1 95 [vi (f' 0),vi (f' 1),vi (f' 2),vi (f' 3),vi (f' 4),vi (f' 5),.int
  false .i64 (f' 6),vi (f' 7),vi (f' 8),vi (f' 9),vi (f' 10),vi (f' 11),vi (f' 12)]),(320,.rowz
  true 56 [.int .i64,.int .i64] l.length fun i=>QA.enc (l.getD i ⟨0,0⟩))]
theorem QVW(C:List (List QB))(cs l:List QB)(has:Int→Bool)(many:Int)(f:Nat→Int)(has':Int→Bool)(many':Int)(f':Nat→Int):(XP (mkE Try.prog Q8) (plX Try.prog (plJ x C (QT Try.f50 0).1 (QT Try.f50 0).2 cs l has many f 0) [(True,.exit 0,plE (QT Try.f50 0).1 (QT Try.f50 0).2 l
  has' many' f')]) Try.f77 QBS (zt x C (QT Try.f50 0).1 (QT Try.f50 0).2 l has many f).hp 312 fun v h _=>We jq v h) = .br ((l.length:Int)==(x.scans.n:Int))
  (.need (isI i64 (.int false .i64 (QL l (-2:Int)))) (.br (decide (i64.wrap ((x.d.ps.n:Int)-i64.wrap ((l.length:Int)-toI (.int false .i64 (QL l
  (-2 : Int))))) > x.lost)) (.leaf (.bool true true) ((QB5 C f has l many x))) (.fail ("a loop")))) (.need (decide ((0 : Int) ≤ (l.length : Int) ∧ (l.length : Int) < (C.length :
  Int))&&decide (C.length≤C.length)) (.need (decide (l.length<C.length)) (.ask (0=0) (.ask (0=0) (.ask (0=0) (.ask (0=0) (.ask (0=0) (.ask (0=0) (.ask (0=0) (.ask
  (0=0) (.ask (0=0) (.ask (0=0) (.ask (0=0) (.ask ((QM C l.length).length=cs.length) (.ask (Cap.of 0=Cap.of 0) (.ask ((↑(QM C l.length).length:Int)=(cs.length :
  Int)) (.ask ((0:Int)=0) (.ask (cs.length≤(QM C l.length).length) (.ask (QD 2 cs.length (fun j=>QA.enc ((QM C l.length).getD j ⟨0,0⟩)) fun i=>QA.enc (cs.getD i
  ⟨0,0⟩)) (.ask (0=0) (.ask (l.length=l.length) (.ask (Cap.of 0=Cap.of 0) (.ask (l.length≤l.length) (.ask (QD 2 l.length (fun i=>QA.enc (l.getD i ⟨0,0⟩)) fun i=>
  QA.enc (l.getD i ⟨0,0⟩)) (.ask (Kt (.int true .i64 0) (.int true .i64 0) has has (fun i => .int false .i64 (QL l i)) fun i => .int false .i64 (QL l i)) (.ask
  (LoopState.ready=LoopState.ready) (.ask ((none:Option Code)=none) (.ask (Array.mk [(12:Tmp)]=Array.mk [(12:Tmp)]) (.ask ((QT Try.f50 0).1=(QT Try.f50 0).1)
  (.ask ((QT Try.f50 0).2=(QT Try.f50 0).2) (.ask (0=0) (.ask (0=0) (.ask ((0:Int)=0) (.ask ((0:Int)=0) (.ask ((0:Int)=0) (.ask ((0:Int)=0) (.ask ((0 :
  Int)=0) (.ask ((0:Int)=0) (.ask ((0:Int)=0) (.ask ((0:Int)=0) (.ask ((0:Int)=0) (.ask ((0:Int)=0) (.ask ((0:Int)=0) (.ask ((0:Int)=0) (.ask ((0:Int)
  = 0) (.ask (Fn.func (51:FuncId)=Fn.func (51:FuncId)) (.ask (0=0) (.ask (0=0) (.ask (0=0) (.ask (0=0) (.ask (0=0) (.ask (0=0) (.ask (false=false) (.ask (0=0)
  (.ask (0=0) (.ask (0=0) (.ask (0=0) (.ask (Fn.func (76:FuncId)=Fn.func (76:FuncId)) (.ask (0=0) (.ask (0=0) (.ask (many=many) (.ask (f 0=f 0) (.ask (f 1=f 1)
  (.ask (f 2=f 2) (.ask (f 3=f 3) (.ask (f 4=f 4) (.ask (f 5=f 5) (.ask (f 6=f 6) (.ask (f 7=f 7) (.ask (f 8=f 8) (.ask (f 9=f 9) (.ask (f 10=f 10) (.ask (f 11=f
  11) (.ask (f 12=f 12) (.ask (Fn.func (77:FuncId)=Fn.func (77:FuncId)) (.ask (0=0) (.ask (0=0) (.ask (0=0) (.ask (0=0) (.ask (0=0) (.ask (0=0) (.ask (0=0) (.ask
  (0=0) (.ask (0=0) (.ask (0=0) (.ask (0=0) (.ask (0=0) (.ask (Fn.func (51:FuncId)=Fn.func (51:FuncId)) (.ask (x.d.play.length=x.d.play.length) (.ask (x.d.play.slack
  = x.d.play.slack) (.ask (x.d.play.loose=x.d.play.loose) (.ask (x.d.play.damp.lo=x.d.play.damp.lo) (.ask (x.d.play.damp.hi=x.d.play.damp.hi) (.ask (x.d.wide=x.d.wide) (.ask
  (x.d.high=x.d.high) (.ask (x.d.turn=x.d.turn) (.ask (0=0) (.ask (x.d.ps.n=x.d.ps.n) (.ask (Cap.of 0=Cap.of 0) (.ask (0=0) (.ask (x.scans.n=x.scans.n) (.ask (Cap.of 0 =
  Cap.of 0) (.ask (0=0) (.ask (x.hang.n=x.hang.n) (.ask (Cap.of 0=Cap.of 0) (.ask (x.lost=x.lost) (.ask (x.foreign=x.foreign) (.ask (0=0) (.ask (C.length=C.length) (.ask
  (Cap.of 0=Cap.of 0) (.ask (C.length=C.length) (.ask (K0 2 C.length (fun i=>(QM C i).length) (fun i=>(QM C i).length) (fun i j=>QA.enc ((QM C i).getD j ⟨0,
  0⟩)) fun i j=>QA.enc ((QM C i).getD j ⟨0,0⟩)) (.ask (x.d.ps.n≤x.d.ps.n) (.ask (QD 28 x.d.ps.n (fun i=>QA.enc (x.d.ps.get i)) fun i=>QA.enc (x.d.ps.get i)) (.ask
  (x.scans.n≤x.scans.n) (.ask (QD 28 x.scans.n (fun i=>QA.enc (x.scans.get i)) fun i=>QA.enc (x.scans.get i)) (.ask (x.hang.n≤x.hang.n) (.ask (QD 4 x.hang.n (fun i
  => QA.enc (x.hang.get i)) fun i=>QA.enc (x.hang.get i)) (.asm (True) (.all (fun(g0:Nat→Value) => .leaf (.bool true true) ((QK6 f' has' l
  many'))))))))))))))))))))))))))))))))))))))))))))))))))))))))))))))))))))))))))))))))))))))))))))))))))))))))))))))))))))))))))):=by kernel_rfl
theorem QVQ(C:List (List QB))(l:List QB)(has:Int→Bool)(many:Int)(f:Nat→Int)(has':Int→Bool)(many':Int)(f':Nat→Int):QK 312 [(.bool true true)] ((QK6 f' has' l many')) (JC (plU x C (QT Try.f50 0).1 (QT Try.f50 0).2 l has many f has' many' f'))=(some ([true=true,0=0,l.length =
  l.length,cO=cO,l.length≤l.length,QD 2 l.length (fun i=>QA.enc (l.getD i ⟨0,0⟩)) fun i=>QA.enc (l.getD i ⟨0,0⟩),Kt (.int true .i64 0) (.int true
  .i64 0) has' has' (fun i => .int false .i64 (QL l i)) fun i => .int false .i64 (QL l i),LoopState.ready=LoopState.ready,(none:Option Code)=none,Array.mk [12]=Array.mk
  [(12:Tmp)],(QT Try.f50 0).1=(QT Try.f50 0).1,(QT Try.f50 0).2=(QT Try.f50 0).2,0=0,0=0]++QBg++QEo++[many'=many',f' 0=f' 0,f' 1=f' 1,f'
  2=f' 2,f' 3=f' 3,f' 4=f' 4,f' 5=f' 5,f' 6=f' 6,f' 7=f' 7,f' 8=f' 8,f' 9=f' 9,f' 10=f' 10,f' 11=f' 11,f' 12=f' 12])):=by kernel_rfl
noncomputable abbrev Xw:Code:=(QT Try.f50 0).1
noncomputable abbrev X1:Code:=(QT Try.f50 0).2
theorem QJo(C:List (List QB))(ac body:Code)(l:List QB)(has:Int→Bool)(many:Int)(f:Nat→Int)(has':Int→Bool)(many':Int)(f':Nat→Int):(plU x C ac body l has many f has' many' f').Ok:=by
 refine⟨(by decide:296≤312),rfl,rfl,?_,rfl,fun _ _=>rfl,fun nid h => ?_⟩
 ·intro q hq;simp only[UC.po,plU,plW,rwL,List.mem_cons,List.not_mem_nil,or_false]at hq;rcases hq with rfl|rfl|rfl|rfl|rfl|rfl<;>refine⟨rfl,rfl,rfl,?_⟩<;>first|exact fun _=>rfl|exact fun h=>absurd (show 312<296 from h) (by decide)
 ·have e0:=Yd 296 312 0 nid (by decide)
  simp only[UC.po,plU,plW,rwL,zt,plT,Ga,List.map_cons,List.map_nil,Blk.mapId,AV.mapId,AV.mapIdL,Nat.add_zero]at e0 ⊢;rw[e0];rfl
theorem QPz{x:QE}(hx:Je x)(C:List (List QB)){l:List QB}(hn:l.length=x.scans.n)(hl:∀ c∈l,Jr c)(s:PlS)(h:Int→Bool)(hgd:Va x s):QQ Try.prog 77 (uFC (Yn x C Xw X1 l h s (Vv x plY l s h))):=by
 obtain⟨many,f⟩:=s;have hs:=hx.s;have hd:=hx.d.n9;have hgd:Va x (many,f):=hgd;have hT:QV (jP Qn (pmU l f (plL l f l.length))):=KR.add (QNO l f (by omega) (QWA (by omega) hl))
 have fin:∀(s':PlS),YI (vF (plU x C Xw X1 l h many f h s'.1 s'.2)) (Vu (mkE Try.prog (jP Qn (pmU l f (plL l f l.length)))) (msN Try.prog (jP Qn (pmU l f (plL l f l.length)))) Try.f77 (plU x C Xw X1 l h many f h s'.1 s'.2))→QQ Try.prog 77 (uFC (plU x C Xw X1 l h many f h s'.1 s'.2)):=fun s' hd=>
  VX (E:=mkE Try.prog (jP Qn (pmU l f (plL l f l.length)))) (QS hT) Try.func77 (by kernel_rfl) (by kernel_rfl) (QJo ..) (fun G h1 _=>QEa _ hT G h1) ⟨hd⟩
 have he:=QMU (x:=x) (l:=l) (by omega) (by omega)
 cases hb:Yl x l with
 | true=>
  rw[hb]at he;simp only[Vv,hb,Yn];refine fin (many,f) (KB (QMv Qn x C l h many f (plL l f l.length)) ?_);refine QI (fun _=>QF rfl (QI (fun _ => ?_) (fun q=>Bool.noConfusion (show true=false from he.symm.trans q)))) (fun q=>by rw[hn]at q;simp at q)
  refine⟨rfl,rfl,_,QSF x C l h many f,?_⟩
  repeat' first|with_reducible refine QO ?_ ?_|exact trivial|with_reducible rfl|exact qlr _|exact qRr|exact Qh _ _ _ _|exact Jf _ _ _|refine And.intro ?_ ?_
 | false=>
  rw[hb]at he;simp only[Vv,hb,plY,Yn];refine fin (plY (many,f) l).1 (KB (QMv Qn x C l h many f (plL l f l.length)) ?_);refine QI (fun _=>QF rfl (QI (fun q=>Bool.noConfusion (show true=false from q.symm.trans he)) (fun _=>QF (JB.2 ?_) ?_))) (fun q=>by rw[hn]at q;simp at q)
  ·repeat' first|with_reducible refine QO ?_ ?_|exact trivial|with_reducible rfl|exact qlr _|exact qRr|exact Qh _ _ _ _|refine And.intro ?_ ?_
  refine⟨rfl,rfl,_,QNC x C l h many f (plL l f l.length) _ _,?_⟩
  repeat' first|with_reducible refine QO ?_ ?_|exact trivial|with_reducible rfl|exact qlr _|exact qRr|exact Qh _ _ _ _|exact Jf _ _ _|exact rfl|refine And.intro ?_ ?_
theorem QSk{x:QE}(hx:Je x){C:List (List QB)}{ac body:Code}{cs l:List QB}(hl:l.length<1000)(hls:∀ c∈l,Jr c)(hcs:∀ c∈cs,Jr c)(IH:∀ c∈cs,∀ s h,Va x s→QQ Try.prog 77 (uFC (Yn x C ac body (l++[c]) h s (X4 x C d l s h c))))(t:PlK):(W2 Try.prog x C ac body d cs l t).Sound:=by
 unfold W2 Wx;split
 ·rename_i hk;have hm:=Ho (z:=(⟨0,0⟩:QB)) hk.1;refine QAk ((KR.add (QKp x C _ hx (QH4 (by simp) (by simp;omega) ?_))).add (IH _ hm _ _ hk.2))
  intro c hc;rcases List.mem_append.1 hc with h|h
  ·exact hls c h
  ·rw[List.mem_singleton.1 h];exact hcs _ hm
 ·exact QAk ((KR.add (vm (by kernel_rfl) _)).add (vm (by kernel_rfl) _))
theorem QP8{x:QE}(hx:Je x){C:List (List QB)}(hC:WK x C){ac body:Code}{l:List QB}(hl:l.length+(d+1)=x.scans.n)(hls:∀ c∈l,Jr c)(IH:∀ c∈QM C l.length,∀ s h,Va x s→QQ Try.prog 77 (uFC (Yn x C ac body (l++[c]) h s (X4 x C d l s h c))))(s:PlS)(h:Int→Bool)(hgd:Va x s){X:List (Prop×Ex×JSt)}(hX:∀ e J,Ze x C ac body d (QM C l.length) l (0,s,h) e J→∃ y∈X,y.1∧y.2.1=e∧y.2.2=J)(G:Ctx)(hrd:G.rd=none)(hG:G.n=312):
  KH (mkE Try.prog Q8) G (plX Try.prog (plJ x C ac body (QM C l.length) l h s.1 s.2 0) X) (Qr Try.f77):=by
 have hs:=hx.s;refine J6 (body:=Qa Try.f77 0) (QS KR) hrd (by kernel_rfl) ?_
 have hE:=fun t=>QSk hx (C:=C) (ac:=ac) (body:=body) (d:=d) (cs:=QM C l.length) (l:=l) (by omega) hls (hC.s _) IH t
 refine QCK (E0:=mkE Try.prog Q8) (E:=W2 Try.prog x C ac body d (QM C l.length) l) (H:=fun t=>hnd (W2 Try.prog x C ac body d (QM C l.length) l t) 0) (n0:=312) (s0:=(0,s,h)) (fun _=>rfl) hE (by omega) (fun t _=>Q3 (hE t) 0 G _ hrd) (fun t _=>(by decide:312≤344)) ?_ (QOi x C ac body d (QM C l.length) l (hC.le _) (by omega) (by omega)) ⟨Nat.zero_le _,hgd⟩ hX
 intro t e J hr;unfold Ze at hr;split at hr
 ·rw[hr.2];exact(by decide:312≤344)
 ·exact hr.elim
theorem QSJ{x:QE}(hx:Je x){C:List (List QB)}(hC:WK x C){l:List QB}(hl:l.length+(d+1)=x.scans.n)(hls:∀ c∈l,Jr c)(IH:∀ c∈QM C l.length,∀ s h,Va x s→QQ Try.prog 77 (uFC (Yn x C Xw X1 (l++[c]) h s (X4 x C d l s h c))))(s:PlS)(h:Int→Bool)(hgd:Va x s):QQ Try.prog 77 (uFC (Yn x C Xw X1 l h s (onT x C plY (d+1) l s h))):=by
 obtain⟨s',h',he⟩:=Gx (C:=C) (x:=x) (Y:=plY) (fun _ _=>rfl) (d+1) l s h;rw[he];have hc:Jt (JG x l (X4 x C d l)) (QM C l.length) s h = .go s' h':=he;have hCn:=hC.n;refine VX (E:=mkE Try.prog Q8) (QS KR) Try.func77 (by kernel_rfl) (by kernel_rfl) (QJo ..) (QP8 hx hC hl hls IH s h hgd (X:=[(True,.exit 0,plE Xw X1 l h' s'.1 s'.2)]) ?_) ⟨?_⟩
 ·intro e J hr;unfold Ze at hr;simp only[List.drop_zero,hc]at hr;exact⟨_,List.mem_cons_self,trivial,hr.1.symm,hr.2.symm⟩
 ·refine KB (QVW x C (QM C l.length) l h s.1 s.2 h' s'.1 s'.2) ?_;refine QI (fun q=>by simp at q;omega) (fun _=>QF (by simp;omega) (QF (by simp;omega) ?_))
  repeat' first|refine Qc (p:=_=_) rfl ?_|refine Qc (p:=_≤_) (qlr _) ?_|refine Qc (p:=QD _ _ _ _) (qRr) ?_|refine Qc (p:=K0 _ _ _ _ _ _) (Qh _ _ _ _) ?_|refine Qc (p:=Kt _ _ _ _ _ _) (Jf _ _ _) ?_
  refine KY fun _=>KX fun g=>⟨rfl,rfl,_,QVQ x C l h s.1 s.2 h' s'.1 s'.2,?_⟩
  repeat' first|with_reducible refine QO ?_ ?_|exact trivial|with_reducible rfl|exact qlr _|exact qRr|exact Qh _ _ _ _|exact Jf _ _ _|refine And.intro ?_ ?_
theorem QGA{x:QE}(hx:Je x){C:List (List QB)}(hC:WK x C):∀(d:Nat) (l:List QB) (s:PlS) (h:Int→Bool),l.length+d=x.scans.n→(∀ c∈l,Jr c)→Va x s→QQ Try.prog 77 (uFC (Yn x C Xw X1 l h s (onT x C plY d l s h)))
 | 0,l,s,h,hn,hl,hgd=>QPz hx C (by omega) hl s h hgd
 | d+1,l,s,h,hn,hl,hgd=>QSJ hx hC (by omega) hl (fun c hc s h hgd=>QGA hx hC d (l++[c]) s h (by simp;omega) (fun y hy=>by
   rcases List.mem_append.1 hy with q|q
   ·exact hl y q
   ·rw[List.mem_singleton.1 q];exact hC.s _ c hc) hgd) s h hgd
end Go.Proofs.Ytbpffdkemeoajaa
