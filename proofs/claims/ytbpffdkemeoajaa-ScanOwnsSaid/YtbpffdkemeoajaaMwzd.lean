/- - -/
import Derived.Test.YtbpffdkemeoajaaMwzc
open Go.IntKind (i64)
set_option maxRecDepth 100000
namespace Go.Proofs.Ytbpffdkemeoajaa
open Go.SX
def plT:List AV:=[.ptr 48 0 0,.agg QBL,.fn (.func 51) [],.tup [],.ptr 128 0 0,.ptr 136 0 0,.ptr 144 0 0,.bool true false,.ptr 160 0 0,.tup [],.ptr 48 0 0,.fn (.func 76) [.ptr 184 0 0],.tup [],.tup [],.tup [],.tup [],.tup [],.tup [],.tup [],.tup [],.tup [],.tup []]
def QC5:List AV:=[.ptr 256 0 0,.ptr 184 0 0,.ptr 240 0 0,.ptr 224 0 0,.ptr 264 0 0]
variable {d:Nat}(C:List (List QB))(ac:Code)(x:QE)(body:Code)(cs l:List QB)(has:Int→Bool)(k:Nat)(f:Nat→Int)(many:Int)(has':Int→Bool)(f':Nat→Int)
def plR(C:List (List QB)):List (Nat×Blk):=
 [(264,.cellsR 0 34 [.fn (.func 77) QC5]),(240,.cellsR 0 63 [.map 232]),(224,.cellsR 0 123 [.yld 217]),(184,.cellsR 0 89 [.ptr 48 0 0]),(136,.cellsR 0 99 [.fn (.func 51) []]),(48,.cellsR 0 125 (srK 49 x C)),Ye false 49 C]++JY 0 x
def plW(a:Nat)(has:Int→Bool)(many:Int)(f:Nat→Int):List (Nat×Blk):=
 [(256,.cells 0 38 [.slz a 0 l.length (.of 0)]),rwL a l,(232,.mpf .i64 (.int true .i64 0) has fun i => .int false .i64 (QG l i)),(217,.lp .ready none plT #[12] ac body),(160,.cells 0 3 [.int false .i64 many]),(128,.cells 1 95 (qZ f))]
def H6(C:List (List QB))(ac body:Code)(l:List QB)(has:Int→Bool)(many:Int)(f:Nat→Int):JSt:=
 ⟨5,[(0,.ptr 256 0 0),(1,.ptr 184 0 0),(2,.ptr 240 0 0),(3,.ptr 224 0 0),(4,.ptr 264 0 0)],plW ac body l 304 has many f++plR x C,312⟩
def plU(C:List (List QB))(ac body:Code)(l:List QB)(has:Int→Bool)(many:Int)(f:Nat→Int)(has':Int→Bool)(many':Int)(f':Nat→Int):UC:=
 ⟨296,H6 x C ac body l has many f,fun _ => .bool false true,fun m=>plW ac body l m has' many' f'⟩
def plJ(C:List (List QB))(ac body:Code)(cs l:List QB)(has:Int→Bool)(many:Int)(f:Nat→Int)(k:Nat):JSt:=
 ⟨98,[(0,.ptr 256 0 0),(1,.ptr 184 0 0),(2,.ptr 240 0 0),(3,.ptr 224 0 0),(4,.ptr 264 0 0),(48,.slz 328 0 cs.length (.of 0)),(49,.int false .i64 cs.length),(50,.int false .i64 k)],
  (328,.frz [.int .i64,.int .i64] cs.length fun i=>QA.enc (cs.getD i ⟨0,0⟩))::plW ac body l 320 has many f++plR x C,344⟩
def plE(f:Nat→Int):JSt:=⟨98,[],plW ac body l 320 has many f,344⟩
def GZ:List Nat:=[256,232,217,160,128]
noncomputable abbrev QDZ:List AV:=
  [.nilp,.ptr 98 0 0,.ptr 256 0 0,.ptr 184 0 0,.ptr 240 0 0,.ptr 224 0 0,.ptr 264 0 0,.slz 328 0 cs.length cO,vi (cs.length:Int),.int false .i64
  (i64.wrap ((k:Int)+1))]
noncomputable abbrev zf:Nat×Blk:=
  (217,.lp LoopState.ready none plT (Array.mk [12]) ac body)
noncomputable abbrev QDj:Nat×Blk:=
  (128,.cells 1 95 [vi (f 0),vi (f 1),vi (f 2),vi (f 3),vi (f 4),vi (f 5),vi (f 6),
  .int false .i64 (f 7),vi (f 8),vi (f 9),vi (f 10),vi (f 11),vi (f 12)])
noncomputable abbrev G8:Nat×Blk:=
  (184,.cellsR 0 89 [.ptr 48 0 0])
noncomputable abbrev QEs:Nat×Blk:=
  (264,.cellsR 0 34 [.fn (Fn.func 77) [.ptr 256 0 0,.ptr 184 0 0,.ptr 240 0 0,.ptr 224 0 0,.ptr 264 0 0]])
noncomputable abbrev QEW:Nat×Blk:=
  (328,.frz [.int .i64,.int .i64] cs.length fun i=>QA.enc (cs.getD i ⟨0,0⟩))
noncomputable abbrev Gh:Nat×Blk:=
  (48,.cellsR 0 125 [vi x.d.play.length,vi x.d.play.slack,vi x.d.play.loose,vi x.d.play.damp.lo,.int false .i64
  x.d.play.damp.hi,vi x.d.wide,vi x.d.high,.bool false x.d.turn,.slz 0 0 x.d.ps.n cO,.slz 1 0 x.scans.n cO,.slz 2 0 x.hang.n (Cap.of
  0),vi x.lost,vi x.foreign,.slz 49 0 C.length cO])
noncomputable abbrev GB:Nat×Blk:=
  (136,.cellsR 0 99 [.fn (Fn.func 51) []])
abbrev Y0:List CK:=
  [.int .i64,.int .i64,.int .i64,.int .i64,.int .i64,.int .i64,.int .i64,.int .i64,.int .i64,.int .i64,.int .i64,.int .i64,.int .i64,.int .i64,.int .i64,.int .i64,.int
  .i64,.int .i64,.int .i64,.int .i64,.int .i64,.int .i64,.int .i64,.int .i64,.int .i64,.int .i64,.int .i64,.int .i64]
noncomputable abbrev G0:Nat×Blk:=
  (2,.frz [.int .i64,.int .i64,.int .i64,.int .i64] x.hang.n fun i=>QA.enc (x.hang.get i))
noncomputable abbrev HB:Nat×Blk:=
  (49,.frz2 false 38 [.int .i64,.int .i64] C.length (fun i=>(QH C i).length) fun i j=>QA.enc ((QH C i).getD j ⟨0,0⟩))
noncomputable abbrev QOQ(has:Int→Bool)(l:List QB)(many:Int)(x:QE):List (Nat×Blk):=
  [(256,.cells 0 38 [.slz 320 0 l.length cO]),(232,.mpf i64 (.int true .i64 0) has fun i => .int false .i64 (QG l i)),(zf ac body),(160,.cells 0 3 [.int
  false .i64 many]),(QDj f),G8,(240,.cellsR 0 63 [.map 232]),(224,.cellsR 0 123 [.yld 217]),QEs,(QEW cs),(320,.rowz true 56 [.int .i64,.int .i64] l.length fun i=>
  QA.enc (l.getD i ⟨0,0⟩)),(Gh C x),GB,(0,.frz Y0 x.d.ps.n fun i=>QA.enc (x.d.ps.get i)),(1,.frz Y0 x.scans.n fun i=>QA.enc (x.scans.get i)),(G0 x),
  (HB C)]
noncomputable abbrev HM:List AV:=
  [vi (cs.getD k ⟨0,0⟩).cell,vi (cs.getD k ⟨0,0⟩).turn]
noncomputable abbrev QKr(has:Int→Bool)(k:Nat)(l:List QB)(many:Int)(x:QE):List (Nat×Blk):=
  [(256,.cells 0 38 [.slz 952 0 (i64.wrap ((↑(l.length+1):Int)-1)).toNat cO]),(232,.mpf i64 (.int true .i64 0) (QV (cs.getD k ⟨0,0⟩).cell true
  (QV (cs.getD k ⟨0,0⟩).cell true has)) (Q5 (cs.getD k ⟨0,0⟩).cell (.int false .i64 (i64.wrap (toI (Bool.rec ((fun _=>(fun i => .int false .i64 (QG l i)) ((fun i=>
  QA.enc (cs.getD i ⟨0,0⟩)) ((k:Int).toNat+0) 0)) ()) ((fun _ => .int false .i64 (i64.wrap (toI ((fun i => .int false .i64 (QG l i)) ((fun i=>QA.enc (cs.getD i
  ⟨0,0⟩)) ((k:Int).toNat+0) 0))+1))) ()) (decide ((fun i=>QA.enc (cs.getD i ⟨0,0⟩)) ((k:Int).toNat+0) 0=(fun i=>QA.enc (cs.getD i ⟨0,0⟩)) ((k:Int).toNat+0)
  0)))-1))) (Q5 (cs.getD k ⟨0,0⟩).cell (.int false .i64 (i64.wrap (toI (.int false .i64 (QG l (cs.getD k ⟨0,0⟩).cell))+1))) fun i => .int false .i64 (QG l i)))),
  (zf ac body),(160,.cells 0 3 [vi many]),(QDj f),G8,(240,.cellsR 0 63 [.map 232]),(224,.cellsR 0 123 [.yld 217]),QEs,(QEW cs),(952,.rowz true 56
  [.int .i64,.int .i64] (l.length+1) (Qa l.length (fun i=>QA.enc (l.getD i ⟨0,0⟩)) (QS [(HM cs k)] 0))),(Gh C x),GB,(0,.frz Y0 x.d.ps.n fun i=>QA.enc
  (x.d.ps.get i)),(1,.frz Y0 x.scans.n fun i=>QA.enc (x.scans.get i)),(G0 x),(HB C)]
noncomputable abbrev QHX(k:Nat)(l2:List QB):Nat×Blk:=
  (232,.mpf i64 (.int true .i64 0) (QV (cs.getD k ⟨0,0⟩).cell true has') (Q5 (cs.getD k ⟨0,0⟩).cell (.int false .i64 (i64.wrap (toI (.int false .i64 (QG l2
  (cs.getD k ⟨0,0⟩).cell))-1))) fun i => .int false .i64 (QG l2 i)))
noncomputable abbrev QNL:Nat×Blk:=
  (128,.cells 1 95 [vi (f' 0),vi (f' 1),vi (f' 2),vi (f' 3),vi (f' 4),vi (f' 5),.int false .i64
  (f' 6),vi (f' 7),vi (f' 8),vi (f' 9),vi (f' 10),vi (f' 11),vi (f' 12)])
noncomputable abbrev QLW(has':Int→Bool)(k:Nat)(l2:List QB)(many':Int)(x:QE):List (Nat×Blk):=
  [(256,.cells 0 38 [.slz 1064 0 (i64.wrap ((l2.length:Int)-1)).toNat cO]),(QHX cs has' k l2),(zf ac body),(160,.cells 0 3 [vi many']),
  (QNL f'),G8,(240,.cellsR 0 63 [.map 232]),(224,.cellsR 0 123 [.yld 217]),QEs,(QEW cs),(1064,.rowz true 56 [.int .i64,.int .i64] l2.length fun i=>QA.enc
  (l2.getD i ⟨0,0⟩)),(Gh C x),GB,(0,.frz Y0 x.d.ps.n fun i=>QA.enc (x.d.ps.get i)),(1,.frz Y0 x.scans.n fun i=>QA.enc (x.scans.get i)),(G0 x),(HB C)]
noncomputable abbrev QKL(has:Int→Bool)(l:List QB)(many:Int)(x:QE):List (Nat×Blk):=
  [(256,.cells 0 38 [.slz 320 0 l.length cO]),(232,.mpf i64 (.int true .i64 0) has fun i => .int false .i64 (QG l i)),(zf ac body),(160,.cells 0 3 [.int
  false .i64 many]),(QDj f),(320,.rowz true 56 [.int .i64,.int .i64] l.length fun i=>QA.enc (l.getD i ⟨0,0⟩)),(Gh C x),GB,G8,(0,.frz Y0 x.d.ps.n fun i=>
  QA.enc (x.d.ps.get i)),(1,.frz Y0 x.scans.n fun i=>QA.enc (x.scans.get i)),(G0 x),(HB C)]
theorem QQe(pb1 pb2:List Prop→Bool)(x:QE)(C:List (List QB))(ac body:Code)(cs l l2:List QB)(has has2:Int→Bool)(many:Int)(f:Nat→Int)(k:Nat)(has':Int→Bool)(many':Int)(f':Nat→Int)(g:Nat→Value):exec (mkC Try.prog (Vv pb1 pb2 x C l2 (plU x C ac body l2 has2 many f has' many' f'))) (hnd (mkC Try.prog (Vv pb1 pb2 x C l2 (plU x C ac body l2 has2 many f has' many' f')))
  0) (QW Try.f77 0) (JSt.inst (plJ x C ac body cs l has many f k) g) (KF GZ ZC) = .br (decide ((k:Int)<(cs.length:Int))) (.need (decide ((0:Int)≤(k:Int)∧(k :
  Int)<(cs.length:Int))&&decide (cs.length≤cs.length)) (.need (decide (k<cs.length)) (.all (fun(g0:Nat→Value) => .need (isI i64 (.int false .i64 (QG l
  (cs.getD k ⟨0,0⟩).cell))) (.br (decide (toI (.int false .i64 (QG l (cs.getD k ⟨0,0⟩).cell))≥bif (cs.getD k ⟨0,0⟩).cell == -2 then x.foreign else (1:Int))) (.leaf (.tup
  (QDZ cs k)) ((QOQ C ac body cs f has l many x))) (.need (decide (l.length≤l.length)&&(true&&decide ((l.length+1+(l.length+1) / 4+192)*16≤281474976710656 ∧
  l.length+1≤9223372036854775807))) (.need (isI i64 (.int false .i64 (QG l (cs.getD k ⟨0,0⟩).cell))) (.need (pb1 ([0=0,0=0,0=0,l.length+1=l2.length,Cap.of
  0=cO,l2.length≤l.length+1,QC 2 l2.length (Qa l.length (fun i=>QA.enc (l.getD i ⟨0,0⟩)) (QS [(HM cs k)] 0)) fun i=>QA.enc (l2.getD i ⟨0,0⟩),
  x.d.play.length=x.d.play.length,x.d.play.slack=x.d.play.slack,x.d.play.loose=x.d.play.loose,x.d.play.damp.lo=x.d.play.damp.lo,x.d.play.damp.hi=x.d.play.damp.hi,
  x.d.wide=x.d.wide,x.d.high=x.d.high,x.d.turn=x.d.turn,0=0,x.d.ps.n=x.d.ps.n,cO=cO,0=0,x.scans.n=x.scans.n,cO=cO,0=0,x.hang.n =
  x.hang.n,cO=cO,x.lost=x.lost,x.foreign=x.foreign,0=0,C.length=C.length,cO=cO,C.length=C.length,KM 2 C.length (fun i=>(QH C
  i).length) (fun i=>(QH C i).length) (fun i j=>QA.enc ((QH C i).getD j ⟨0,0⟩)) fun i j=>QA.enc ((QH C i).getD j ⟨0,0⟩),x.d.ps.n≤x.d.ps.n,QC 28 x.d.ps.n (fun
  i=>QA.enc (x.d.ps.get i)) fun i=>QA.enc (x.d.ps.get i),x.scans.n≤x.scans.n,QC 28 x.scans.n (fun i=>QA.enc (x.scans.get i)) fun i=>QA.enc (x.scans.get i),
  x.hang.n≤x.hang.n,QC 4 x.hang.n (fun i=>QA.enc (x.hang.get i)) fun i=>QA.enc (x.hang.get i)])) (.br (!KS x l2) (.need (isI i64 (Bool.rec ((fun _=>(fun i
  => .int false .i64 (QG l i)) ((fun i=>QA.enc (cs.getD i ⟨0,0⟩)) ((k:Int).toNat+0) 0)) ()) ((fun _ => .int false .i64 (i64.wrap (toI ((fun i => .int false .i64
  (QG l i)) ((fun i=>QA.enc (cs.getD i ⟨0,0⟩)) ((k:Int).toNat+0) 0))+1))) ()) (decide ((fun i=>QA.enc (cs.getD i ⟨0,0⟩)) ((k:Int).toNat+0) 0=(fun i=>QA.enc
  (cs.getD i ⟨0,0⟩)) ((k:Int).toNat+0) 0)))) (.need (decide ((0:Int)≤i64.wrap ((↑(l.length+1):Int)-1)∧(i64.wrap ((↑(l.length+1):Int)-1)).toNat ≤
  l.length+1-0)) (.leaf (.tup (QDZ cs k)) ((QKr C ac body cs f has k l many x))))) (.need (pb2 ([0=0,0=0,0=0,0=0,0=0,0=0,0=0,0=0,0=0,0=0,0=0,
  l.length+1=l2.length,cO=cO,l2.length≤l.length+1,QC 2 l2.length (Qa l.length (fun i=>QA.enc (l.getD i ⟨0,0⟩)) (QS [(HM cs k)] 0)) fun i=>
  QA.enc (l2.getD i ⟨0,0⟩),KE (.int true .i64 0) (.int true .i64 0) (QV (cs.getD k ⟨0,0⟩).cell true has) has2 (Q5 (cs.getD k ⟨0,0⟩).cell (.int false .i64
  (i64.wrap (toI (.int false .i64 (QG l (cs.getD k ⟨0,0⟩).cell))+1))) fun i => .int false .i64 (QG l i)) fun i => .int false .i64 (QG l2 i),LoopState.ready =
  LoopState.ready,(none:Option Code)=none,Array.mk [12]=Array.mk [12],ac=ac,body=body,0=0,0=0,(0:Int)=0,(0:Int)=0,(0:Int)=0,(0:Int)=0,(0 :
  Int)=0,(0:Int)=0,(0:Int)=0,(0:Int)=0,(0:Int)=0,(0:Int)=0,(0:Int)=0,(0:Int)=0,(0:Int)=0,Fn.func 51=Fn.func 51,0=0,0=0,0=0,0 =
  0,0=0,0=0,false=false,0=0,0=0,0=0,0=0,Fn.func 76=Fn.func 76,0=0,0=0,many=many,f 0=f 0,f 1=f 1,f 2=f 2,f 3=f 3,f 4=f 4,f 5=f 5,f 6
  = f 6,f 7=f 7,f 8=f 8,f 9=f 9,f 10=f 10,f 11=f 11,f 12=f 12,Fn.func 77=Fn.func 77,0=0,0=0,0=0,0=0,0=0,0=0,0=0,0=0,0=0,0=0,0=0,
  0=0,Fn.func 51=Fn.func 51,x.d.play.length=x.d.play.length,x.d.play.slack=x.d.play.slack,x.d.play.loose=x.d.play.loose,x.d.play.damp.lo=x.d.play.damp.lo,
  x.d.play.damp.hi=x.d.play.damp.hi,x.d.wide=x.d.wide,x.d.high=x.d.high,x.d.turn=x.d.turn,0=0,x.d.ps.n=x.d.ps.n,cO=cO,0=0,x.scans.n=x.scans.n,
  cO=cO,0=0,x.hang.n=x.hang.n,cO=cO,x.lost=x.lost,x.foreign=x.foreign,0=0,C.length=C.length,cO=cO,C.length=C.length,
  KM 2 C.length (fun i=>(QH C i).length) (fun i=>(QH C i).length) (fun i j=>QA.enc ((QH C i).getD j ⟨0,0⟩)) fun i j=>QA.enc ((QH C i).getD j ⟨0,0⟩),
  x.d.ps.n≤x.d.ps.n,QC 28 x.d.ps.n (fun i=>QA.enc (x.d.ps.get i)) fun i=>QA.enc (x.d.ps.get i),x.scans.n≤x.scans.n,QC 28 x.scans.n (fun i=>QA.enc
  (x.scans.get i)) fun i=>QA.enc (x.scans.get i),x.hang.n≤x.hang.n,QC 4 x.hang.n (fun i=>QA.enc (x.hang.get i)) fun i=>QA.enc (x.hang.get i)])) (.need (isI
  i64 (.int false .i64 (QG l2 (cs.getD k ⟨0,0⟩).cell))) (.need (decide ((0:Int)≤i64.wrap ((l2.length:Int)-1)∧(i64.wrap ((l2.length:Int) -
  1)).toNat≤l2.length-0)) (.br (false) (.leaf (.tup [.nili,.ptr 98 0 0,.bool true false]) ([(256,.cells 0 38 [.slz 1064 0 (i64.wrap ((l2.length:Int)-1)).toNat
  cO]),(QHX cs has' k l2),(zf ac body),(160,.cells 0 3 [vi many']),(QNL f'),(1064,.rowz true 56 [.int .i64,.int .i64] l2.length fun i=>QA.enc
  (l2.getD i ⟨0,0⟩)),(Gh C x),GB,G8,(0,.frz Y0 x.d.ps.n fun i=>QA.enc (x.d.ps.get i)),(1,.frz Y0 x.scans.n fun i=>QA.enc (x.scans.get i)),(G0 x),(HB
  C)])) (.leaf (.tup (QDZ cs k)) ((QLW C ac body cs f' has' k l2 many' x)))))))))))))))) (.leaf (.tup [.ptr 0 0 0,.ptr 98 0 0]) ((QKL C ac body f has l many x))):=by kernel_rfl
noncomputable abbrev QEX:List AV:=
  [.ptr 256 0 0,.ptr 184 0 0,.ptr 240 0 0,.ptr 224 0 0,.ptr 264 0 0,.slz 328 0 cs.length cO,vi (cs.length:Int),vi (i64.wrap ((k :
  Int)+1))]
abbrev XE:List Prop:=
  [0=0,0=0,0=0,0=0,0=0,0=0]
abbrev QDN(k':Nat):List Prop:=
  [0=0,0=0,0=0,0=0,0=0,cs.length=cs.length,cO=cO,(cs.length:Int)=(cs.length:Int),i64.wrap ((k:Int)+1)=(k':Int),cs.length ≤
  cs.length,QC 2 cs.length (fun i=>QA.enc (cs.getD i ⟨0,0⟩)) fun i=>QA.enc (cs.getD i ⟨0,0⟩),0=0]
abbrev QLX(l:List QB):List Prop:=
  [l.length=l.length,cO=cO,l.length≤l.length,QC 2 l.length (fun i=>QA.enc (l.getD i ⟨0,0⟩)) fun i=>QA.enc (l.getD i ⟨0,0⟩),KE (.int true .i64 0)
  (.int true .i64 0) has has (fun i => .int false .i64 (QG l i)) fun i => .int false .i64 (QG l i),LoopState.ready=LoopState.ready,(none:Option Code)=none,Array.mk [12] =
  Array.mk [(12:Tmp)],ac=ac,body=body,0=0,0=0]
abbrev HW:List Prop:=
  [(0:Int)=0,(0:Int)=0,(0:Int)=0,(0:Int)=0,(0:Int)=0,(0:Int)=0,(0:Int)=0,(0:Int)=0]
abbrev Hl:List Prop:=
  [(0:Int)=0,(0:Int)=0,(0:Int)=0,(0:Int)=0]
abbrev QD1:List Prop:=
  [0=0,0=0,0=0,Fn.func (76:FuncId)=Fn.func (76:FuncId),0=0,0=0,many=many,f 0=f 0,f 1=f 1,f 2=f 2,f 3=f 3,f 4=f 4,f 5=f 5,f 6=f 6,f 7=f
  7,f 8=f 8,f 9=f 9,f 10=f 10,f 11=f 11,f 12=f 12]
abbrev QEN:List Prop:=
  [x.d.play.length=x.d.play.length,x.d.play.slack=x.d.play.slack,x.d.play.loose=x.d.play.loose,x.d.play.damp.lo=x.d.play.damp.lo,x.d.play.damp.hi=x.d.play.damp.hi,
  x.d.wide=x.d.wide,x.d.high=x.d.high,x.d.turn=x.d.turn,0=0,x.d.ps.n=x.d.ps.n,cO=cO,0=0,x.scans.n=x.scans.n,cO=cO,0=0,x.hang.n =
  x.hang.n,cO=cO,x.lost=x.lost,x.foreign=x.foreign,0=0,C.length=C.length,cO=cO,C.length=C.length,KM 2 C.length (fun i=>(QH C
  i).length) (fun i=>(QH C i).length) (fun i j=>QA.enc ((QH C i).getD j ⟨0,0⟩)) fun i j=>QA.enc ((QH C i).getD j ⟨0,0⟩),x.d.ps.n≤x.d.ps.n,QC 28 x.d.ps.n (fun
  i=>QA.enc (x.d.ps.get i)) fun i=>QA.enc (x.d.ps.get i),x.scans.n≤x.scans.n,QC 28 x.scans.n (fun i=>QA.enc (x.scans.get i)) fun i=>QA.enc (x.scans.get i),
  x.hang.n≤x.hang.n,QC 4 x.hang.n (fun i=>QA.enc (x.hang.get i)) fun i=>QA.enc (x.hang.get i)]
theorem QUB(C:List (List QB))(ac body:Code)(cs l:List QB)(has:Int→Bool)(many:Int)(f:Nat→Int)(k k':Nat):QL 312 (QEX cs k) ((QOQ C ac body cs f has l many x)) (plJ x C ac body cs l has many f k')=(some (XE++(QDN cs k k')++(QLX ac body has l)++HW++Hl++[(0 :
  Int)=0,Fn.func (51:FuncId)=Fn.func (51:FuncId)]++XE++[false=false,0=0]++(QD1 f many)++[Fn.func 77=Fn.func (77:FuncId)]++XE++XE++[Fn.func
  51=Fn.func (51:FuncId)]++(QEN C x))):=by kernel_rfl
theorem QZH(x:QE)(C:List (List QB))(ac body:Code)(cs l:List QB)(has h':Int→Bool)(many:Int)(f:Nat→Int)(k k':Nat):QL 312 (QEX cs k) ((QKr C ac body cs f has k l many x)) (plJ x C ac body cs l h' many f k')=(some (XE++(QDN cs k k')++[(i64.wrap ((↑(l.length+1):Int) -
  1)).toNat=l.length,cO=cO,l.length≤l.length+1,QC 2 l.length (Qa l.length (fun i=>QA.enc (l.getD i ⟨0,0⟩)) (QS [(HM cs k)] 0)) fun i=>
  QA.enc (l.getD i ⟨0,0⟩),KE (.int true .i64 0) (.int true .i64 0) (QV (cs.getD k ⟨0,0⟩).cell true (QV (cs.getD k ⟨0,0⟩).cell true has)) h' (Q5 (cs.getD k ⟨0,0⟩).cell
  (.int false .i64 (i64.wrap (toI (Bool.rec ((fun x=>(fun i => .int false .i64 (QG l i)) ((fun i=>QA.enc (cs.getD i ⟨0,0⟩)) ((k:Int).toNat+0) 0)) ()) ((fun x=>
  .int false .i64 (i64.wrap (toI ((fun i => .int false .i64 (QG l i)) ((fun i=>QA.enc (cs.getD i ⟨0,0⟩)) ((k:Int).toNat+0) 0))+1))) ()) (decide ((fun i=>
  QA.enc (cs.getD i ⟨0,0⟩)) ((k:Int).toNat+0) 0=(fun i=>QA.enc (cs.getD i ⟨0,0⟩)) ((k:Int).toNat+0) 0)))-1))) (Q5 (cs.getD k ⟨0,0⟩).cell (.int false .i64
  (i64.wrap (toI (.int false .i64 (QG l (cs.getD k ⟨0,0⟩).cell))+1))) fun i => .int false .i64 (QG l i))) fun i => .int false .i64 (QG l i),LoopState.ready =
  LoopState.ready,(none:Option Code)=none,Array.mk [12]=Array.mk [(12:Tmp)],ac=ac,body=body,0=0,0=0]++HW++Hl++[(0:Int)=0,Fn.func (51:FuncId) =
  Fn.func (51:FuncId)]++XE++[false=false,0=0]++(QD1 f many)++[Fn.func 77=Fn.func (77:FuncId)]++XE++XE++[Fn.func 51=Fn.func (51:FuncId)] ++
  (QEN C x))):=by kernel_rfl
theorem QPQ(C:List (List QB))(ac body:Code)(cs l l2:List QB)(k:Nat)(has' h':Int→Bool)(many':Int)(f':Nat→Int)(k':Nat):QL 312 (QEX cs k) ((QLW C ac body cs f' has' k l2 many' x)) (plJ x C ac body cs l h' many' f' k')=(some (XE++(QDN cs k k')++[(i64.wrap ((l2.length:Int) -
  1)).toNat=l.length,cO=cO,l.length≤l2.length,QC 2 l.length (fun i=>QA.enc (l2.getD i ⟨0,0⟩)) fun i=>QA.enc (l.getD i ⟨0,0⟩),KE (.int true .i64
  0) (.int true .i64 0) (QV (cs.getD k ⟨0,0⟩).cell true has') h' (Q5 (cs.getD k ⟨0,0⟩).cell (.int false .i64 (i64.wrap (toI (.int false .i64 (QG l2 (cs.getD k ⟨0,
  0⟩).cell))-1))) fun i => .int false .i64 (QG l2 i)) fun i => .int false .i64 (QG l i),LoopState.ready=LoopState.ready,(none:Option Code)=none,Array.mk [12]=Array.mk
  [(12:Tmp)],ac=ac,body=body,0=0,0=0]++HW++Hl++[(0:Int)=0,Fn.func (51:FuncId)=Fn.func (51:FuncId)]++XE++[false=false,0=0,0=0,0 =
  0,0=0,Fn.func (76:FuncId)=Fn.func (76:FuncId),0=0,0=0,many'=many',f' 0=f' 0,f' 1=f' 1,f' 2=f' 2,f' 3=f' 3,f' 4=f' 4,f' 5=f' 5,f' 6=f' 6,f' 7
  = f' 7,f' 8=f' 8,f' 9=f' 9,f' 10=f' 10,f' 11=f' 11,f' 12=f' 12,Fn.func 77=Fn.func (77:FuncId)]++XE++XE++[Fn.func 51=Fn.func (51:FuncId)] ++
  (QEN C x))):=by kernel_rfl
theorem QZT(C:List (List QB))(ac body:Code)(l:List QB)(has:Int→Bool)(many:Int)(f:Nat→Int):QL 312 [] ((QKL C ac body f has l many x)) (plE ac body l has many f)=(some ([0=0]++(QLX ac body has l)++HW++Hl++[(0:Int)=0,Fn.func (51:FuncId) =
  Fn.func (51:FuncId)]++XE++[false=false,0=0]++(QD1 f many))):=by kernel_rfl
abbrev PlS:=Int×(Nat→Int)
def plY(s:PlS)(l:List QB):PlS×Bool:=((i64.wrap (s.1+1),plL l s.2 l.length),true)
def Vf(x:QE)(s:PlS):Prop:=True
theorem QTC{x:QE}{s:PlS}{l:List QB}(_:Vf x s)(_:l.length=x.scans.n):Vf x (plY s l).1:=trivial
def ZG(C:List (List QB))(ac body:Code)(l:List QB)(has:Int→Bool)(s:PlS):Res PlS→UC
 | .go s' h'=>plU x C ac body l has s.1 s.2 h' s'.1 s'.2
 | .stop s' h'=>plU x C ac body l has s.1 s.2 h' s'.1 s'.2
abbrev PlK:=Nat×PlS×(Int→Bool)
open Classical in
noncomputable def qY(s:PlS):List Prop→Bool:=if k<cs.length∧Vf x s then QY else fun _=>false
def YO(C:List (List QB))(d:Nat)(l:List QB)(s:PlS)(h:Int→Bool)(c:QB):Res PlS:=onT x C plY d (l++[c]) s h
noncomputable def qH(P:Program)(x:QE)(C:List (List QB))(ac body:Code)(d:Nat)(cs l:List QB)(t:PlK):Env:=
 mkC P (Vv (qY x cs t.1 t.2.1) (qY x cs t.1 t.2.1) x C (l++[cs.getD t.1 ⟨0,0⟩]) (ZG x C ac body (l++[cs.getD t.1 ⟨0,0⟩]) (QV (cs.getD t.1 ⟨0,0⟩).cell true t.2.2) t.2.1 (YO x C d l t.2.1 (QV (cs.getD t.1 ⟨0,0⟩).cell true t.2.2) (cs.getD t.1 ⟨0,0⟩))))
def WG(C:List (List QB))(ac body:Code)(d:Nat)(cs l:List QB)(t:PlK)(e:Ex)(J:JSt):Prop:=match JV (KQ x l (YO x C d l)) (cs.drop t.1) t.2.1 t.2.2 with
 | .go s h=>e = .exit 0∧J=plE ac body l h s.1 s.2
 | .stop _ _=>False
set_option maxHeartbeats 1600000 in
theorem QZS(C:List (List QB))(ac body:Code)(d:Nat)(cs l:List QB)(hcs:cs.length≤1000)(hl:l.length≤1000)(hn:l.length+1+d=x.scans.n):qD (fun t:PlK=>plJ x C ac body cs l t.2.2 t.2.1.1 t.2.1.2 t.1) (fun t=>t.1≤cs.length∧Vf x t.2.1) (fun t=>cs.length-t.1) (WG x C ac body d cs l) 312 ZC GZ (qH Try.prog x C ac body d cs l) (fun t=>hnd (qH Try.prog x C ac body d cs l t) 0) (QW Try.f77 0):=by
 refine⟨fun t g hk => ?_⟩;obtain⟨k,⟨many,f⟩,has⟩:=t;obtain⟨hk,hgd⟩:=hk;have hk:k≤cs.length:=hk;have hgd:Vf x (many,f):=hgd;obtain⟨s',h',hrec⟩:=Yv (C:=C) (x:=x) (Y:=plY) (fun _ _=>rfl) d (l++[cs.getD k ⟨0,0⟩]) (many,f) (QV (cs.getD k ⟨0,0⟩).cell true has);have hgd':Vf x s':=H7 (G:=Vf x) (fun s l hs hn=>QTC hs hn) d _ _ _ (by simp;omega) hgd hrec
 unfold qH;simp only;have hrec:YO x C d l (many,f) (QV (cs.getD k ⟨0,0⟩).cell true has) (cs.getD k ⟨0,0⟩) = .go s' h':=hrec;rw[hrec];refine Qt (QQe (qY x cs k (many,f)) (qY x cs k (many,f)) x C ac body cs l (l++[cs.getD k ⟨0,0⟩]) has (QV (cs.getD k ⟨0,0⟩).cell true has) many f k h' s'.1 s'.2 g) ?_;refine QI (fun h => ?_) (fun h => ?_)
 ·have h:k<cs.length:=by have:=qdt h;omega
  have hw:=Kj h hcs;have hpb:qY x cs k (many,f)=QY:=by unfold qY;rw[if_pos ⟨h,hgd⟩]
  rw[hpb];have step:=vq (f:=KQ x l (YO x C d l)) h (many,f) has
  have next:∀{s2:PlS} {h2:Int→Bool},KQ x l (YO x C d l) (many,f) has (cs.getD k ⟨0,0⟩) = .go s2 h2→∀ e J,WG x C ac body d cs l (k+1,s2,h2) e J→WG x C ac body d cs l (k,(many,f),has) e J:=by
   intro s2 h2 he e J hr;unfold WG at hr ⊢;simp only at hr ⊢;rw[step,he];exact hr
  have one:∀ b,Ks x l (cs.getD k ⟨0,0⟩)=b→KQ x l (YO x C d l) (many,f) has (cs.getD k ⟨0,0⟩)=match b with
    | true => .go (many,f) has
    | false=>match KS x (l++[cs.getD k ⟨0,0⟩])with
     | false => .go (many,f) (QV (cs.getD k ⟨0,0⟩).cell true (QV (cs.getD k ⟨0,0⟩).cell true has))
     | true => .go s' (QV (cs.getD k ⟨0,0⟩).cell true h'):=by
   intro b hb;unfold KQ;rw[hb,hrec];cases b
   ·cases KS x (l++[cs.getD k ⟨0,0⟩])<;>rfl
   ·rfl
  refine QF (by simp;omega) (QF (by simp;omega) (Q6 fun _ => ?_))
  refine QF rfl (QI (fun hf => ?_) (fun hf=>QF (by simp;omega) (QF rfl (QF (KL.2 ?_) (QI (fun hq => ?_) (fun hq => ?_))))))
  ·have hf:Ks x l (cs.getD k ⟨0,0⟩)=true:=Vi.trans hf;refine⟨(k+1,(many,f),has),⟨h,hgd⟩,by show cs.length-(k+1)<cs.length-k;omega,next (one _ hf),rfl,rfl,_,QUB x C ac body cs l has many f k (k+1),?_⟩
   repeat' first|with_reducible refine QN ?_ ?_|exact trivial|with_reducible rfl|exact qlr _|exact qRr|exact QU _ _ _ _|exact Ki _ _ _|exact hw|refine And.intro ?_ ?_
  ·repeat' first|with_reducible refine QN ?_ ?_|exact trivial|with_reducible rfl|exact qlr _|exact qRr|exact QU _ _ _ _|exact Yg _ _|exact Y7 _ _|exact Yw _ _ _ rfl|refine And.intro ?_ ?_
  ·have hf:Ks x l (cs.getD k ⟨0,0⟩)=false:=Vi.trans hf;have hq:KS x (l++[cs.getD k ⟨0,0⟩])=false:=by simpa using hq
   have hp:=vZ l hl;have hp1:i64.wrap (((l.length+1:Nat):Int)-1)=l.length:=(w64 (by omega) (by omega)).trans (by omega)
   have ho:=one _ hf;rw[hq]at ho;refine QF (by simp[isI]) (QF (by rw[hp1];simp) ?_)
   refine⟨(k+1,(many,f),QV (cs.getD k ⟨0,0⟩).cell true (QV (cs.getD k ⟨0,0⟩).cell true has)),⟨h,hgd⟩,by show cs.length-(k+1)<cs.length-k;omega,next ho,rfl,rfl,_,QZH x C ac body cs l has (QV (cs.getD k ⟨0,0⟩).cell true (QV (cs.getD k ⟨0,0⟩).cell true has)) many f k (k+1),?_⟩
   repeat' first|with_reducible refine QN ?_ ?_|exact trivial|with_reducible rfl|exact qlr _|exact qRr|exact QU _ _ _ _|exact hw|exact hp|exact Nat.le_succ _|exact za _ _|exact zX _ _ _ hl (by simp[toI];rfl) _|refine And.intro ?_ ?_
  ·have hf:Ks x l (cs.getD k ⟨0,0⟩)=false:=Vi.trans hf;have hq:KS x (l++[cs.getD k ⟨0,0⟩])=true:=by simpa using hq
   have hp:=Gq l (cs.getD k ⟨0,0⟩) hl
   have hp1:i64.wrap (((l++[cs.getD k ⟨0,0⟩]).length:Int)-1)=l.length:=by
    rw[List.length_append,List.length_singleton];exact(w64 (by omega) (by omega)).trans (by omega)
   have ho:=one _ hf;rw[hq]at ho;refine QF (KL.2 ?_) (QF rfl (QF (by rw[hp1];simp) (QI (fun q=>by cases q) (fun _ => ?_))))
   ·repeat' first|with_reducible refine QN ?_ ?_|exact trivial|with_reducible rfl|exact qlr _|exact qRr|exact QU _ _ _ _|exact Yg _ _|exact Y7 _ _|exact Yw _ _ _ rfl|exact GO _ _ hl rfl _|refine And.intro ?_ ?_
   refine⟨(k+1,s',QV (cs.getD k ⟨0,0⟩).cell true h'),⟨h,hgd'⟩,by show cs.length-(k+1)<cs.length-k;omega,next ho,rfl,rfl,_,QPQ x C ac body cs l (l++[cs.getD k ⟨0,0⟩]) k h' (QV (cs.getD k ⟨0,0⟩).cell true h') s'.1 s'.2 (k+1),?_⟩
   repeat' first|with_reducible refine QN ?_ ?_|exact trivial|with_reducible rfl|exact qlr _|exact qRr|exact QU _ _ _ _|exact hw|exact hp|exact(by simp:l.length≤(l++[cs.getD k ⟨0,0⟩]).length)|exact Gs _ _|exact Ge _ _ hl rfl _|refine And.intro ?_ ?_
 ·have h:cs.length≤k:=by have:=of_decide_eq_false h;omega
  have he:=vw (f:=KQ x l (YO x C d l)) h (many,f) has;refine⟨plE ac body l has many f,by unfold WG;simp only[he,and_self],rfl,rfl,_,QZT x C ac body l has many f,?_⟩
  repeat' first|with_reducible refine QN ?_ ?_|exact trivial|with_reducible rfl|exact qlr _|exact qRr|exact QU _ _ _ _|exact Ki _ _ _|refine And.intro ?_ ?_
def jA(pb:List Prop→Bool)(U:UC):Tab:=Qd Qj 51 (Jd pb U)
abbrev plX(P:Program)(J:JSt)(X:List (Prop×Ex×JSt)):Hnd:={ hnd (mkE P Qj) 2 with loop:=fun _=>Q7 312 GZ J X }
noncomputable abbrev QFN:Nat×Blk:=
  (217,.lp LoopState.ready none plT (Array.mk [12]) (QK Try.f50 0).1 (QK Try.f50 0).2)
noncomputable abbrev QMl:Nat×Blk:=
  (48,.cellsR 0 125 [vi x.d.play.length,vi x.d.play.slack,vi x.d.play.loose,vi x.d.play.damp.lo,.int false .i64
  x.d.play.damp.hi,vi x.d.wide,vi x.d.high,.bool false x.d.turn,.slz 0 0 x.d.ps.n cO,.slz 1 0 x.scans.n cO,.slz 2 0 x.hang.n (Cap.of
  0),vi x.lost,vi x.foreign,.slz 49 0 C.length cO])
abbrev QCO:List CK:=
  [.int .i64,.int .i64,.int .i64,.int .i64,.int .i64,.int .i64,.int .i64,.int .i64,.int .i64,.int .i64,.int .i64,.int .i64,.int .i64,.int .i64,.int .i64,.int .i64,.int
  .i64,.int .i64,.int .i64,.int .i64,.int .i64,.int .i64,.int .i64,.int .i64,.int .i64,.int .i64,.int .i64,.int .i64]
noncomputable abbrev QIH:Nat×Blk:=
  (49,.frz2 false 38 [.int .i64,.int .i64] C.length (fun i=>(QH C i).length) fun i j=>QA.enc ((QH C i).getD j ⟨0,0⟩))
noncomputable abbrev QFG(has:Int→Bool)(l:List QB)(many:Int)(x:QE):List (Nat×Blk):=
  [(256,.cells 0 38 [.slz 304 0 l.length cO]),(232,.mpf i64 (.int true .i64 0) has fun i => .int false .i64 (QG l i)),QFN,(160,.cells 0 3 [.int false .i64
  many]),(128,.cells 1 95 [vi (f 0),vi (f 1),vi (f 2),vi (f 3),vi (f 4),vi (f 5),.int false .i64
  (f 6),vi (f 7),vi (f 8),vi (f 9),vi (f 10),vi (f 11),vi (f 12)]),(304,.rowz true 56 [.int .i64,
  .int .i64] l.length fun i=>QA.enc (l.getD i ⟨0,0⟩)),(QMl C x),(136,.cellsR 0 99 [.fn (Fn.func 51) []]),(184,.cellsR 0 89 [.ptr 48 0 0]),(0,.frz QCO x.d.ps.n fun i=>
  QA.enc (x.d.ps.get i)),(1,.frz QCO x.scans.n fun i=>QA.enc (x.scans.get i)),(2,.frz [.int .i64,.int .i64,.int .i64,.int .i64] x.hang.n fun i=>QA.enc (x.hang.get
  i)),(QIH C)]
noncomputable abbrev QIl(f2:Nat→Int)(has:Int→Bool)(l:List QB)(many:Int)(x:QE):List (Nat×Blk):=
  [(256,.cells 0 38 [.slz 304 0 l.length cO]),(232,.mpf i64 (.int true .i64 0) has fun i => .int false .i64 (QG l i)),QFN,(160,.cells 0 3 [.int false .i64
  (i64.wrap (many+1))]),(128,.cells 1 95 [vi (f2 0),vi (f2 1),vi (f2 2),vi (f2 3),vi (f2 4),.int
  false .i64 (f2 5),vi (f2 6),vi (f2 7),vi (f2 8),vi (f2 9),vi (f2 10),vi (f2 11),.int false .i64
  (f2 12)]),(304,.rowz true 56 [.int .i64,.int .i64] l.length fun i=>QA.enc (l.getD i ⟨0,0⟩)),(QMl C x),(136,.cellsR 0 99 [.fn (Fn.func 51) []]),(184,.cellsR 0 89 [.ptr
  48 0 0]),(0,.frz QCO x.d.ps.n fun i=>QA.enc (x.d.ps.get i)),(1,.frz QCO x.scans.n fun i=>QA.enc (x.scans.get i)),(2,.frz [.int .i64,.int .i64,.int .i64,.int .i64]
  x.hang.n fun i=>QA.enc (x.hang.get i)),(QIH C)]
theorem QGt(pb:List Prop→Bool)(x:QE)(C:List (List QB))(l:List QB)(has:Int→Bool)(many:Int)(f:Nat→Int)(f2:Nat→Int):(J5 (mkE Try.prog (jA pb (pmU l f f2))) (msN Try.prog (jA pb (pmU l f f2))) Try.f77 QC5 (H6 x C (QK Try.f50 0).1 (QK Try.f50 0).2 l has many f).hp 312 fun v
  h _=>YM GZ v h) = .br ((l.length:Int)==(x.scans.n:Int)) (.need (isI i64 (.int false .i64 (QG l (-2:Int)))) (.br (decide (i64.wrap ((x.d.ps.n:Int)
  - i64.wrap ((l.length:Int)-toI (.int false .i64 (QG l (-2:Int)))))>x.lost)) (.leaf (.bool true true) ((QFG C f has l many x))) (.need (pb ([f 0=f 0,f 1=f 1,
  f 2=f 2,f 3=f 3,f 4=f 4,f 5=f 5,f 6=f 6,f 7=f 7,f 8=f 8,f 9=f 9,f 10=f 10,f 11=f 11,f 12=f 12,0=0,l.length=l.length,Cap.of 0=Cap.of 0,
  l.length≤l.length,QC 2 l.length (fun i=>QA.enc (l.getD i ⟨0,0⟩)) fun i=>QA.enc (l.getD i ⟨0,0⟩)])) (.leaf (.bool true true) ((QIl C f2 has l many x)))))) (.need
  (decide ((0 : Int) ≤ (l.length : Int) ∧ (l.length : Int) < (C.length : Int)) && decide (C.length ≤ C.length)) (.need (decide (l.length < C.length)) (.fail ("a loop")))) := by kernel_rfl
abbrev QM5(l:List QB):List Prop:=
  [0=0,l.length=l.length,cO=cO,l.length≤l.length,QC 2 l.length (fun i=>QA.enc (l.getD i ⟨0,0⟩)) fun i=>QA.enc (l.getD i ⟨0,0⟩),KE (.int true
  .i64 0) (.int true .i64 0) has has (fun i => .int false .i64 (QG l i)) fun i => .int false .i64 (QG l i),LoopState.ready=LoopState.ready,(none:Option Code)=none,
  Array.mk [12]=Array.mk [(12:Tmp)],(QK Try.f50 0).1=(QK Try.f50 0).1,(QK Try.f50 0).2=(QK Try.f50 0).2,0=0,0=0]
abbrev QGN:List Prop:=
  [(0:Int)=0,(0:Int)=0,(0:Int)=0,(0:Int)=0,(0:Int)=0,(0:Int)=0,(0:Int)=0,(0:Int)=0]
abbrev QEC:List Prop:=
  [(0:Int)=0,(0:Int)=0,(0:Int)=0,(0:Int)=0,(0:Int)=0,Fn.func (51:FuncId)=Fn.func (51:FuncId),0=0,0=0,0=0,0=0,0=0,0=0,false=false,0
  = 0,0=0,0=0,0=0,Fn.func (76:FuncId)=Fn.func (76:FuncId),0=0,0=0]
theorem QRe(C:List (List QB))(l:List QB)(has:Int→Bool)(many:Int)(f:Nat→Int):QL 312 [(.bool true true)] ((QFG C f has l many x)) (Kd (plU x C (QK Try.f50 0).1 (QK Try.f50 0).2 l has many f has many f))=(some ([true=true]++(QM5 has l) ++
  QGN++QEC++[many=many,f 0=f 0,f 1=f 1,f 2=f 2,f 3=f 3,f 4=f 4,f 5=f 5,f 6=f 6,f 7=f 7,f 8=f 8,f 9=f 9,f 10=f 10,f 11=f 11,f 12=f 12])):=by kernel_rfl
theorem QWC(C:List (List QB))(l:List QB)(has:Int→Bool)(many:Int)(f:Nat→Int)(f2:Nat→Int)(many':Int)(f':Nat→Int):QL 312 [(.bool true true)] ((QIl C f2 has l many x)) (Kd (plU x C (QK Try.f50 0).1 (QK Try.f50 0).2 l has many f has many' f'))=(some ([true=true]++(QM5 has l)
  ++ QGN++QEC++[i64.wrap (many+1)=many',f2 0=f' 0,f2 1=f' 1,f2 2=f' 2,f2 3=f' 3,f2 4=f' 4,f2 5=f' 5,f2 6=f' 6,f2 7=f' 7,f2 8=f' 8,f2 9 =
  f' 9,f2 10=f' 10,f2 11=f' 11,f2 12=f' 12])):=by kernel_rfl
noncomputable abbrev QJm(has':Int→Bool)(l:List QB)(many':Int):List (Nat×Blk):=
  [(256,.cells 0 38 [.slz 320 0 l.length cO]),(232,.mpf i64 (.int true .i64 0) has' fun i => .int false .i64 (QG l i)),QFN,(160,.cells 0 3 [.int false .i64
  many']),(128,.cells 1 95 [vi (f' 0),vi (f' 1),vi (f' 2),vi (f' 3),vi (f' 4),vi (f' 5),.int
  false .i64 (f' 6),vi (f' 7),vi (f' 8),vi (f' 9),vi (f' 10),vi (f' 11),vi (f' 12)]),(320,.rowz
  true 56 [.int .i64,.int .i64] l.length fun i=>QA.enc (l.getD i ⟨0,0⟩))]
theorem QUO(C:List (List QB))(cs l:List QB)(has:Int→Bool)(many:Int)(f:Nat→Int)(has':Int→Bool)(many':Int)(f':Nat→Int):(J5 (mkE Try.prog Qj) (plX Try.prog (plJ x C (QK Try.f50 0).1 (QK Try.f50 0).2 cs l has many f 0) [(True,.exit 0,plE (QK Try.f50 0).1 (QK Try.f50 0).2 l
  has' many' f')]) Try.f77 QC5 (H6 x C (QK Try.f50 0).1 (QK Try.f50 0).2 l has many f).hp 312 fun v h _=>YM GZ v h) = .br ((l.length:Int)==(x.scans.n:Int))
  (.need (isI i64 (.int false .i64 (QG l (-2:Int)))) (.br (decide (i64.wrap ((x.d.ps.n:Int)-i64.wrap ((l.length:Int)-toI (.int false .i64 (QG l
  (-2 : Int))))) > x.lost)) (.leaf (.bool true true) ((QFG C f has l many x))) (.fail ("a loop")))) (.need (decide ((0 : Int) ≤ (l.length : Int) ∧ (l.length : Int) < (C.length :
  Int))&&decide (C.length≤C.length)) (.need (decide (l.length<C.length)) (.ask (0=0) (.ask (0=0) (.ask (0=0) (.ask (0=0) (.ask (0=0) (.ask (0=0) (.ask (0=0) (.ask
  (0=0) (.ask (0=0) (.ask (0=0) (.ask (0=0) (.ask ((QH C l.length).length=cs.length) (.ask (Cap.of 0=Cap.of 0) (.ask ((↑(QH C l.length).length:Int)=(cs.length :
  Int)) (.ask ((0:Int)=0) (.ask (cs.length≤(QH C l.length).length) (.ask (QC 2 cs.length (fun j=>QA.enc ((QH C l.length).getD j ⟨0,0⟩)) fun i=>QA.enc (cs.getD i
  ⟨0,0⟩)) (.ask (0=0) (.ask (l.length=l.length) (.ask (Cap.of 0=Cap.of 0) (.ask (l.length≤l.length) (.ask (QC 2 l.length (fun i=>QA.enc (l.getD i ⟨0,0⟩)) fun i=>
  QA.enc (l.getD i ⟨0,0⟩)) (.ask (KE (.int true .i64 0) (.int true .i64 0) has has (fun i => .int false .i64 (QG l i)) fun i => .int false .i64 (QG l i)) (.ask
  (LoopState.ready=LoopState.ready) (.ask ((none:Option Code)=none) (.ask (Array.mk [(12:Tmp)]=Array.mk [(12:Tmp)]) (.ask ((QK Try.f50 0).1=(QK Try.f50 0).1)
  (.ask ((QK Try.f50 0).2=(QK Try.f50 0).2) (.ask (0=0) (.ask (0=0) (.ask ((0:Int)=0) (.ask ((0:Int)=0) (.ask ((0:Int)=0) (.ask ((0:Int)=0) (.ask ((0 :
  Int)=0) (.ask ((0:Int)=0) (.ask ((0:Int)=0) (.ask ((0:Int)=0) (.ask ((0:Int)=0) (.ask ((0:Int)=0) (.ask ((0:Int)=0) (.ask ((0:Int)=0) (.ask ((0:Int)
  = 0) (.ask (Fn.func (51:FuncId)=Fn.func (51:FuncId)) (.ask (0=0) (.ask (0=0) (.ask (0=0) (.ask (0=0) (.ask (0=0) (.ask (0=0) (.ask (false=false) (.ask (0=0)
  (.ask (0=0) (.ask (0=0) (.ask (0=0) (.ask (Fn.func (76:FuncId)=Fn.func (76:FuncId)) (.ask (0=0) (.ask (0=0) (.ask (many=many) (.ask (f 0=f 0) (.ask (f 1=f 1)
  (.ask (f 2=f 2) (.ask (f 3=f 3) (.ask (f 4=f 4) (.ask (f 5=f 5) (.ask (f 6=f 6) (.ask (f 7=f 7) (.ask (f 8=f 8) (.ask (f 9=f 9) (.ask (f 10=f 10) (.ask (f 11=f
  11) (.ask (f 12=f 12) (.ask (Fn.func (77:FuncId)=Fn.func (77:FuncId)) (.ask (0=0) (.ask (0=0) (.ask (0=0) (.ask (0=0) (.ask (0=0) (.ask (0=0) (.ask (0=0) (.ask
  (0=0) (.ask (0=0) (.ask (0=0) (.ask (0=0) (.ask (0=0) (.ask (Fn.func (51:FuncId)=Fn.func (51:FuncId)) (.ask (x.d.play.length=x.d.play.length) (.ask (x.d.play.slack
  = x.d.play.slack) (.ask (x.d.play.loose=x.d.play.loose) (.ask (x.d.play.damp.lo=x.d.play.damp.lo) (.ask (x.d.play.damp.hi=x.d.play.damp.hi) (.ask (x.d.wide=x.d.wide) (.ask
  (x.d.high=x.d.high) (.ask (x.d.turn=x.d.turn) (.ask (0=0) (.ask (x.d.ps.n=x.d.ps.n) (.ask (Cap.of 0=Cap.of 0) (.ask (0=0) (.ask (x.scans.n=x.scans.n) (.ask (Cap.of 0 =
  Cap.of 0) (.ask (0=0) (.ask (x.hang.n=x.hang.n) (.ask (Cap.of 0=Cap.of 0) (.ask (x.lost=x.lost) (.ask (x.foreign=x.foreign) (.ask (0=0) (.ask (C.length=C.length) (.ask
  (Cap.of 0=Cap.of 0) (.ask (C.length=C.length) (.ask (KM 2 C.length (fun i=>(QH C i).length) (fun i=>(QH C i).length) (fun i j=>QA.enc ((QH C i).getD j ⟨0,
  0⟩)) fun i j=>QA.enc ((QH C i).getD j ⟨0,0⟩)) (.ask (x.d.ps.n≤x.d.ps.n) (.ask (QC 28 x.d.ps.n (fun i=>QA.enc (x.d.ps.get i)) fun i=>QA.enc (x.d.ps.get i)) (.ask
  (x.scans.n≤x.scans.n) (.ask (QC 28 x.scans.n (fun i=>QA.enc (x.scans.get i)) fun i=>QA.enc (x.scans.get i)) (.ask (x.hang.n≤x.hang.n) (.ask (QC 4 x.hang.n (fun i
  => QA.enc (x.hang.get i)) fun i=>QA.enc (x.hang.get i)) (.asm (True) (.all (fun(g0:Nat→Value) => .leaf (.bool true true) ((QJm f' has' l
  many'))))))))))))))))))))))))))))))))))))))))))))))))))))))))))))))))))))))))))))))))))))))))))))))))))))))))))))))))))))))))))):=by kernel_rfl
theorem QSl(C:List (List QB))(l:List QB)(has:Int→Bool)(many:Int)(f:Nat→Int)(has':Int→Bool)(many':Int)(f':Nat→Int):QL 312 [(.bool true true)] ((QJm f' has' l many')) (Kd (plU x C (QK Try.f50 0).1 (QK Try.f50 0).2 l has many f has' many' f'))=(some ([true=true,0=0,l.length =
  l.length,cO=cO,l.length≤l.length,QC 2 l.length (fun i=>QA.enc (l.getD i ⟨0,0⟩)) fun i=>QA.enc (l.getD i ⟨0,0⟩),KE (.int true .i64 0) (.int true
  .i64 0) has' has' (fun i => .int false .i64 (QG l i)) fun i => .int false .i64 (QG l i),LoopState.ready=LoopState.ready,(none:Option Code)=none,Array.mk [12]=Array.mk
  [(12:Tmp)],(QK Try.f50 0).1=(QK Try.f50 0).1,(QK Try.f50 0).2=(QK Try.f50 0).2,0=0,0=0]++QGN++QEC++[many'=many',f' 0=f' 0,f' 1=f' 1,f'
  2=f' 2,f' 3=f' 3,f' 4=f' 4,f' 5=f' 5,f' 6=f' 6,f' 7=f' 7,f' 8=f' 8,f' 9=f' 9,f' 10=f' 10,f' 11=f' 11,f' 12=f' 12])):=by kernel_rfl
noncomputable abbrev YS:Code:=(QK Try.f50 0).1
noncomputable abbrev YP:Code:=(QK Try.f50 0).2
theorem QIM(C:List (List QB))(ac body:Code)(l:List QB)(has:Int→Bool)(many:Int)(f:Nat→Int)(has':Int→Bool)(many':Int)(f':Nat→Int):(plU x C ac body l has many f has' many' f').Ok:=by
 refine⟨(by decide:296≤312),rfl,rfl,?_,rfl,fun _ _=>rfl,fun nid h => ?_⟩
 ·intro q hq;simp only[UC.po,plU,plW,rwL,List.mem_cons,List.not_mem_nil,or_false]at hq;rcases hq with rfl|rfl|rfl|rfl|rfl|rfl<;>refine⟨rfl,rfl,rfl,?_⟩<;>first|exact fun _=>rfl|exact fun h=>absurd (show 312<296 from h) (by decide)
 ·have e0:=XX 296 312 0 nid (by decide)
  simp only[UC.po,plU,plW,rwL,H6,plT,QBL,List.map_cons,List.map_nil,Blk.mapId,AV.mapId,AV.mapIdL,Nat.add_zero]at e0 ⊢;rw[e0];rfl
theorem QT2{x:QE}(hx:Ko x)(C:List (List QB)){l:List QB}(hn:l.length=x.scans.n)(hl:∀ c∈l,Km c)(s:PlS)(h:Int→Bool)(hgd:Vf x s):QO Try.prog 77 (uFC (ZG x C YS YP l h s (Ja x plY l s h))):=by
 obtain⟨many,f⟩:=s;have hs:=hx.s;have hd:=hx.d.n9;have hgd:Vf x (many,f):=hgd;have hT:QZ (jA QY (pmU l f (plL l f l.length))):=Qv.add (QRQ l f (by omega) (QHv (by omega) hl))
 have fin:∀(s':PlS),Xo (Ws (plU x C YS YP l h many f h s'.1 s'.2)) (Jy (mkE Try.prog (jA QY (pmU l f (plL l f l.length)))) (msN Try.prog (jA QY (pmU l f (plL l f l.length)))) Try.f77 (plU x C YS YP l h many f h s'.1 s'.2))→QO Try.prog 77 (uFC (plU x C YS YP l h many f h s'.1 s'.2)):=fun s' hd=>
  JW (E:=mkE Try.prog (jA QY (pmU l f (plL l f l.length)))) (QP hT) Try.func77 (by kernel_rfl) (by kernel_rfl) (QIM ..) (fun G h1 _=>zh _ hT G h1) ⟨hd⟩
 have he:=QBH (x:=x) (l:=l) (by omega) (by omega)
 cases hb:YF x l with
 | true=>
  rw[hb]at he;simp only[Ja,hb,ZG];refine fin (many,f) (Qt (QGt QY x C l h many f (plL l f l.length)) ?_);refine QI (fun _=>QF rfl (QI (fun _ => ?_) (fun q=>Bool.noConfusion (show true=false from he.symm.trans q)))) (fun q=>by rw[hn]at q;simp at q)
  refine⟨rfl,rfl,_,QRe x C l h many f,?_⟩
  repeat' first|with_reducible refine QN ?_ ?_|exact trivial|with_reducible rfl|exact qlr _|exact qRr|exact QU _ _ _ _|exact Ki _ _ _|refine And.intro ?_ ?_
 | false=>
  rw[hb]at he;simp only[Ja,hb,plY,ZG];refine fin (plY (many,f) l).1 (Qt (QGt QY x C l h many f (plL l f l.length)) ?_);refine QI (fun _=>QF rfl (QI (fun q=>Bool.noConfusion (show true=false from q.symm.trans he)) (fun _=>QF (KL.2 ?_) ?_))) (fun q=>by rw[hn]at q;simp at q)
  ·repeat' first|with_reducible refine QN ?_ ?_|exact trivial|with_reducible rfl|exact qlr _|exact qRr|exact QU _ _ _ _|refine And.intro ?_ ?_
  refine⟨rfl,rfl,_,QWC x C l h many f (plL l f l.length) _ _,?_⟩
  repeat' first|with_reducible refine QN ?_ ?_|exact trivial|with_reducible rfl|exact qlr _|exact qRr|exact QU _ _ _ _|exact Ki _ _ _|exact rfl|refine And.intro ?_ ?_
theorem QPi{x:QE}(hx:Ko x){C:List (List QB)}{ac body:Code}{cs l:List QB}(hl:l.length<1000)(hls:∀ c∈l,Km c)(hcs:∀ c∈cs,Km c)(IH:∀ c∈cs,∀ s h,Vf x s→QO Try.prog 77 (uFC (ZG x C ac body (l++[c]) h s (YO x C d l s h c))))(t:PlK):(qH Try.prog x C ac body d cs l t).Sound:=by
 unfold qH qY;split
 ·rename_i hk;have hm:=vN (z:=(⟨0,0⟩:QB)) hk.1;refine Zs ((Qv.add (Hc x C _ hx (HI (by simp) (by simp;omega) ?_))).add (IH _ hm _ _ hk.2))
  intro c hc;rcases List.mem_append.1 hc with h|h
  ·exact hls c h
  ·rw[List.mem_singleton.1 h];exact hcs _ hm
 ·exact Zs ((Qv.add (ZA (by kernel_rfl) _)).add (ZA (by kernel_rfl) _))
theorem QSp{x:QE}(hx:Ko x){C:List (List QB)}(hC:Xe x C){ac body:Code}{l:List QB}(hl:l.length+(d+1)=x.scans.n)(hls:∀ c∈l,Km c)(IH:∀ c∈QH C l.length,∀ s h,Vf x s→QO Try.prog 77 (uFC (ZG x C ac body (l++[c]) h s (YO x C d l s h c))))(s:PlS)(h:Int→Bool)(hgd:Vf x s){X:List (Prop×Ex×JSt)}(hX:∀ e J,WG x C ac body d (QH C l.length) l (0,s,h) e J→∃ y∈X,y.1∧y.2.1=e∧y.2.2=J)(G:Ctx)(hrd:G.rd=none)(hG:G.n=312):
  Q1 (mkE Try.prog Qj) G (plX Try.prog (plJ x C ac body (QH C l.length) l h s.1 s.2 0) X) (Qo Try.f77):=by
 have hs:=hx.s;refine JF (body:=QW Try.f77 0) (QP Qv) hrd (by kernel_rfl) ?_
 have hE:=fun t=>QPi hx (C:=C) (ac:=ac) (body:=body) (d:=d) (cs:=QH C l.length) (l:=l) (by omega) hls (hC.s _) IH t
 refine vz (E0:=mkE Try.prog Qj) (E:=qH Try.prog x C ac body d (QH C l.length) l) (H:=fun t=>hnd (qH Try.prog x C ac body d (QH C l.length) l t) 0) (n0:=312) (s0:=(0,s,h)) (fun _=>rfl) hE (by omega) (fun t _=>Qq (hE t) 0 G _ hrd) (fun t _=>(by decide:312≤344)) ?_ (QZS x C ac body d (QH C l.length) l (hC.le _) (by omega) (by omega)) ⟨Nat.zero_le _,hgd⟩ hX
 intro t e J hr;unfold WG at hr;split at hr
 ·rw[hr.2];exact(by decide:312≤344)
 ·exact hr.elim
theorem QSC{x:QE}(hx:Ko x){C:List (List QB)}(hC:Xe x C){l:List QB}(hl:l.length+(d+1)=x.scans.n)(hls:∀ c∈l,Km c)(IH:∀ c∈QH C l.length,∀ s h,Vf x s→QO Try.prog 77 (uFC (ZG x C YS YP (l++[c]) h s (YO x C d l s h c))))(s:PlS)(h:Int→Bool)(hgd:Vf x s):QO Try.prog 77 (uFC (ZG x C YS YP l h s (onT x C plY (d+1) l s h))):=by
 obtain⟨s',h',he⟩:=Yv (C:=C) (x:=x) (Y:=plY) (fun _ _=>rfl) (d+1) l s h;rw[he];have hc:JV (KQ x l (YO x C d l)) (QH C l.length) s h = .go s' h':=he;have hCn:=hC.n;refine JW (E:=mkE Try.prog Qj) (QP Qv) Try.func77 (by kernel_rfl) (by kernel_rfl) (QIM ..) (QSp hx hC hl hls IH s h hgd (X:=[(True,.exit 0,plE YS YP l h' s'.1 s'.2)]) ?_) ⟨?_⟩
 ·intro e J hr;unfold WG at hr;simp only[List.drop_zero,hc]at hr;exact⟨_,List.mem_cons_self,trivial,hr.1.symm,hr.2.symm⟩
 ·refine Qt (QUO x C (QH C l.length) l h s.1 s.2 h' s'.1 s'.2) ?_;refine QI (fun q=>by simp at q;omega) (fun _=>QF (by simp;omega) (QF (by simp;omega) ?_))
  repeat' first|refine QR (p:=_=_) rfl ?_|refine QR (p:=_≤_) (qlr _) ?_|refine QR (p:=QC _ _ _ _) (qRr) ?_|refine QR (p:=KM _ _ _ _ _ _) (QU _ _ _ _) ?_|refine QR (p:=KE _ _ _ _ _ _) (Ki _ _ _) ?_
  refine KA fun _=>Q6 fun g=>⟨rfl,rfl,_,QSl x C l h s.1 s.2 h' s'.1 s'.2,?_⟩
  repeat' first|with_reducible refine QN ?_ ?_|exact trivial|with_reducible rfl|exact qlr _|exact qRr|exact QU _ _ _ _|exact Ki _ _ _|refine And.intro ?_ ?_
theorem QL1{x:QE}(hx:Ko x){C:List (List QB)}(hC:Xe x C):∀(d:Nat) (l:List QB) (s:PlS) (h:Int→Bool),l.length+d=x.scans.n→(∀ c∈l,Km c)→Vf x s→QO Try.prog 77 (uFC (ZG x C YS YP l h s (onT x C plY d l s h)))
 | 0,l,s,h,hn,hl,hgd=>QT2 hx C (by omega) hl s h hgd
 | d+1,l,s,h,hn,hl,hgd=>QSC hx hC (by omega) hl (fun c hc s h hgd=>QL1 hx hC d (l++[c]) s h (by simp;omega) (fun y hy=>by
   rcases List.mem_append.1 hy with q|q
   ·exact hl y q
   ·rw[List.mem_singleton.1 q];exact hC.s _ c hc) hgd) s h hgd
end Go.Proofs.Ytbpffdkemeoajaa
