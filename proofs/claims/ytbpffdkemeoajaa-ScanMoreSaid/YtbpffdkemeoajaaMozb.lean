/- - -/
import Derived.Test.YtbpffdkemeoajaaMoza
open Go.IntKind (i64)
set_option maxRecDepth 100000
namespace Go.Proofs.Ytbpffdkemeoajaa
open Go.SX
def plT:List AV:=[.ptr 48 0 0,.agg Gt,.fn (.func 51) [],.tup [],.ptr 128 0 0,.ptr 136 0 0,.ptr 144 0 0,.bool true false,.ptr 160 0 0,.tup [],.ptr 48 0 0,.fn (.func 76) [.ptr 184 0 0],.tup [],.tup [],.tup [],.tup [],.tup [],.tup [],.tup [],.tup [],.tup [],.tup []]
def QDa:List AV:=[.ptr 256 0 0,.ptr 184 0 0,.ptr 240 0 0,.ptr 224 0 0,.ptr 264 0 0]
variable {d:Nat}(C:List (List QC))(ac:Code)(x:QB)(body:Code)(cs l:List QC)(has:Int→Bool)(k:Nat)(f:Nat→Int)(many:Int)(has':Int→Bool)(f':Nat→Int)
def plR(C:List (List QC)):List (Nat×Blk):=
 [(264,.cellsR 0 34 [.fn (.func 77) QDa]),(240,.cellsR 0 63 [.map 232]),(224,.cellsR 0 123 [.yld 217]),(184,.cellsR 0 89 [.ptr 48 0 0]),(136,.cellsR 0 99 [.fn (.func 51) []]),(48,.cellsR 0 125 (srK 49 x C)),ZY false 49 C]++JN 0 x
def plW(a:Nat)(has:Int→Bool)(many:Int)(f:Nat→Int):List (Nat×Blk):=
 [(256,.cells 0 38 [.slz a 0 l.length (.of 0)]),rwL a l,(232,.mpf .i64 (.int true .i64 0) has fun i => .int false .i64 (QP l i)),(217,.lp .ready none plT #[12] ac body),(160,.cells 0 3 [.int false .i64 many]),(128,.cells 1 95 (Z8 f))]
def Hv(C:List (List QC))(ac body:Code)(l:List QC)(has:Int→Bool)(many:Int)(f:Nat→Int):JSt:=
 ⟨5,[(0,.ptr 256 0 0),(1,.ptr 184 0 0),(2,.ptr 240 0 0),(3,.ptr 224 0 0),(4,.ptr 264 0 0)],plW ac body l 304 has many f++plR x C,312⟩
def plU(C:List (List QC))(ac body:Code)(l:List QC)(has:Int→Bool)(many:Int)(f:Nat→Int)(has':Int→Bool)(many':Int)(f':Nat→Int):UC:=
 ⟨296,Hv x C ac body l has many f,fun _ => .bool false true,fun m=>plW ac body l m has' many' f'⟩
def plJ(C:List (List QC))(ac body:Code)(cs l:List QC)(has:Int→Bool)(many:Int)(f:Nat→Int)(k:Nat):JSt:=
 ⟨98,[(0,.ptr 256 0 0),(1,.ptr 184 0 0),(2,.ptr 240 0 0),(3,.ptr 224 0 0),(4,.ptr 264 0 0),(48,.slz 328 0 cs.length (.of 0)),(49,.int false .i64 cs.length),(50,.int false .i64 k)],
  (328,.frz [.int .i64,.int .i64] cs.length fun i=>QA.enc (cs.getD i ⟨0,0⟩))::plW ac body l 320 has many f++plR x C,344⟩
def plE(f:Nat→Int):JSt:=⟨98,[],plW ac body l 320 has many f,344⟩
def vN:List Nat:=[256,232,217,160,128]
noncomputable abbrev QCy:List AV:=
  [.nilp,.ptr 98 0 0,.ptr 256 0 0,.ptr 184 0 0,.ptr 240 0 0,.ptr 224 0 0,.ptr 264 0 0,.slz 328 0 cs.length cO,vi (cs.length:Int),.int false .i64
  (i64.wrap ((k:Int)+1))]
noncomputable abbrev jz:Nat×Blk:=
  (217,.lp LoopState.ready none plT (Array.mk [12]) ac body)
noncomputable abbrev QEJ:Nat×Blk:=
  (128,.cells 1 95 [vi (f 0),vi (f 1),vi (f 2),vi (f 3),vi (f 4),vi (f 5),vi (f 6),
  .int false .i64 (f 7),vi (f 8),vi (f 9),vi (f 10),vi (f 11),vi (f 12)])
noncomputable abbrev zZ:Nat×Blk:=
  (184,.cellsR 0 89 [.ptr 48 0 0])
noncomputable abbrev QEL:Nat×Blk:=
  (264,.cellsR 0 34 [.fn (Fn.func 77) [.ptr 256 0 0,.ptr 184 0 0,.ptr 240 0 0,.ptr 224 0 0,.ptr 264 0 0]])
noncomputable abbrev QDl:Nat×Blk:=
  (328,.frz [.int .i64,.int .i64] cs.length fun i=>QA.enc (cs.getD i ⟨0,0⟩))
noncomputable abbrev vZ:Nat×Blk:=
  (48,.cellsR 0 125 [vi x.d.play.length,vi x.d.play.slack,vi x.d.play.loose,vi x.d.play.damp.lo,.int false .i64
  x.d.play.damp.hi,vi x.d.wide,vi x.d.high,.bool false x.d.turn,.slz 0 0 x.d.ps.n cO,.slz 1 0 x.scans.n cO,.slz 2 0 x.hang.n (Cap.of
  0),vi x.lost,vi x.foreign,.slz 49 0 C.length cO])
noncomputable abbrev vp:Nat×Blk:=
  (136,.cellsR 0 99 [.fn (Fn.func 51) []])
abbrev YL:List CK:=
  [.int .i64,.int .i64,.int .i64,.int .i64,.int .i64,.int .i64,.int .i64,.int .i64,.int .i64,.int .i64,.int .i64,.int .i64,.int .i64,.int .i64,.int .i64,.int .i64,.int
  .i64,.int .i64,.int .i64,.int .i64,.int .i64,.int .i64,.int .i64,.int .i64,.int .i64,.int .i64,.int .i64,.int .i64]
noncomputable abbrev zD:Nat×Blk:=
  (2,.frz [.int .i64,.int .i64,.int .i64,.int .i64] x.hang.n fun i=>QA.enc (x.hang.get i))
noncomputable abbrev vE:Nat×Blk:=
  (49,.frz2 false 38 [.int .i64,.int .i64] C.length (fun i=>(QN C i).length) fun i j=>QA.enc ((QN C i).getD j ⟨0,0⟩))
noncomputable abbrev QJ6(has:Int→Bool)(l:List QC)(many:Int)(x:QB):List (Nat×Blk):=
  [(256,.cells 0 38 [.slz 320 0 l.length cO]),(232,.mpf i64 (.int true .i64 0) has fun i => .int false .i64 (QP l i)),(jz ac body),(160,.cells 0 3 [.int
  false .i64 many]),(QEJ f),zZ,(240,.cellsR 0 63 [.map 232]),(224,.cellsR 0 123 [.yld 217]),QEL,(QDl cs),(320,.rowz true 56 [.int .i64,.int .i64] l.length fun i=>
  QA.enc (l.getD i ⟨0,0⟩)),(vZ C x),vp,(0,.frz YL x.d.ps.n fun i=>QA.enc (x.d.ps.get i)),(1,.frz YL x.scans.n fun i=>QA.enc (x.scans.get i)),(zD x),
  (vE C)]
noncomputable abbrev Gq:List AV:=
  [vi (cs.getD k ⟨0,0⟩).cell,vi (cs.getD k ⟨0,0⟩).turn]
noncomputable abbrev QM1(has:Int→Bool)(k:Nat)(l:List QC)(many:Int)(x:QB):List (Nat×Blk):=
  [(256,.cells 0 38 [.slz 952 0 (i64.wrap ((↑(l.length+1):Int)-1)).toNat cO]),(232,.mpf i64 (.int true .i64 0) (Qq (cs.getD k ⟨0,0⟩).cell true
  (Qq (cs.getD k ⟨0,0⟩).cell true has)) (KP (cs.getD k ⟨0,0⟩).cell (.int false .i64 (i64.wrap (toI (Bool.rec ((fun _=>(fun i => .int false .i64 (QP l i)) ((fun i=>
  QA.enc (cs.getD i ⟨0,0⟩)) ((k:Int).toNat+0) 0)) ()) ((fun _ => .int false .i64 (i64.wrap (toI ((fun i => .int false .i64 (QP l i)) ((fun i=>QA.enc (cs.getD i
  ⟨0,0⟩)) ((k:Int).toNat+0) 0))+1))) ()) (decide ((fun i=>QA.enc (cs.getD i ⟨0,0⟩)) ((k:Int).toNat+0) 0=(fun i=>QA.enc (cs.getD i ⟨0,0⟩)) ((k:Int).toNat+0)
  0)))-1))) (KP (cs.getD k ⟨0,0⟩).cell (.int false .i64 (i64.wrap (toI (.int false .i64 (QP l (cs.getD k ⟨0,0⟩).cell))+1))) fun i => .int false .i64 (QP l i)))),
  (jz ac body),(160,.cells 0 3 [vi many]),(QEJ f),zZ,(240,.cellsR 0 63 [.map 232]),(224,.cellsR 0 123 [.yld 217]),QEL,(QDl cs),(952,.rowz true 56
  [.int .i64,.int .i64] (l.length+1) (Qd l.length (fun i=>QA.enc (l.getD i ⟨0,0⟩)) (QS [(Gq cs k)] 0))),(vZ C x),vp,(0,.frz YL x.d.ps.n fun i=>QA.enc
  (x.d.ps.get i)),(1,.frz YL x.scans.n fun i=>QA.enc (x.scans.get i)),(zD x),(vE C)]
noncomputable abbrev QH1(k:Nat)(l2:List QC):Nat×Blk:=
  (232,.mpf i64 (.int true .i64 0) (Qq (cs.getD k ⟨0,0⟩).cell true has') (KP (cs.getD k ⟨0,0⟩).cell (.int false .i64 (i64.wrap (toI (.int false .i64 (QP l2
  (cs.getD k ⟨0,0⟩).cell))-1))) fun i => .int false .i64 (QP l2 i)))
noncomputable abbrev QE4:Nat×Blk:=
  (128,.cells 1 95 [vi (f' 0),vi (f' 1),vi (f' 2),vi (f' 3),vi (f' 4),vi (f' 5),.int false .i64
  (f' 6),vi (f' 7),vi (f' 8),vi (f' 9),vi (f' 10),vi (f' 11),vi (f' 12)])
noncomputable abbrev QHB(has':Int→Bool)(k:Nat)(l2:List QC)(many':Int)(x:QB):List (Nat×Blk):=
  [(256,.cells 0 38 [.slz 1064 0 (i64.wrap ((l2.length:Int)-1)).toNat cO]),(QH1 cs has' k l2),(jz ac body),(160,.cells 0 3 [vi many']),
  (QE4 f'),zZ,(240,.cellsR 0 63 [.map 232]),(224,.cellsR 0 123 [.yld 217]),QEL,(QDl cs),(1064,.rowz true 56 [.int .i64,.int .i64] l2.length fun i=>QA.enc
  (l2.getD i ⟨0,0⟩)),(vZ C x),vp,(0,.frz YL x.d.ps.n fun i=>QA.enc (x.d.ps.get i)),(1,.frz YL x.scans.n fun i=>QA.enc (x.scans.get i)),(zD x),(vE C)]
noncomputable abbrev QGz(has:Int→Bool)(l:List QC)(many:Int)(x:QB):List (Nat×Blk):=
  [(256,.cells 0 38 [.slz 320 0 l.length cO]),(232,.mpf i64 (.int true .i64 0) has fun i => .int false .i64 (QP l i)),(jz ac body),(160,.cells 0 3 [.int
  false .i64 many]),(QEJ f),(320,.rowz true 56 [.int .i64,.int .i64] l.length fun i=>QA.enc (l.getD i ⟨0,0⟩)),(vZ C x),vp,zZ,(0,.frz YL x.d.ps.n fun i=>
  QA.enc (x.d.ps.get i)),(1,.frz YL x.scans.n fun i=>QA.enc (x.scans.get i)),(zD x),(vE C)]
theorem QU9(pb1 pb2:List Prop→Bool)(x:QB)(C:List (List QC))(ac body:Code)(cs l l2:List QC)(has has2:Int→Bool)(many:Int)(f:Nat→Int)(k:Nat)(has':Int→Bool)(many':Int)(f':Nat→Int)(g:Nat→Value):exec (mkC Try.prog (W4 pb1 pb2 x C l2 (plU x C ac body l2 has2 many f has' many' f'))) (hnd (mkC Try.prog (W4 pb1 pb2 x C l2 (plU x C ac body l2 has2 many f has' many' f')))
  0) (QV Try.f77 0) (JSt.inst (plJ x C ac body cs l has many f k) g) (KH vN zm) = .br (decide ((k:Int)<(cs.length:Int))) (.need (decide ((0:Int)≤(k:Int)∧(k :
  Int)<(cs.length:Int))&&decide (cs.length≤cs.length)) (.need (decide (k<cs.length)) (.all (fun(g0:Nat→Value) => .need (isI i64 (.int false .i64 (QP l
  (cs.getD k ⟨0,0⟩).cell))) (.br (decide (toI (.int false .i64 (QP l (cs.getD k ⟨0,0⟩).cell))≥bif (cs.getD k ⟨0,0⟩).cell == -2 then x.foreign else (1:Int))) (.leaf (.tup
  (QCy cs k)) ((QJ6 C ac body cs f has l many x))) (.need (decide (l.length≤l.length)&&(true&&decide ((l.length+1+(l.length+1) / 4+192)*16≤281474976710656 ∧
  l.length+1≤9223372036854775807))) (.need (isI i64 (.int false .i64 (QP l (cs.getD k ⟨0,0⟩).cell))) (.need (pb1 ([0=0,0=0,0=0,l.length+1=l2.length,Cap.of
  0=cO,l2.length≤l.length+1,QE 2 l2.length (Qd l.length (fun i=>QA.enc (l.getD i ⟨0,0⟩)) (QS [(Gq cs k)] 0)) fun i=>QA.enc (l2.getD i ⟨0,0⟩),
  x.d.play.length=x.d.play.length,x.d.play.slack=x.d.play.slack,x.d.play.loose=x.d.play.loose,x.d.play.damp.lo=x.d.play.damp.lo,x.d.play.damp.hi=x.d.play.damp.hi,
  x.d.wide=x.d.wide,x.d.high=x.d.high,x.d.turn=x.d.turn,0=0,x.d.ps.n=x.d.ps.n,cO=cO,0=0,x.scans.n=x.scans.n,cO=cO,0=0,x.hang.n =
  x.hang.n,cO=cO,x.lost=x.lost,x.foreign=x.foreign,0=0,C.length=C.length,cO=cO,C.length=C.length,Kv 2 C.length (fun i=>(QN C
  i).length) (fun i=>(QN C i).length) (fun i j=>QA.enc ((QN C i).getD j ⟨0,0⟩)) fun i j=>QA.enc ((QN C i).getD j ⟨0,0⟩),x.d.ps.n≤x.d.ps.n,QE 28 x.d.ps.n (fun
  i=>QA.enc (x.d.ps.get i)) fun i=>QA.enc (x.d.ps.get i),x.scans.n≤x.scans.n,QE 28 x.scans.n (fun i=>QA.enc (x.scans.get i)) fun i=>QA.enc (x.scans.get i),
  x.hang.n≤x.hang.n,QE 4 x.hang.n (fun i=>QA.enc (x.hang.get i)) fun i=>QA.enc (x.hang.get i)])) (.br (!JD x l2) (.need (isI i64 (Bool.rec ((fun _=>(fun i
  => .int false .i64 (QP l i)) ((fun i=>QA.enc (cs.getD i ⟨0,0⟩)) ((k:Int).toNat+0) 0)) ()) ((fun _ => .int false .i64 (i64.wrap (toI ((fun i => .int false .i64
  (QP l i)) ((fun i=>QA.enc (cs.getD i ⟨0,0⟩)) ((k:Int).toNat+0) 0))+1))) ()) (decide ((fun i=>QA.enc (cs.getD i ⟨0,0⟩)) ((k:Int).toNat+0) 0=(fun i=>QA.enc
  (cs.getD i ⟨0,0⟩)) ((k:Int).toNat+0) 0)))) (.need (decide ((0:Int)≤i64.wrap ((↑(l.length+1):Int)-1)∧(i64.wrap ((↑(l.length+1):Int)-1)).toNat ≤
  l.length+1-0)) (.leaf (.tup (QCy cs k)) ((QM1 C ac body cs f has k l many x))))) (.need (pb2 ([0=0,0=0,0=0,0=0,0=0,0=0,0=0,0=0,0=0,0=0,0=0,
  l.length+1=l2.length,cO=cO,l2.length≤l.length+1,QE 2 l2.length (Qd l.length (fun i=>QA.enc (l.getD i ⟨0,0⟩)) (QS [(Gq cs k)] 0)) fun i=>
  QA.enc (l2.getD i ⟨0,0⟩),K7 (.int true .i64 0) (.int true .i64 0) (Qq (cs.getD k ⟨0,0⟩).cell true has) has2 (KP (cs.getD k ⟨0,0⟩).cell (.int false .i64
  (i64.wrap (toI (.int false .i64 (QP l (cs.getD k ⟨0,0⟩).cell))+1))) fun i => .int false .i64 (QP l i)) fun i => .int false .i64 (QP l2 i),LoopState.ready =
  LoopState.ready,(none:Option Code)=none,Array.mk [12]=Array.mk [12],ac=ac,body=body,0=0,0=0,(0:Int)=0,(0:Int)=0,(0:Int)=0,(0:Int)=0,(0 :
  Int)=0,(0:Int)=0,(0:Int)=0,(0:Int)=0,(0:Int)=0,(0:Int)=0,(0:Int)=0,(0:Int)=0,(0:Int)=0,Fn.func 51=Fn.func 51,0=0,0=0,0=0,0 =
  0,0=0,0=0,false=false,0=0,0=0,0=0,0=0,Fn.func 76=Fn.func 76,0=0,0=0,many=many,f 0=f 0,f 1=f 1,f 2=f 2,f 3=f 3,f 4=f 4,f 5=f 5,f 6
  = f 6,f 7=f 7,f 8=f 8,f 9=f 9,f 10=f 10,f 11=f 11,f 12=f 12,Fn.func 77=Fn.func 77,0=0,0=0,0=0,0=0,0=0,0=0,0=0,0=0,0=0,0=0,0=0,
  0=0,Fn.func 51=Fn.func 51,x.d.play.length=x.d.play.length,x.d.play.slack=x.d.play.slack,x.d.play.loose=x.d.play.loose,x.d.play.damp.lo=x.d.play.damp.lo,
  x.d.play.damp.hi=x.d.play.damp.hi,x.d.wide=x.d.wide,x.d.high=x.d.high,x.d.turn=x.d.turn,0=0,x.d.ps.n=x.d.ps.n,cO=cO,0=0,x.scans.n=x.scans.n,
  cO=cO,0=0,x.hang.n=x.hang.n,cO=cO,x.lost=x.lost,x.foreign=x.foreign,0=0,C.length=C.length,cO=cO,C.length=C.length,
  Kv 2 C.length (fun i=>(QN C i).length) (fun i=>(QN C i).length) (fun i j=>QA.enc ((QN C i).getD j ⟨0,0⟩)) fun i j=>QA.enc ((QN C i).getD j ⟨0,0⟩),
  x.d.ps.n≤x.d.ps.n,QE 28 x.d.ps.n (fun i=>QA.enc (x.d.ps.get i)) fun i=>QA.enc (x.d.ps.get i),x.scans.n≤x.scans.n,QE 28 x.scans.n (fun i=>QA.enc
  (x.scans.get i)) fun i=>QA.enc (x.scans.get i),x.hang.n≤x.hang.n,QE 4 x.hang.n (fun i=>QA.enc (x.hang.get i)) fun i=>QA.enc (x.hang.get i)])) (.need (isI
  i64 (.int false .i64 (QP l2 (cs.getD k ⟨0,0⟩).cell))) (.need (decide ((0:Int)≤i64.wrap ((l2.length:Int)-1)∧(i64.wrap ((l2.length:Int) -
  1)).toNat≤l2.length-0)) (.br (false) (.leaf (.tup [.nili,.ptr 98 0 0,.bool true false]) ([(256,.cells 0 38 [.slz 1064 0 (i64.wrap ((l2.length:Int)-1)).toNat
  cO]),(QH1 cs has' k l2),(jz ac body),(160,.cells 0 3 [vi many']),(QE4 f'),(1064,.rowz true 56 [.int .i64,.int .i64] l2.length fun i=>QA.enc
  (l2.getD i ⟨0,0⟩)),(vZ C x),vp,zZ,(0,.frz YL x.d.ps.n fun i=>QA.enc (x.d.ps.get i)),(1,.frz YL x.scans.n fun i=>QA.enc (x.scans.get i)),(zD x),(vE
  C)])) (.leaf (.tup (QCy cs k)) ((QHB C ac body cs f' has' k l2 many' x)))))))))))))))) (.leaf (.tup [.ptr 0 0 0,.ptr 98 0 0]) ((QGz C ac body f has l many x))):=by kernel_rfl
noncomputable abbrev QDu:List AV:=
  [.ptr 256 0 0,.ptr 184 0 0,.ptr 240 0 0,.ptr 224 0 0,.ptr 264 0 0,.slz 328 0 cs.length cO,vi (cs.length:Int),vi (i64.wrap ((k :
  Int)+1))]
abbrev Vs:List Prop:=
  [0=0,0=0,0=0,0=0,0=0,0=0]
abbrev QDT(k':Nat):List Prop:=
  [0=0,0=0,0=0,0=0,0=0,cs.length=cs.length,cO=cO,(cs.length:Int)=(cs.length:Int),i64.wrap ((k:Int)+1)=(k':Int),cs.length ≤
  cs.length,QE 2 cs.length (fun i=>QA.enc (cs.getD i ⟨0,0⟩)) fun i=>QA.enc (cs.getD i ⟨0,0⟩),0=0]
abbrev QGa(l:List QC):List Prop:=
  [l.length=l.length,cO=cO,l.length≤l.length,QE 2 l.length (fun i=>QA.enc (l.getD i ⟨0,0⟩)) fun i=>QA.enc (l.getD i ⟨0,0⟩),K7 (.int true .i64 0)
  (.int true .i64 0) has has (fun i => .int false .i64 (QP l i)) fun i => .int false .i64 (QP l i),LoopState.ready=LoopState.ready,(none:Option Code)=none,Array.mk [12] =
  Array.mk [(12:Tmp)],ac=ac,body=body,0=0,0=0]
abbrev GY:List Prop:=
  [(0:Int)=0,(0:Int)=0,(0:Int)=0,(0:Int)=0,(0:Int)=0,(0:Int)=0,(0:Int)=0,(0:Int)=0]
abbrev He:List Prop:=
  [(0:Int)=0,(0:Int)=0,(0:Int)=0,(0:Int)=0]
abbrev QCM:List Prop:=
  [0=0,0=0,0=0,Fn.func (76:FuncId)=Fn.func (76:FuncId),0=0,0=0,many=many,f 0=f 0,f 1=f 1,f 2=f 2,f 3=f 3,f 4=f 4,f 5=f 5,f 6=f 6,f 7=f
  7,f 8=f 8,f 9=f 9,f 10=f 10,f 11=f 11,f 12=f 12]
abbrev QCr:List Prop:=
  [x.d.play.length=x.d.play.length,x.d.play.slack=x.d.play.slack,x.d.play.loose=x.d.play.loose,x.d.play.damp.lo=x.d.play.damp.lo,x.d.play.damp.hi=x.d.play.damp.hi,
  x.d.wide=x.d.wide,x.d.high=x.d.high,x.d.turn=x.d.turn,0=0,x.d.ps.n=x.d.ps.n,cO=cO,0=0,x.scans.n=x.scans.n,cO=cO,0=0,x.hang.n =
  x.hang.n,cO=cO,x.lost=x.lost,x.foreign=x.foreign,0=0,C.length=C.length,cO=cO,C.length=C.length,Kv 2 C.length (fun i=>(QN C
  i).length) (fun i=>(QN C i).length) (fun i j=>QA.enc ((QN C i).getD j ⟨0,0⟩)) fun i j=>QA.enc ((QN C i).getD j ⟨0,0⟩),x.d.ps.n≤x.d.ps.n,QE 28 x.d.ps.n (fun
  i=>QA.enc (x.d.ps.get i)) fun i=>QA.enc (x.d.ps.get i),x.scans.n≤x.scans.n,QE 28 x.scans.n (fun i=>QA.enc (x.scans.get i)) fun i=>QA.enc (x.scans.get i),
  x.hang.n≤x.hang.n,QE 4 x.hang.n (fun i=>QA.enc (x.hang.get i)) fun i=>QA.enc (x.hang.get i)]
theorem QWS(C:List (List QC))(ac body:Code)(cs l:List QC)(has:Int→Bool)(many:Int)(f:Nat→Int)(k k':Nat):QM 312 (QDu cs k) ((QJ6 C ac body cs f has l many x)) (plJ x C ac body cs l has many f k')=(some (Vs++(QDT cs k k')++(QGa ac body has l)++GY++He++[(0 :
  Int)=0,Fn.func (51:FuncId)=Fn.func (51:FuncId)]++Vs++[false=false,0=0]++(QCM f many)++[Fn.func 77=Fn.func (77:FuncId)]++Vs++Vs++[Fn.func
  51=Fn.func (51:FuncId)]++(QCr C x))):=by kernel_rfl
theorem QO2(x:QB)(C:List (List QC))(ac body:Code)(cs l:List QC)(has h':Int→Bool)(many:Int)(f:Nat→Int)(k k':Nat):QM 312 (QDu cs k) ((QM1 C ac body cs f has k l many x)) (plJ x C ac body cs l h' many f k')=(some (Vs++(QDT cs k k')++[(i64.wrap ((↑(l.length+1):Int) -
  1)).toNat=l.length,cO=cO,l.length≤l.length+1,QE 2 l.length (Qd l.length (fun i=>QA.enc (l.getD i ⟨0,0⟩)) (QS [(Gq cs k)] 0)) fun i=>
  QA.enc (l.getD i ⟨0,0⟩),K7 (.int true .i64 0) (.int true .i64 0) (Qq (cs.getD k ⟨0,0⟩).cell true (Qq (cs.getD k ⟨0,0⟩).cell true has)) h' (KP (cs.getD k ⟨0,0⟩).cell
  (.int false .i64 (i64.wrap (toI (Bool.rec ((fun x=>(fun i => .int false .i64 (QP l i)) ((fun i=>QA.enc (cs.getD i ⟨0,0⟩)) ((k:Int).toNat+0) 0)) ()) ((fun x=>
  .int false .i64 (i64.wrap (toI ((fun i => .int false .i64 (QP l i)) ((fun i=>QA.enc (cs.getD i ⟨0,0⟩)) ((k:Int).toNat+0) 0))+1))) ()) (decide ((fun i=>
  QA.enc (cs.getD i ⟨0,0⟩)) ((k:Int).toNat+0) 0=(fun i=>QA.enc (cs.getD i ⟨0,0⟩)) ((k:Int).toNat+0) 0)))-1))) (KP (cs.getD k ⟨0,0⟩).cell (.int false .i64
  (i64.wrap (toI (.int false .i64 (QP l (cs.getD k ⟨0,0⟩).cell))+1))) fun i => .int false .i64 (QP l i))) fun i => .int false .i64 (QP l i),LoopState.ready =
  LoopState.ready,(none:Option Code)=none,Array.mk [12]=Array.mk [(12:Tmp)],ac=ac,body=body,0=0,0=0]++GY++He++[(0:Int)=0,Fn.func (51:FuncId) =
  Fn.func (51:FuncId)]++Vs++[false=false,0=0]++(QCM f many)++[Fn.func 77=Fn.func (77:FuncId)]++Vs++Vs++[Fn.func 51=Fn.func (51:FuncId)] ++
  (QCr C x))):=by kernel_rfl
theorem QOw(C:List (List QC))(ac body:Code)(cs l l2:List QC)(k:Nat)(has' h':Int→Bool)(many':Int)(f':Nat→Int)(k':Nat):QM 312 (QDu cs k) ((QHB C ac body cs f' has' k l2 many' x)) (plJ x C ac body cs l h' many' f' k')=(some (Vs++(QDT cs k k')++[(i64.wrap ((l2.length:Int) -
  1)).toNat=l.length,cO=cO,l.length≤l2.length,QE 2 l.length (fun i=>QA.enc (l2.getD i ⟨0,0⟩)) fun i=>QA.enc (l.getD i ⟨0,0⟩),K7 (.int true .i64
  0) (.int true .i64 0) (Qq (cs.getD k ⟨0,0⟩).cell true has') h' (KP (cs.getD k ⟨0,0⟩).cell (.int false .i64 (i64.wrap (toI (.int false .i64 (QP l2 (cs.getD k ⟨0,
  0⟩).cell))-1))) fun i => .int false .i64 (QP l2 i)) fun i => .int false .i64 (QP l i),LoopState.ready=LoopState.ready,(none:Option Code)=none,Array.mk [12]=Array.mk
  [(12:Tmp)],ac=ac,body=body,0=0,0=0]++GY++He++[(0:Int)=0,Fn.func (51:FuncId)=Fn.func (51:FuncId)]++Vs++[false=false,0=0,0=0,0 =
  0,0=0,Fn.func (76:FuncId)=Fn.func (76:FuncId),0=0,0=0,many'=many',f' 0=f' 0,f' 1=f' 1,f' 2=f' 2,f' 3=f' 3,f' 4=f' 4,f' 5=f' 5,f' 6=f' 6,f' 7
  = f' 7,f' 8=f' 8,f' 9=f' 9,f' 10=f' 10,f' 11=f' 11,f' 12=f' 12,Fn.func 77=Fn.func (77:FuncId)]++Vs++Vs++[Fn.func 51=Fn.func (51:FuncId)] ++
  (QCr C x))):=by kernel_rfl
theorem QVL(C:List (List QC))(ac body:Code)(l:List QC)(has:Int→Bool)(many:Int)(f:Nat→Int):QM 312 [] ((QGz C ac body f has l many x)) (plE ac body l has many f)=(some ([0=0]++(QGa ac body has l)++GY++He++[(0:Int)=0,Fn.func (51:FuncId) =
  Fn.func (51:FuncId)]++Vs++[false=false,0=0]++(QCM f many))):=by kernel_rfl
abbrev PlS:=Int×(Nat→Int)
def plY(s:PlS)(l:List QC):PlS×Bool:=((i64.wrap (s.1+1),plL l s.2 l.length),true)
def VG(x:QB)(s:PlS):Prop:=True
theorem QP0{x:QB}{s:PlS}{l:List QC}(_:VG x s)(_:l.length=x.scans.n):VG x (plY s l).1:=trivial
def Yg(C:List (List QC))(ac body:Code)(l:List QC)(has:Int→Bool)(s:PlS):Res PlS→UC
 | .go s' h'=>plU x C ac body l has s.1 s.2 h' s'.1 s'.2
 | .stop s' h'=>plU x C ac body l has s.1 s.2 h' s'.1 s'.2
abbrev PlK:=Nat×PlS×(Int→Bool)
open Classical in
noncomputable def Zx(s:PlS):List Prop→Bool:=if k<cs.length∧VG x s then Qt else fun _=>false
def Xv(C:List (List QC))(d:Nat)(l:List QC)(s:PlS)(h:Int→Bool)(c:QC):Res PlS:=onT x C plY d (l++[c]) s h
noncomputable def Z9(P:Program)(x:QB)(C:List (List QC))(ac body:Code)(d:Nat)(cs l:List QC)(t:PlK):Env:=
 mkC P (W4 (Zx x cs t.1 t.2.1) (Zx x cs t.1 t.2.1) x C (l++[cs.getD t.1 ⟨0,0⟩]) (Yg x C ac body (l++[cs.getD t.1 ⟨0,0⟩]) (Qq (cs.getD t.1 ⟨0,0⟩).cell true t.2.2) t.2.1 (Xv x C d l t.2.1 (Qq (cs.getD t.1 ⟨0,0⟩).cell true t.2.2) (cs.getD t.1 ⟨0,0⟩))))
def ZS(C:List (List QC))(ac body:Code)(d:Nat)(cs l:List QC)(t:PlK)(e:Ex)(J:JSt):Prop:=match Ji (JZ x l (Xv x C d l)) (cs.drop t.1) t.2.1 t.2.2 with
 | .go s h=>e = .exit 0∧J=plE ac body l h s.1 s.2
 | .stop _ _=>False
set_option maxHeartbeats 1600000 in
theorem QWi(C:List (List QC))(ac body:Code)(d:Nat)(cs l:List QC)(hcs:cs.length≤1000)(hl:l.length≤1000)(hn:l.length+1+d=x.scans.n):vC (fun t:PlK=>plJ x C ac body cs l t.2.2 t.2.1.1 t.2.1.2 t.1) (fun t=>t.1≤cs.length∧VG x t.2.1) (fun t=>cs.length-t.1) (ZS x C ac body d cs l) 312 zm vN (Z9 Try.prog x C ac body d cs l) (fun t=>hnd (Z9 Try.prog x C ac body d cs l t) 0) (QV Try.f77 0):=by
 refine⟨fun t g hk => ?_⟩;obtain⟨k,⟨many,f⟩,has⟩:=t;obtain⟨hk,hgd⟩:=hk;have hk:k≤cs.length:=hk;have hgd:VG x (many,f):=hgd;obtain⟨s',h',hrec⟩:=Zm (C:=C) (x:=x) (Y:=plY) (fun _ _=>rfl) d (l++[cs.getD k ⟨0,0⟩]) (many,f) (Qq (cs.getD k ⟨0,0⟩).cell true has);have hgd':VG x s':=QAU (G:=VG x) (fun s l hs hn=>QP0 hs hn) d _ _ _ (by simp;omega) hgd hrec
 unfold Z9;simp only;have hrec:Xv x C d l (many,f) (Qq (cs.getD k ⟨0,0⟩).cell true has) (cs.getD k ⟨0,0⟩) = .go s' h':=hrec;rw[hrec];refine Q5 (QU9 (Zx x cs k (many,f)) (Zx x cs k (many,f)) x C ac body cs l (l++[cs.getD k ⟨0,0⟩]) has (Qq (cs.getD k ⟨0,0⟩).cell true has) many f k h' s'.1 s'.2 g) ?_;refine QI (fun h => ?_) (fun h => ?_)
 ·have h:k<cs.length:=by have:=qdt h;omega
  have hw:=Ks h hcs;have hpb:Zx x cs k (many,f)=Qt:=by unfold Zx;rw[if_pos ⟨h,hgd⟩]
  rw[hpb];have step:=QGl (f:=JZ x l (Xv x C d l)) h (many,f) has
  have next:∀{s2:PlS} {h2:Int→Bool},JZ x l (Xv x C d l) (many,f) has (cs.getD k ⟨0,0⟩) = .go s2 h2→∀ e J,ZS x C ac body d cs l (k+1,s2,h2) e J→ZS x C ac body d cs l (k,(many,f),has) e J:=by
   intro s2 h2 he e J hr;unfold ZS at hr ⊢;simp only at hr ⊢;rw[step,he];exact hr
  have one:∀ b,Jt x l (cs.getD k ⟨0,0⟩)=b→JZ x l (Xv x C d l) (many,f) has (cs.getD k ⟨0,0⟩)=match b with
    | true => .go (many,f) has
    | false=>match JD x (l++[cs.getD k ⟨0,0⟩])with
     | false => .go (many,f) (Qq (cs.getD k ⟨0,0⟩).cell true (Qq (cs.getD k ⟨0,0⟩).cell true has))
     | true => .go s' (Qq (cs.getD k ⟨0,0⟩).cell true h'):=by
   intro b hb;unfold JZ;rw[hb,hrec];cases b
   ·cases JD x (l++[cs.getD k ⟨0,0⟩])<;>rfl
   ·rfl
  refine QG (by simp;omega) (QG (by simp;omega) (KE fun _ => ?_))
  refine QG rfl (QI (fun hf => ?_) (fun hf=>QG (by simp;omega) (QG rfl (QG (JA.2 ?_) (QI (fun hq => ?_) (fun hq => ?_))))))
  ·have hf:Jt x l (cs.getD k ⟨0,0⟩)=true:=W9.trans hf;refine⟨(k+1,(many,f),has),⟨h,hgd⟩,by show cs.length-(k+1)<cs.length-k;omega,next (one _ hf),rfl,rfl,_,QWS x C ac body cs l has many f k (k+1),?_⟩
   repeat' first|with_reducible refine QR ?_ ?_|exact trivial|with_reducible rfl|exact qlr _|exact qRr|exact Qo _ _ _ _|exact XK _ _ _|exact hw|refine And.intro ?_ ?_
  ·repeat' first|with_reducible refine QR ?_ ?_|exact trivial|with_reducible rfl|exact qlr _|exact qRr|exact Qo _ _ _ _|exact G9 _ _|exact GG _ _|exact Hx _ _ _ rfl|refine And.intro ?_ ?_
  ·have hf:Jt x l (cs.getD k ⟨0,0⟩)=false:=W9.trans hf;have hq:JD x (l++[cs.getD k ⟨0,0⟩])=false:=by simpa using hq
   have hp:=QGf l hl;have hp1:i64.wrap (((l.length+1:Nat):Int)-1)=l.length:=(w64 (by omega) (by omega)).trans (by omega)
   have ho:=one _ hf;rw[hq]at ho;refine QG (by simp[isI]) (QG (by rw[hp1];simp) ?_)
   refine⟨(k+1,(many,f),Qq (cs.getD k ⟨0,0⟩).cell true (Qq (cs.getD k ⟨0,0⟩).cell true has)),⟨h,hgd⟩,by show cs.length-(k+1)<cs.length-k;omega,next ho,rfl,rfl,_,QO2 x C ac body cs l has (Qq (cs.getD k ⟨0,0⟩).cell true (Qq (cs.getD k ⟨0,0⟩).cell true has)) many f k (k+1),?_⟩
   repeat' first|with_reducible refine QR ?_ ?_|exact trivial|with_reducible rfl|exact qlr _|exact qRr|exact Qo _ _ _ _|exact hw|exact hp|exact Nat.le_succ _|exact QIu _ _|exact QFR _ _ _ hl (by simp[toI];rfl) _|refine And.intro ?_ ?_
  ·have hf:Jt x l (cs.getD k ⟨0,0⟩)=false:=W9.trans hf;have hq:JD x (l++[cs.getD k ⟨0,0⟩])=true:=by simpa using hq
   have hp:=QHT l (cs.getD k ⟨0,0⟩) hl
   have hp1:i64.wrap (((l++[cs.getD k ⟨0,0⟩]).length:Int)-1)=l.length:=by
    rw[List.length_append,List.length_singleton];exact(w64 (by omega) (by omega)).trans (by omega)
   have ho:=one _ hf;rw[hq]at ho;refine QG (JA.2 ?_) (QG rfl (QG (by rw[hp1];simp) (QI (fun q=>by cases q) (fun _ => ?_))))
   ·repeat' first|with_reducible refine QR ?_ ?_|exact trivial|with_reducible rfl|exact qlr _|exact qRr|exact Qo _ _ _ _|exact G9 _ _|exact GG _ _|exact Hx _ _ _ rfl|exact QL5 _ _ hl rfl _|refine And.intro ?_ ?_
   refine⟨(k+1,s',Qq (cs.getD k ⟨0,0⟩).cell true h'),⟨h,hgd'⟩,by show cs.length-(k+1)<cs.length-k;omega,next ho,rfl,rfl,_,QOw x C ac body cs l (l++[cs.getD k ⟨0,0⟩]) k h' (Qq (cs.getD k ⟨0,0⟩).cell true h') s'.1 s'.2 (k+1),?_⟩
   repeat' first|with_reducible refine QR ?_ ?_|exact trivial|with_reducible rfl|exact qlr _|exact qRr|exact Qo _ _ _ _|exact hw|exact hp|exact(by simp:l.length≤(l++[cs.getD k ⟨0,0⟩]).length)|exact QLt _ _|exact QMj _ _ hl rfl _|refine And.intro ?_ ?_
 ·have h:cs.length≤k:=by have:=of_decide_eq_false h;omega
  have he:=QFN (f:=JZ x l (Xv x C d l)) h (many,f) has;refine⟨plE ac body l has many f,by unfold ZS;simp only[he,and_self],rfl,rfl,_,QVL x C ac body l has many f,?_⟩
  repeat' first|with_reducible refine QR ?_ ?_|exact trivial|with_reducible rfl|exact qlr _|exact qRr|exact Qo _ _ _ _|exact XK _ _ _|refine And.intro ?_ ?_
def jE(pb:List Prop→Bool)(U:UC):Tab:=Qh Qu 51 (J1 pb U)
abbrev plX(P:Program)(J:JSt)(X:List (Prop×Ex×JSt)):Hnd:={ hnd (mkE P Qu) 2 with loop:=fun _=>KD 312 vN J X }
noncomputable abbrev QEA:Nat×Blk:=
  (217,.lp LoopState.ready none plT (Array.mk [12]) (Qj Try.f50 0).1 (Qj Try.f50 0).2)
noncomputable abbrev QHx:Nat×Blk:=
  (48,.cellsR 0 125 [vi x.d.play.length,vi x.d.play.slack,vi x.d.play.loose,vi x.d.play.damp.lo,.int false .i64
  x.d.play.damp.hi,vi x.d.wide,vi x.d.high,.bool false x.d.turn,.slz 0 0 x.d.ps.n cO,.slz 1 0 x.scans.n cO,.slz 2 0 x.hang.n (Cap.of
  0),vi x.lost,vi x.foreign,.slz 49 0 C.length cO])
abbrev QAe:List CK:=
  [.int .i64,.int .i64,.int .i64,.int .i64,.int .i64,.int .i64,.int .i64,.int .i64,.int .i64,.int .i64,.int .i64,.int .i64,.int .i64,.int .i64,.int .i64,.int .i64,.int
  .i64,.int .i64,.int .i64,.int .i64,.int .i64,.int .i64,.int .i64,.int .i64,.int .i64,.int .i64,.int .i64,.int .i64]
noncomputable abbrev QMN:Nat×Blk:=
  (49,.frz2 false 38 [.int .i64,.int .i64] C.length (fun i=>(QN C i).length) fun i j=>QA.enc ((QN C i).getD j ⟨0,0⟩))
noncomputable abbrev QDt(has:Int→Bool)(l:List QC)(many:Int)(x:QB):List (Nat×Blk):=
  [(256,.cells 0 38 [.slz 304 0 l.length cO]),(232,.mpf i64 (.int true .i64 0) has fun i => .int false .i64 (QP l i)),QEA,(160,.cells 0 3 [.int false .i64
  many]),(128,.cells 1 95 [vi (f 0),vi (f 1),vi (f 2),vi (f 3),vi (f 4),vi (f 5),.int false .i64
  (f 6),vi (f 7),vi (f 8),vi (f 9),vi (f 10),vi (f 11),vi (f 12)]),(304,.rowz true 56 [.int .i64,
  .int .i64] l.length fun i=>QA.enc (l.getD i ⟨0,0⟩)),(QHx C x),(136,.cellsR 0 99 [.fn (Fn.func 51) []]),(184,.cellsR 0 89 [.ptr 48 0 0]),(0,.frz QAe x.d.ps.n fun i=>
  QA.enc (x.d.ps.get i)),(1,.frz QAe x.scans.n fun i=>QA.enc (x.scans.get i)),(2,.frz [.int .i64,.int .i64,.int .i64,.int .i64] x.hang.n fun i=>QA.enc (x.hang.get
  i)),(QMN C)]
noncomputable abbrev QJv(f2:Nat→Int)(has:Int→Bool)(l:List QC)(many:Int)(x:QB):List (Nat×Blk):=
  [(256,.cells 0 38 [.slz 304 0 l.length cO]),(232,.mpf i64 (.int true .i64 0) has fun i => .int false .i64 (QP l i)),QEA,(160,.cells 0 3 [.int false .i64
  (i64.wrap (many+1))]),(128,.cells 1 95 [vi (f2 0),vi (f2 1),vi (f2 2),vi (f2 3),vi (f2 4),.int
  false .i64 (f2 5),vi (f2 6),vi (f2 7),vi (f2 8),vi (f2 9),vi (f2 10),vi (f2 11),.int false .i64
  (f2 12)]),(304,.rowz true 56 [.int .i64,.int .i64] l.length fun i=>QA.enc (l.getD i ⟨0,0⟩)),(QHx C x),(136,.cellsR 0 99 [.fn (Fn.func 51) []]),(184,.cellsR 0 89 [.ptr
  48 0 0]),(0,.frz QAe x.d.ps.n fun i=>QA.enc (x.d.ps.get i)),(1,.frz QAe x.scans.n fun i=>QA.enc (x.scans.get i)),(2,.frz [.int .i64,.int .i64,.int .i64,.int .i64]
  x.hang.n fun i=>QA.enc (x.hang.get i)),(QMN C)]
theorem QJt(pb:List Prop→Bool)(x:QB)(C:List (List QC))(l:List QC)(has:Int→Bool)(many:Int)(f:Nat→Int)(f2:Nat→Int):(V9 (mkE Try.prog (jE pb (pmU l f f2))) (msN Try.prog (jE pb (pmU l f f2))) Try.f77 QDa (Hv x C (Qj Try.f50 0).1 (Qj Try.f50 0).2 l has many f).hp 312 fun v
  h _=>qJ vN v h) = .br ((l.length:Int)==(x.scans.n:Int)) (.need (isI i64 (.int false .i64 (QP l (-2:Int)))) (.br (decide (i64.wrap ((x.d.ps.n:Int)
  - i64.wrap ((l.length:Int)-toI (.int false .i64 (QP l (-2:Int)))))>x.lost)) (.leaf (.bool true true) ((QDt C f has l many x))) (.need (pb ([f 0=f 0,f 1=f 1,
  f 2=f 2,f 3=f 3,f 4=f 4,f 5=f 5,f 6=f 6,f 7=f 7,f 8=f 8,f 9=f 9,f 10=f 10,f 11=f 11,f 12=f 12,0=0,l.length=l.length,Cap.of 0=Cap.of 0,
  l.length≤l.length,QE 2 l.length (fun i=>QA.enc (l.getD i ⟨0,0⟩)) fun i=>QA.enc (l.getD i ⟨0,0⟩)])) (.leaf (.bool true true) ((QJv C f2 has l many x)))))) (.need
  (decide ((0 : Int) ≤ (l.length : Int) ∧ (l.length : Int) < (C.length : Int)) && decide (C.length ≤ C.length)) (.need (decide (l.length < C.length)) (.fail ("a loop")))) := by kernel_rfl
abbrev QF4(l:List QC):List Prop:=
  [0=0,l.length=l.length,cO=cO,l.length≤l.length,QE 2 l.length (fun i=>QA.enc (l.getD i ⟨0,0⟩)) fun i=>QA.enc (l.getD i ⟨0,0⟩),K7 (.int true
  .i64 0) (.int true .i64 0) has has (fun i => .int false .i64 (QP l i)) fun i => .int false .i64 (QP l i),LoopState.ready=LoopState.ready,(none:Option Code)=none,
  Array.mk [12]=Array.mk [(12:Tmp)],(Qj Try.f50 0).1=(Qj Try.f50 0).1,(Qj Try.f50 0).2=(Qj Try.f50 0).2,0=0,0=0]
abbrev QBv:List Prop:=
  [(0:Int)=0,(0:Int)=0,(0:Int)=0,(0:Int)=0,(0:Int)=0,(0:Int)=0,(0:Int)=0,(0:Int)=0]
abbrev QAx:List Prop:=
  [(0:Int)=0,(0:Int)=0,(0:Int)=0,(0:Int)=0,(0:Int)=0,Fn.func (51:FuncId)=Fn.func (51:FuncId),0=0,0=0,0=0,0=0,0=0,0=0,false=false,0
  = 0,0=0,0=0,0=0,Fn.func (76:FuncId)=Fn.func (76:FuncId),0=0,0=0]
theorem QR6(C:List (List QC))(l:List QC)(has:Int→Bool)(many:Int)(f:Nat→Int):QM 312 [(.bool true true)] ((QDt C f has l many x)) (K8 (plU x C (Qj Try.f50 0).1 (Qj Try.f50 0).2 l has many f has many f))=(some ([true=true]++(QF4 has l) ++
  QBv++QAx++[many=many,f 0=f 0,f 1=f 1,f 2=f 2,f 3=f 3,f 4=f 4,f 5=f 5,f 6=f 6,f 7=f 7,f 8=f 8,f 9=f 9,f 10=f 10,f 11=f 11,f 12=f 12])):=by kernel_rfl
theorem QNQ(C:List (List QC))(l:List QC)(has:Int→Bool)(many:Int)(f:Nat→Int)(f2:Nat→Int)(many':Int)(f':Nat→Int):QM 312 [(.bool true true)] ((QJv C f2 has l many x)) (K8 (plU x C (Qj Try.f50 0).1 (Qj Try.f50 0).2 l has many f has many' f'))=(some ([true=true]++(QF4 has l)
  ++ QBv++QAx++[i64.wrap (many+1)=many',f2 0=f' 0,f2 1=f' 1,f2 2=f' 2,f2 3=f' 3,f2 4=f' 4,f2 5=f' 5,f2 6=f' 6,f2 7=f' 7,f2 8=f' 8,f2 9 =
  f' 9,f2 10=f' 10,f2 11=f' 11,f2 12=f' 12])):=by kernel_rfl
noncomputable abbrev QI0(has':Int→Bool)(l:List QC)(many':Int):List (Nat×Blk):=
  [(256,.cells 0 38 [.slz 320 0 l.length cO]),(232,.mpf i64 (.int true .i64 0) has' fun i => .int false .i64 (QP l i)),QEA,(160,.cells 0 3 [.int false .i64
  many']),(128,.cells 1 95 [vi (f' 0),vi (f' 1),vi (f' 2),vi (f' 3),vi (f' 4),vi (f' 5),.int
  false .i64 (f' 6),vi (f' 7),vi (f' 8),vi (f' 9),vi (f' 10),vi (f' 11),vi (f' 12)]),(320,.rowz
  true 56 [.int .i64,.int .i64] l.length fun i=>QA.enc (l.getD i ⟨0,0⟩))]
theorem QPc(C:List (List QC))(cs l:List QC)(has:Int→Bool)(many:Int)(f:Nat→Int)(has':Int→Bool)(many':Int)(f':Nat→Int):(V9 (mkE Try.prog Qu) (plX Try.prog (plJ x C (Qj Try.f50 0).1 (Qj Try.f50 0).2 cs l has many f 0) [(True,.exit 0,plE (Qj Try.f50 0).1 (Qj Try.f50 0).2 l
  has' many' f')]) Try.f77 QDa (Hv x C (Qj Try.f50 0).1 (Qj Try.f50 0).2 l has many f).hp 312 fun v h _=>qJ vN v h) = .br ((l.length:Int)==(x.scans.n:Int))
  (.need (isI i64 (.int false .i64 (QP l (-2:Int)))) (.br (decide (i64.wrap ((x.d.ps.n:Int)-i64.wrap ((l.length:Int)-toI (.int false .i64 (QP l
  (-2 : Int))))) > x.lost)) (.leaf (.bool true true) ((QDt C f has l many x))) (.fail ("a loop")))) (.need (decide ((0 : Int) ≤ (l.length : Int) ∧ (l.length : Int) < (C.length :
  Int))&&decide (C.length≤C.length)) (.need (decide (l.length<C.length)) (.ask (0=0) (.ask (0=0) (.ask (0=0) (.ask (0=0) (.ask (0=0) (.ask (0=0) (.ask (0=0) (.ask
  (0=0) (.ask (0=0) (.ask (0=0) (.ask (0=0) (.ask ((QN C l.length).length=cs.length) (.ask (Cap.of 0=Cap.of 0) (.ask ((↑(QN C l.length).length:Int)=(cs.length :
  Int)) (.ask ((0:Int)=0) (.ask (cs.length≤(QN C l.length).length) (.ask (QE 2 cs.length (fun j=>QA.enc ((QN C l.length).getD j ⟨0,0⟩)) fun i=>QA.enc (cs.getD i
  ⟨0,0⟩)) (.ask (0=0) (.ask (l.length=l.length) (.ask (Cap.of 0=Cap.of 0) (.ask (l.length≤l.length) (.ask (QE 2 l.length (fun i=>QA.enc (l.getD i ⟨0,0⟩)) fun i=>
  QA.enc (l.getD i ⟨0,0⟩)) (.ask (K7 (.int true .i64 0) (.int true .i64 0) has has (fun i => .int false .i64 (QP l i)) fun i => .int false .i64 (QP l i)) (.ask
  (LoopState.ready=LoopState.ready) (.ask ((none:Option Code)=none) (.ask (Array.mk [(12:Tmp)]=Array.mk [(12:Tmp)]) (.ask ((Qj Try.f50 0).1=(Qj Try.f50 0).1)
  (.ask ((Qj Try.f50 0).2=(Qj Try.f50 0).2) (.ask (0=0) (.ask (0=0) (.ask ((0:Int)=0) (.ask ((0:Int)=0) (.ask ((0:Int)=0) (.ask ((0:Int)=0) (.ask ((0 :
  Int)=0) (.ask ((0:Int)=0) (.ask ((0:Int)=0) (.ask ((0:Int)=0) (.ask ((0:Int)=0) (.ask ((0:Int)=0) (.ask ((0:Int)=0) (.ask ((0:Int)=0) (.ask ((0:Int)
  = 0) (.ask (Fn.func (51:FuncId)=Fn.func (51:FuncId)) (.ask (0=0) (.ask (0=0) (.ask (0=0) (.ask (0=0) (.ask (0=0) (.ask (0=0) (.ask (false=false) (.ask (0=0)
  (.ask (0=0) (.ask (0=0) (.ask (0=0) (.ask (Fn.func (76:FuncId)=Fn.func (76:FuncId)) (.ask (0=0) (.ask (0=0) (.ask (many=many) (.ask (f 0=f 0) (.ask (f 1=f 1)
  (.ask (f 2=f 2) (.ask (f 3=f 3) (.ask (f 4=f 4) (.ask (f 5=f 5) (.ask (f 6=f 6) (.ask (f 7=f 7) (.ask (f 8=f 8) (.ask (f 9=f 9) (.ask (f 10=f 10) (.ask (f 11=f
  11) (.ask (f 12=f 12) (.ask (Fn.func (77:FuncId)=Fn.func (77:FuncId)) (.ask (0=0) (.ask (0=0) (.ask (0=0) (.ask (0=0) (.ask (0=0) (.ask (0=0) (.ask (0=0) (.ask
  (0=0) (.ask (0=0) (.ask (0=0) (.ask (0=0) (.ask (0=0) (.ask (Fn.func (51:FuncId)=Fn.func (51:FuncId)) (.ask (x.d.play.length=x.d.play.length) (.ask (x.d.play.slack
  = x.d.play.slack) (.ask (x.d.play.loose=x.d.play.loose) (.ask (x.d.play.damp.lo=x.d.play.damp.lo) (.ask (x.d.play.damp.hi=x.d.play.damp.hi) (.ask (x.d.wide=x.d.wide) (.ask
  (x.d.high=x.d.high) (.ask (x.d.turn=x.d.turn) (.ask (0=0) (.ask (x.d.ps.n=x.d.ps.n) (.ask (Cap.of 0=Cap.of 0) (.ask (0=0) (.ask (x.scans.n=x.scans.n) (.ask (Cap.of 0 =
  Cap.of 0) (.ask (0=0) (.ask (x.hang.n=x.hang.n) (.ask (Cap.of 0=Cap.of 0) (.ask (x.lost=x.lost) (.ask (x.foreign=x.foreign) (.ask (0=0) (.ask (C.length=C.length) (.ask
  (Cap.of 0=Cap.of 0) (.ask (C.length=C.length) (.ask (Kv 2 C.length (fun i=>(QN C i).length) (fun i=>(QN C i).length) (fun i j=>QA.enc ((QN C i).getD j ⟨0,
  0⟩)) fun i j=>QA.enc ((QN C i).getD j ⟨0,0⟩)) (.ask (x.d.ps.n≤x.d.ps.n) (.ask (QE 28 x.d.ps.n (fun i=>QA.enc (x.d.ps.get i)) fun i=>QA.enc (x.d.ps.get i)) (.ask
  (x.scans.n≤x.scans.n) (.ask (QE 28 x.scans.n (fun i=>QA.enc (x.scans.get i)) fun i=>QA.enc (x.scans.get i)) (.ask (x.hang.n≤x.hang.n) (.ask (QE 4 x.hang.n (fun i
  => QA.enc (x.hang.get i)) fun i=>QA.enc (x.hang.get i)) (.asm (True) (.all (fun(g0:Nat→Value) => .leaf (.bool true true) ((QI0 f' has' l
  many'))))))))))))))))))))))))))))))))))))))))))))))))))))))))))))))))))))))))))))))))))))))))))))))))))))))))))))))))))))))))))):=by kernel_rfl
theorem QSh(C:List (List QC))(l:List QC)(has:Int→Bool)(many:Int)(f:Nat→Int)(has':Int→Bool)(many':Int)(f':Nat→Int):QM 312 [(.bool true true)] ((QI0 f' has' l many')) (K8 (plU x C (Qj Try.f50 0).1 (Qj Try.f50 0).2 l has many f has' many' f'))=(some ([true=true,0=0,l.length =
  l.length,cO=cO,l.length≤l.length,QE 2 l.length (fun i=>QA.enc (l.getD i ⟨0,0⟩)) fun i=>QA.enc (l.getD i ⟨0,0⟩),K7 (.int true .i64 0) (.int true
  .i64 0) has' has' (fun i => .int false .i64 (QP l i)) fun i => .int false .i64 (QP l i),LoopState.ready=LoopState.ready,(none:Option Code)=none,Array.mk [12]=Array.mk
  [(12:Tmp)],(Qj Try.f50 0).1=(Qj Try.f50 0).1,(Qj Try.f50 0).2=(Qj Try.f50 0).2,0=0,0=0]++QBv++QAx++[many'=many',f' 0=f' 0,f' 1=f' 1,f'
  2=f' 2,f' 3=f' 3,f' 4=f' 4,f' 5=f' 5,f' 6=f' 6,f' 7=f' 7,f' 8=f' 8,f' 9=f' 9,f' 10=f' 10,f' 11=f' 11,f' 12=f' 12])):=by kernel_rfl
noncomputable abbrev Xp:Code:=(Qj Try.f50 0).1
noncomputable abbrev Xd:Code:=(Qj Try.f50 0).2
theorem QLR(C:List (List QC))(ac body:Code)(l:List QC)(has:Int→Bool)(many:Int)(f:Nat→Int)(has':Int→Bool)(many':Int)(f':Nat→Int):(plU x C ac body l has many f has' many' f').Ok:=by
 refine⟨(by decide:296≤312),rfl,rfl,?_,rfl,fun _ _=>rfl,fun nid h => ?_⟩
 ·intro q hq;simp only[UC.po,plU,plW,rwL,List.mem_cons,List.not_mem_nil,or_false]at hq;rcases hq with rfl|rfl|rfl|rfl|rfl|rfl<;>refine⟨rfl,rfl,rfl,?_⟩<;>first|exact fun _=>rfl|exact fun h=>absurd (show 312<296 from h) (by decide)
 ·have e0:=qp 296 312 0 nid (by decide)
  simp only[UC.po,plU,plW,rwL,Hv,plT,Gt,List.map_cons,List.map_nil,Blk.mapId,AV.mapId,AV.mapIdL,Nat.add_zero]at e0 ⊢;rw[e0];rfl
theorem QWt{x:QB}(hx:JR x)(C:List (List QC)){l:List QC}(hn:l.length=x.scans.n)(hl:∀ c∈l,JV c)(s:PlS)(h:Int→Bool)(hgd:VG x s):QQ Try.prog 77 (uFC (Yg x C Xp Xd l h s (Xc x plY l s h))):=by
 obtain⟨many,f⟩:=s;have hs:=hx.s;have hd:=hx.d.n9;have hgd:VG x (many,f):=hgd;have hT:QW (jE Qt (pmU l f (plL l f l.length))):=KL.add (QPQ l f (by omega) (QRb (by omega) hl))
 have fin:∀(s':PlS),Yl (HX (plU x C Xp Xd l h many f h s'.1 s'.2)) (VY (mkE Try.prog (jE Qt (pmU l f (plL l f l.length)))) (msN Try.prog (jE Qt (pmU l f (plL l f l.length)))) Try.f77 (plU x C Xp Xd l h many f h s'.1 s'.2))→QQ Try.prog 77 (uFC (plU x C Xp Xd l h many f h s'.1 s'.2)):=fun s' hd=>
  VL (E:=mkE Try.prog (jE Qt (pmU l f (plL l f l.length)))) (QT hT) Try.func77 (by kernel_rfl) (by kernel_rfl) (QLR ..) (fun G h1 _=>QEj _ hT G h1) ⟨hd⟩
 have he:=QHl (x:=x) (l:=l) (by omega) (by omega)
 cases hb:YQ x l with
 | true=>
  rw[hb]at he;simp only[Xc,hb,Yg];refine fin (many,f) (Q5 (QJt Qt x C l h many f (plL l f l.length)) ?_);refine QI (fun _=>QG rfl (QI (fun _ => ?_) (fun q=>Bool.noConfusion (show true=false from he.symm.trans q)))) (fun q=>by rw[hn]at q;simp at q)
  refine⟨rfl,rfl,_,QR6 x C l h many f,?_⟩
  repeat' first|with_reducible refine QR ?_ ?_|exact trivial|with_reducible rfl|exact qlr _|exact qRr|exact Qo _ _ _ _|exact XK _ _ _|refine And.intro ?_ ?_
 | false=>
  rw[hb]at he;simp only[Xc,hb,plY,Yg];refine fin (plY (many,f) l).1 (Q5 (QJt Qt x C l h many f (plL l f l.length)) ?_);refine QI (fun _=>QG rfl (QI (fun q=>Bool.noConfusion (show true=false from q.symm.trans he)) (fun _=>QG (JA.2 ?_) ?_))) (fun q=>by rw[hn]at q;simp at q)
  ·repeat' first|with_reducible refine QR ?_ ?_|exact trivial|with_reducible rfl|exact qlr _|exact qRr|exact Qo _ _ _ _|refine And.intro ?_ ?_
  refine⟨rfl,rfl,_,QNQ x C l h many f (plL l f l.length) _ _,?_⟩
  repeat' first|with_reducible refine QR ?_ ?_|exact trivial|with_reducible rfl|exact qlr _|exact qRr|exact Qo _ _ _ _|exact XK _ _ _|exact rfl|refine And.intro ?_ ?_
theorem QQO{x:QB}(hx:JR x){C:List (List QC)}{ac body:Code}{cs l:List QC}(hl:l.length<1000)(hls:∀ c∈l,JV c)(hcs:∀ c∈cs,JV c)(IH:∀ c∈cs,∀ s h,VG x s→QQ Try.prog 77 (uFC (Yg x C ac body (l++[c]) h s (Xv x C d l s h c))))(t:PlK):(Z9 Try.prog x C ac body d cs l t).Sound:=by
 unfold Z9 Zx;split
 ·rename_i hk;have hm:=Hb (z:=(⟨0,0⟩:QC)) hk.1;refine QAX ((KL.add (QHH x C _ hx (QFI (by simp) (by simp;omega) ?_))).add (IH _ hm _ _ hk.2))
  intro c hc;rcases List.mem_append.1 hc with h|h
  ·exact hls c h
  ·rw[List.mem_singleton.1 h];exact hcs _ hm
 ·exact QAX ((KL.add (jT (by kernel_rfl) _)).add (jT (by kernel_rfl) _))
theorem QWu{x:QB}(hx:JR x){C:List (List QC)}(hC:WW x C){ac body:Code}{l:List QC}(hl:l.length+(d+1)=x.scans.n)(hls:∀ c∈l,JV c)(IH:∀ c∈QN C l.length,∀ s h,VG x s→QQ Try.prog 77 (uFC (Yg x C ac body (l++[c]) h s (Xv x C d l s h c))))(s:PlS)(h:Int→Bool)(hgd:VG x s){X:List (Prop×Ex×JSt)}(hX:∀ e J,ZS x C ac body d (QN C l.length) l (0,s,h) e J→∃ y∈X,y.1∧y.2.1=e∧y.2.2=J)(G:Ctx)(hrd:G.rd=none)(hG:G.n=312):
  Q9 (mkE Try.prog Qu) G (plX Try.prog (plJ x C ac body (QN C l.length) l h s.1 s.2 0) X) (Qr Try.f77):=by
 have hs:=hx.s;refine JM (body:=QV Try.f77 0) (QT KL) hrd (by kernel_rfl) ?_
 have hE:=fun t=>QQO hx (C:=C) (ac:=ac) (body:=body) (d:=d) (cs:=QN C l.length) (l:=l) (by omega) hls (hC.s _) IH t
 refine QBC (E0:=mkE Try.prog Qu) (E:=Z9 Try.prog x C ac body d (QN C l.length) l) (H:=fun t=>hnd (Z9 Try.prog x C ac body d (QN C l.length) l t) 0) (n0:=312) (s0:=(0,s,h)) (fun _=>rfl) hE (by omega) (fun t _=>Q0 (hE t) 0 G _ hrd) (fun t _=>(by decide:312≤344)) ?_ (QWi x C ac body d (QN C l.length) l (hC.le _) (by omega) (by omega)) ⟨Nat.zero_le _,hgd⟩ hX
 intro t e J hr;unfold ZS at hr;split at hr
 ·rw[hr.2];exact(by decide:312≤344)
 ·exact hr.elim
theorem QVE{x:QB}(hx:JR x){C:List (List QC)}(hC:WW x C){l:List QC}(hl:l.length+(d+1)=x.scans.n)(hls:∀ c∈l,JV c)(IH:∀ c∈QN C l.length,∀ s h,VG x s→QQ Try.prog 77 (uFC (Yg x C Xp Xd (l++[c]) h s (Xv x C d l s h c))))(s:PlS)(h:Int→Bool)(hgd:VG x s):QQ Try.prog 77 (uFC (Yg x C Xp Xd l h s (onT x C plY (d+1) l s h))):=by
 obtain⟨s',h',he⟩:=Zm (C:=C) (x:=x) (Y:=plY) (fun _ _=>rfl) (d+1) l s h;rw[he];have hc:Ji (JZ x l (Xv x C d l)) (QN C l.length) s h = .go s' h':=he;have hCn:=hC.n;refine VL (E:=mkE Try.prog Qu) (QT KL) Try.func77 (by kernel_rfl) (by kernel_rfl) (QLR ..) (QWu hx hC hl hls IH s h hgd (X:=[(True,.exit 0,plE Xp Xd l h' s'.1 s'.2)]) ?_) ⟨?_⟩
 ·intro e J hr;unfold ZS at hr;simp only[List.drop_zero,hc]at hr;exact⟨_,List.mem_cons_self,trivial,hr.1.symm,hr.2.symm⟩
 ·refine Q5 (QPc x C (QN C l.length) l h s.1 s.2 h' s'.1 s'.2) ?_;refine QI (fun q=>by simp at q;omega) (fun _=>QG (by simp;omega) (QG (by simp;omega) ?_))
  repeat' first|refine QU (p:=_=_) rfl ?_|refine QU (p:=_≤_) (qlr _) ?_|refine QU (p:=QE _ _ _ _) (qRr) ?_|refine QU (p:=Kv _ _ _ _ _ _) (Qo _ _ _ _) ?_|refine QU (p:=K7 _ _ _ _ _ _) (XK _ _ _) ?_
  refine KB fun _=>KE fun g=>⟨rfl,rfl,_,QSh x C l h s.1 s.2 h' s'.1 s'.2,?_⟩
  repeat' first|with_reducible refine QR ?_ ?_|exact trivial|with_reducible rfl|exact qlr _|exact qRr|exact Qo _ _ _ _|exact XK _ _ _|refine And.intro ?_ ?_
theorem QLe{x:QB}(hx:JR x){C:List (List QC)}(hC:WW x C):∀(d:Nat) (l:List QC) (s:PlS) (h:Int→Bool),l.length+d=x.scans.n→(∀ c∈l,JV c)→VG x s→QQ Try.prog 77 (uFC (Yg x C Xp Xd l h s (onT x C plY d l s h)))
 | 0,l,s,h,hn,hl,hgd=>QWt hx C (by omega) hl s h hgd
 | d+1,l,s,h,hn,hl,hgd=>QVE hx hC (by omega) hl (fun c hc s h hgd=>QLe hx hC d (l++[c]) s h (by simp;omega) (fun y hy=>by
   rcases List.mem_append.1 hy with q|q
   ·exact hl y q
   ·rw[List.mem_singleton.1 q];exact hC.s _ c hc) hgd) s h hgd
end Go.Proofs.Ytbpffdkemeoajaa
