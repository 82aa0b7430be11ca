/- - -/
import Derived.Test.YtbpffdkemeoajaaMwzb
open Go.IntKind (i64)
set_option maxRecDepth 100000
namespace Go.Proofs.Ytbpffdkemeoajaa
open Go.SX
def tdT:List AV:=[.ptr 40 0 0,.int true .i64 0,.fn (.func 62) [.ptr 120 0 0,.ptr 112 0 0,.ptr 104 0 0],.tup [],.ptr 168 0 0,.ptr 176 0 0,.int true .i64 0,.bool true false,.ptr 200 0 0,.tup [],.ptr 40 0 0,.fn (.func 76) [.ptr 224 0 0],.tup [],.tup [],.tup [],.tup [],.tup [],.tup [],.tup [],.tup [],.tup [],.tup []]
def QFH:List AV:=[.ptr 296 0 0,.ptr 224 0 0,.ptr 280 0 0,.ptr 264 0 0,.ptr 304 0 0]
variable {d:Nat}(C:List (List QB))(ac body:Code)(x:QE)(cs l:List QB)(has:Int→Bool)(k:Nat)(f:List QB)(many n:Int)(has':Int→Bool)(f':List QB)
def tdR(C:List (List QB)):List (Nat×Blk):=
 [(304,.cellsR 0 34 [.fn (.func 77) QFH]),(280,.cellsR 0 63 [.map 272]),(264,.cellsR 0 123 [.yld 257]),(224,.cellsR 0 89 [.ptr 40 0 0]),(176,.cellsR 0 101 [.fn (.func 62) [.ptr 120 0 0,.ptr 112 0 0,.ptr 104 0 0]]),(40,.cellsR 0 125 (srK 41 x C)),Ye false 41 C]++JY 0 x
def tdW(a:Nat)(b:Nat)(has:Int→Bool)(many n:Int)(f:List QB)(moved turned:Int):List (Nat×Blk):=
 [(296,.cells 0 38 [.slz a 0 l.length (.of 0)]),rwL a l,(272,.mpf .i64 (.int true .i64 0) has fun i => .int false .i64 (QG l i)),(257,.lp .ready none tdT #[12] ac body),(200,.cells 0 3 [.int false .i64 many]),(168,.cells 0 3 [.int false .i64 n]),(120,.cells 0 38 [.slz b 0 f.length (.of 0)]),rwL b f,(112,.cells 0 92 [.int false .i64 moved]),(104,.cells 0 92 [.int false .i64 turned])]
def QBu(C:List (List QB))(ac body:Code)(l:List QB)(has:Int→Bool)(many n:Int)(f:List QB)(moved turned:Int):JSt:=
 ⟨5,[(0,.ptr 296 0 0),(1,.ptr 224 0 0),(2,.ptr 280 0 0),(3,.ptr 264 0 0),(4,.ptr 304 0 0)],tdW ac body l 344 352 has many n f moved turned++tdR x C,360⟩
def tdU(C:List (List QB))(ac body:Code)(l:List QB)(has:Int→Bool)(many n:Int)(f:List QB)(moved turned:Int)(has':Int→Bool)(many' n':Int)(f':List QB)(moved' turned':Int):UC:=
 ⟨336,QBu x C ac body l has many n f moved turned,fun _ => .bool false true,fun m=>tdW ac body l m (m+1) has' many' n' f' moved' turned'⟩
def tdJ(C:List (List QB))(ac body:Code)(cs l:List QB)(has:Int→Bool)(many n:Int)(f:List QB)(moved turned:Int)(k:Nat):JSt:=
 ⟨98,[(0,.ptr 296 0 0),(1,.ptr 224 0 0),(2,.ptr 280 0 0),(3,.ptr 264 0 0),(4,.ptr 304 0 0),(48,.slz 384 0 cs.length (.of 0)),(49,.int false .i64 cs.length),(50,.int false .i64 k)],
  (384,.frz [.int .i64,.int .i64] cs.length fun i=>QA.enc (cs.getD i ⟨0,0⟩))::tdW ac body l 368 376 has many n f moved turned++tdR x C,400⟩
def tdE(f:List QB)(moved turned:Int):JSt:=⟨98,[],tdW ac body l 368 376 has many n f moved turned,400⟩
def GA:List Nat:=[296,272,257,200,168,120,112,104]
noncomputable abbrev QDa:List AV:=
  [.nilp,.ptr 98 0 0,.ptr 296 0 0,.ptr 224 0 0,.ptr 280 0 0,.ptr 264 0 0,.ptr 304 0 0,.slz 384 0 cs.length cO,vi (cs.length:Int),.int false .i64
  (i64.wrap ((k:Int)+1))]
noncomputable abbrev Gv:Nat×Blk:=
  (257,.lp LoopState.ready none tdT (Array.mk [12]) ac body)
noncomputable abbrev QC8:Nat×Blk:=
  (120,.cells 0 38 [.slz 376 0 f.length cO])
noncomputable abbrev z8:Nat×Blk:=
  (224,.cellsR 0 89 [.ptr 40 0 0])
noncomputable abbrev QFE:Nat×Blk:=
  (304,.cellsR 0 34 [.fn (Fn.func 77) [.ptr 296 0 0,.ptr 224 0 0,.ptr 280 0 0,.ptr 264 0 0,.ptr 304 0 0]])
noncomputable abbrev QEu:Nat×Blk:=
  (384,.frz [.int .i64,.int .i64] cs.length fun i=>QA.enc (cs.getD i ⟨0,0⟩))
noncomputable abbrev zg:Nat×Blk:=
  (40,.cellsR 0 125 [vi x.d.play.length,vi x.d.play.slack,vi x.d.play.loose,vi x.d.play.damp.lo,.int false .i64
  x.d.play.damp.hi,vi x.d.wide,vi x.d.high,.bool false x.d.turn,.slz 0 0 x.d.ps.n cO,.slz 1 0 x.scans.n cO,.slz 2 0 x.hang.n (Cap.of
  0),vi x.lost,vi x.foreign,.slz 41 0 C.length cO])
noncomputable abbrev vk:Nat×Blk:=
  (176,.cellsR 0 101 [.fn (Fn.func 62) [.ptr 120 0 0,.ptr 112 0 0,.ptr 104 0 0]])
noncomputable abbrev QFt:Nat×Blk:=
  (376,.rowz true 56 [.int .i64,.int .i64] f.length fun i=>QA.enc (f.getD i ⟨0,0⟩))
abbrev Yj:List CK:=
  [.int .i64,.int .i64,.int .i64,.int .i64,.int .i64,.int .i64,.int .i64,.int .i64,.int .i64,.int .i64,.int .i64,.int .i64,.int .i64,.int .i64,.int .i64,.int .i64,.int
  .i64,.int .i64,.int .i64,.int .i64,.int .i64,.int .i64,.int .i64,.int .i64,.int .i64,.int .i64,.int .i64,.int .i64]
noncomputable abbrev zO:Nat×Blk:=
  (2,.frz [.int .i64,.int .i64,.int .i64,.int .i64] x.hang.n fun i=>QA.enc (x.hang.get i))
noncomputable abbrev Gd:Nat×Blk:=
  (41,.frz2 false 38 [.int .i64,.int .i64] C.length (fun i=>(QH C i).length) fun i j=>QA.enc ((QH C i).getD j ⟨0,0⟩))
noncomputable abbrev QJU(has:Int→Bool)(l:List QB)(many:Int)(moved:Int)(n:Int)(turned:Int)(x:QE):List (Nat×Blk):=
  [(296,.cells 0 38 [.slz 368 0 l.length cO]),(272,.mpf i64 (.int true .i64 0) has fun i => .int false .i64 (QG l i)),(Gv ac body),(200,.cells 0 3 [.int
  false .i64 many]),(168,.cells 0 3 [vi n]),(QC8 f),(112,.cells 0 92 [vi moved]),(104,.cells 0 92 [vi turned]),z8,(280,.cellsR 0
  63 [.map 272]),(264,.cellsR 0 123 [.yld 257]),QFE,(QEu cs),(368,.rowz true 56 [.int .i64,.int .i64] l.length fun i=>QA.enc (l.getD i ⟨0,0⟩)),(zg C x),vk,
  (QFt f),(0,.frz Yj x.d.ps.n fun i=>QA.enc (x.d.ps.get i)),(1,.frz Yj x.scans.n fun i=>QA.enc (x.scans.get i)),(zO x),(Gd C)]
noncomputable abbrev QAo:List AV:=
  [vi (cs.getD k ⟨0,0⟩).cell,vi (cs.getD k ⟨0,0⟩).turn]
noncomputable abbrev QNu(has:Int→Bool)(k:Nat)(l:List QB)(many:Int)(moved:Int)(n:Int)(turned:Int)(x:QE):List (Nat×Blk):=
  [(296,.cells 0 38 [.slz 1064 0 (i64.wrap ((↑(l.length+1):Int)-1)).toNat cO]),(272,.mpf i64 (.int true .i64 0) (QV (cs.getD k ⟨0,0⟩).cell true
  (QV (cs.getD k ⟨0,0⟩).cell true has)) (Q5 (cs.getD k ⟨0,0⟩).cell (.int false .i64 (i64.wrap (toI (Bool.rec ((fun _=>(fun i => .int false .i64 (QG l i)) ((fun i=>
  QA.enc (cs.getD i ⟨0,0⟩)) ((k:Int).toNat+0) 0)) ()) ((fun _ => .int false .i64 (i64.wrap (toI ((fun i => .int false .i64 (QG l i)) ((fun i=>QA.enc (cs.getD i
  ⟨0,0⟩)) ((k:Int).toNat+0) 0))+1))) ()) (decide ((fun i=>QA.enc (cs.getD i ⟨0,0⟩)) ((k:Int).toNat+0) 0=(fun i=>QA.enc (cs.getD i ⟨0,0⟩)) ((k:Int).toNat+0)
  0)))-1))) (Q5 (cs.getD k ⟨0,0⟩).cell (.int false .i64 (i64.wrap (toI (.int false .i64 (QG l (cs.getD k ⟨0,0⟩).cell))+1))) fun i => .int false .i64 (QG l i)))),
  (Gv ac body),(200,.cells 0 3 [vi many]),(168,.cells 0 3 [vi n]),(QC8 f),(112,.cells 0 92 [vi moved]),(104,.cells 0 92 [.int
  false .i64 turned]),z8,(280,.cellsR 0 63 [.map 272]),(264,.cellsR 0 123 [.yld 257]),QFE,(QEu cs),(1064,.rowz true 56 [.int .i64,.int .i64] (l.length+1) (Qa
  l.length (fun i=>QA.enc (l.getD i ⟨0,0⟩)) (QS [(QAo cs k)] 0))),(zg C x),vk,(QFt f),(0,.frz Yj x.d.ps.n fun i=>QA.enc (x.d.ps.get i)),(1,.frz Yj
  x.scans.n fun i=>QA.enc (x.scans.get i)),(zO x),(Gd C)]
noncomputable abbrev QKB(k:Nat)(l2:List QB):Nat×Blk:=
  (272,.mpf i64 (.int true .i64 0) (QV (cs.getD k ⟨0,0⟩).cell true has') (Q5 (cs.getD k ⟨0,0⟩).cell (.int false .i64 (i64.wrap (toI (.int false .i64 (QG l2
  (cs.getD k ⟨0,0⟩).cell))-1))) fun i => .int false .i64 (QG l2 i)))
noncomputable abbrev QI1(has':Int→Bool)(k:Nat)(l2:List QB)(many':Int)(moved':Int)(n':Int)(turned':Int)(x:QE):List (Nat×Blk):=
  [(296,.cells 0 38 [.slz 1176 0 (i64.wrap ((l2.length:Int)-1)).toNat cO]),(QKB cs has' k l2),(Gv ac body),(200,.cells 0 3 [vi many']),
  (168,.cells 0 3 [vi n']),(120,.cells 0 38 [.slz 1177 0 f'.length cO]),(112,.cells 0 92 [vi moved']),(104,.cells 0 92 [.int false .i64
  turned']),z8,(280,.cellsR 0 63 [.map 272]),(264,.cellsR 0 123 [.yld 257]),QFE,(QEu cs),(1176,.rowz true 56 [.int .i64,.int .i64] l2.length fun i=>QA.enc
  (l2.getD i ⟨0,0⟩)),(zg C x),vk,(1177,.rowz true 56 [.int .i64,.int .i64] f'.length fun i=>QA.enc (f'.getD i ⟨0,0⟩)),(0,.frz Yj x.d.ps.n fun i=>QA.enc
  (x.d.ps.get i)),(1,.frz Yj x.scans.n fun i=>QA.enc (x.scans.get i)),(zO x),(Gd C)]
noncomputable abbrev QLL(has:Int→Bool)(l:List QB)(many:Int)(moved:Int)(n:Int)(turned:Int)(x:QE):List (Nat×Blk):=
  [(296,.cells 0 38 [.slz 368 0 l.length cO]),(272,.mpf i64 (.int true .i64 0) has fun i => .int false .i64 (QG l i)),(Gv ac body),(200,.cells 0 3 [.int
  false .i64 many]),(168,.cells 0 3 [vi n]),(QC8 f),(112,.cells 0 92 [vi moved]),(104,.cells 0 92 [vi turned]),(368,.rowz true 56
  [.int .i64,.int .i64] l.length fun i=>QA.enc (l.getD i ⟨0,0⟩)),(zg C x),vk,z8,(QFt f),(0,.frz Yj x.d.ps.n fun i=>QA.enc (x.d.ps.get i)),(1,.frz Yj
  x.scans.n fun i=>QA.enc (x.scans.get i)),(zO x),(Gd C)]
theorem QXS(pb1 pb2:List Prop→Bool)(x:QE)(C:List (List QB))(ac body:Code)(cs l l2:List QB)(has has2:Int→Bool)(many n:Int)(f:List QB)(moved turned:Int)(k:Nat)(has':Int→Bool)(many' n':Int)(f':List QB)(moved' turned':Int)(g:Nat→Value):exec (mkC Try.prog (Vv pb1 pb2 x C l2 (tdU x C ac body l2 has2 many n f moved turned has' many' n' f' moved' turned'))) (hnd (mkC Try.prog (Vv pb1 pb2 x C l2 (tdU x C ac
  body l2 has2 many n f moved turned has' many' n' f' moved' turned'))) 0) (QW Try.f77 0) (JSt.inst (tdJ x C ac body cs l has many n f moved turned k) g) (KF GA ZC) = .br
  (decide ((k:Int)<(cs.length:Int))) (.need (decide ((0:Int)≤(k:Int)∧(k:Int)<(cs.length:Int))&&decide (cs.length≤cs.length)) (.need (decide (k<cs.length))
  (.all (fun(g0:Nat→Value) => .need (isI i64 (.int false .i64 (QG l (cs.getD k ⟨0,0⟩).cell))) (.br (decide (toI (.int false .i64 (QG l (cs.getD k ⟨0,0⟩).cell)) ≥
  bif (cs.getD k ⟨0,0⟩).cell == -2 then x.foreign else (1:Int))) (.leaf (.tup (QDa cs k)) ((QJU C ac body cs f has l many moved n turned x))) (.need (decide (l.length≤l.length)
  && (true&&decide ((l.length+1+(l.length+1) / 4+192)*16≤281474976710656∧l.length+1≤9223372036854775807))) (.need (isI i64 (.int false .i64 (QG l
  (cs.getD k ⟨0,0⟩).cell))) (.need (pb1 ([0=0,0=0,0=0,l.length+1=l2.length,cO=cO,l2.length≤l.length+1,QC 2 l2.length (Qa l.length (fun i=>
  QA.enc (l.getD i ⟨0,0⟩)) (QS [(QAo cs k)] 0)) fun i=>QA.enc (l2.getD i ⟨0,0⟩),x.d.play.length=x.d.play.length,x.d.play.slack=x.d.play.slack,x.d.play.loose =
  x.d.play.loose,x.d.play.damp.lo=x.d.play.damp.lo,x.d.play.damp.hi=x.d.play.damp.hi,x.d.wide=x.d.wide,x.d.high=x.d.high,x.d.turn=x.d.turn,0=0,x.d.ps.n=x.d.ps.n,
  cO=cO,0=0,x.scans.n=x.scans.n,cO=cO,0=0,x.hang.n=x.hang.n,cO=cO,x.lost=x.lost,x.foreign=x.foreign,0=0,C.length =
  C.length,cO=cO,C.length=C.length,KM 2 C.length (fun i=>(QH C i).length) (fun i=>(QH C i).length) (fun i j=>QA.enc ((QH C i).getD j ⟨0,0⟩)) fun
  i j=>QA.enc ((QH C i).getD j ⟨0,0⟩),x.d.ps.n≤x.d.ps.n,QC 28 x.d.ps.n (fun i=>QA.enc (x.d.ps.get i)) fun i=>QA.enc (x.d.ps.get i),x.scans.n≤x.scans.n,
  QC 28 x.scans.n (fun i=>QA.enc (x.scans.get i)) fun i=>QA.enc (x.scans.get i),x.hang.n≤x.hang.n,QC 4 x.hang.n (fun i=>QA.enc (x.hang.get i)) fun i=>
  QA.enc (x.hang.get i)])) (.br (!KS x l2) (.need (isI i64 (Bool.rec ((fun _=>(fun i => .int false .i64 (QG l i)) ((fun i=>QA.enc (cs.getD i ⟨0,0⟩)) ((k :
  Int).toNat+0) 0)) ()) ((fun _ => .int false .i64 (i64.wrap (toI ((fun i => .int false .i64 (QG l i)) ((fun i=>QA.enc (cs.getD i ⟨0,0⟩)) ((k:Int).toNat+0) 0)) +
  1))) ()) (decide ((fun i=>QA.enc (cs.getD i ⟨0,0⟩)) ((k:Int).toNat+0) 0=(fun i=>QA.enc (cs.getD i ⟨0,0⟩)) ((k:Int).toNat+0) 0)))) (.need (decide ((0:Int) ≤
  i64.wrap ((↑(l.length+1):Int)-1)∧(i64.wrap ((↑(l.length+1):Int)-1)).toNat≤l.length+1-0)) (.leaf (.tup (QDa cs k)) ((QNu C ac body cs f has k l
  many moved n turned x))))) (.need (pb2 ([0=0,0=0,0=0,0=0,0=0,0=0,0=0,0=0,0=0,0=0,0=0,l.length+1=l2.length,cO=cO,l2.length ≤
  l.length+1,QC 2 l2.length (Qa l.length (fun i=>QA.enc (l.getD i ⟨0,0⟩)) (QS [(QAo cs k)] 0)) fun i=>QA.enc (l2.getD i ⟨0,0⟩),KE (.int true .i64 0) (.int
  true .i64 0) (QV (cs.getD k ⟨0,0⟩).cell true has) has2 (Q5 (cs.getD k ⟨0,0⟩).cell (.int false .i64 (i64.wrap (toI (.int false .i64 (QG l (cs.getD k ⟨0,0⟩).cell)) +
  1))) fun i => .int false .i64 (QG l i)) fun i => .int false .i64 (QG l2 i),LoopState.ready=LoopState.ready,(none:Option Code)=none,Array.mk [12]=Array.mk [12],ac =
  ac,body=body,0=0,0=0,(0:Int)=0,Fn.func 62=Fn.func 62,0=0,0=0,0=0,0=0,0=0,0=0,0=0,0=0,0=0,0=0,(0:Int)=0,false=false,0=0,0 =
  0,0=0,0=0,Fn.func 76=Fn.func 76,0=0,0=0,many=many,n=n,0=0,f.length=f.length,cO=cO,f.length≤f.length,QC 2 f.length (fun i=>
  QA.enc (f.getD i ⟨0,0⟩)) fun i=>QA.enc (f.getD i ⟨0,0⟩),moved=moved,turned=turned,Fn.func 77=Fn.func 77,0=0,0=0,0=0,0=0,0=0,0=0,0=0,0=0,0 =
  0,0=0,0=0,0=0,Fn.func 62=Fn.func 62,0=0,0=0,0=0,0=0,0=0,0=0,x.d.play.length=x.d.play.length,x.d.play.slack=x.d.play.slack,x.d.play.loose =
  x.d.play.loose,x.d.play.damp.lo=x.d.play.damp.lo,x.d.play.damp.hi=x.d.play.damp.hi,x.d.wide=x.d.wide,x.d.high=x.d.high,x.d.turn=x.d.turn,0=0,x.d.ps.n=x.d.ps.n,
  cO=cO,0=0,x.scans.n=x.scans.n,cO=cO,0=0,x.hang.n=x.hang.n,cO=cO,x.lost=x.lost,x.foreign=x.foreign,0=0,C.length =
  C.length,cO=cO,C.length=C.length,KM 2 C.length (fun i=>(QH C i).length) (fun i=>(QH C i).length) (fun i j=>QA.enc ((QH C i).getD j ⟨0,0⟩)) fun
  i j=>QA.enc ((QH C i).getD j ⟨0,0⟩),x.d.ps.n≤x.d.ps.n,QC 28 x.d.ps.n (fun i=>QA.enc (x.d.ps.get i)) fun i=>QA.enc (x.d.ps.get i),x.scans.n≤x.scans.n,
  QC 28 x.scans.n (fun i=>QA.enc (x.scans.get i)) fun i=>QA.enc (x.scans.get i),x.hang.n≤x.hang.n,QC 4 x.hang.n (fun i=>QA.enc (x.hang.get i)) fun i=>
  QA.enc (x.hang.get i)])) (.need (isI i64 (.int false .i64 (QG l2 (cs.getD k ⟨0,0⟩).cell))) (.need (decide ((0:Int)≤i64.wrap ((l2.length:Int)-1) ∧
  (i64.wrap ((l2.length:Int)-1)).toNat≤l2.length-0)) (.br (false) (.leaf (.tup [.nili,.ptr 98 0 0,.bool true false]) ([(296,.cells 0 38 [.slz 1176 0
  (i64.wrap ((l2.length:Int)-1)).toNat cO]),(QKB cs has' k l2),(Gv ac body),(200,.cells 0 3 [vi many']),(168,.cells 0 3 [.int false .i64
  n']),(120,.cells 0 38 [.slz 1177 0 f'.length cO]),(112,.cells 0 92 [vi moved']),(104,.cells 0 92 [vi turned']),(1176,.rowz true 56 [.int
  .i64,.int .i64] l2.length fun i=>QA.enc (l2.getD i ⟨0,0⟩)),(zg C x),vk,z8,(1177,.rowz true 56 [.int .i64,.int .i64] f'.length fun i=>QA.enc (f'.getD i ⟨0,
  0⟩)),(0,.frz Yj x.d.ps.n fun i=>QA.enc (x.d.ps.get i)),(1,.frz Yj x.scans.n fun i=>QA.enc (x.scans.get i)),(zO x),(Gd C)])) (.leaf (.tup (QDa cs k)) ((QI1 C
  ac body cs f' has' k l2 many' moved' n' turned' x)))))))))))))))) (.leaf (.tup [.ptr 0 0 0,.ptr 98 0 0]) ((QLL C ac body f has l many moved n turned x))):=by kernel_rfl
noncomputable abbrev QE0:List AV:=
  [.ptr 296 0 0,.ptr 224 0 0,.ptr 280 0 0,.ptr 264 0 0,.ptr 304 0 0,.slz 384 0 cs.length cO,vi (cs.length:Int),vi (i64.wrap ((k :
  Int)+1))]
abbrev VK:List Prop:=
  [0=0,0=0,0=0,0=0,0=0,0=0]
abbrev QF0(k':Nat):List Prop:=
  [0=0,0=0,0=0,0=0,0=0,cs.length=cs.length,cO=cO,(cs.length:Int)=(cs.length:Int),i64.wrap ((k:Int)+1)=(k':Int),cs.length ≤
  cs.length,QC 2 cs.length (fun i=>QA.enc (cs.getD i ⟨0,0⟩)) fun i=>QA.enc (cs.getD i ⟨0,0⟩),0=0]
abbrev QNS(l:List QB):List Prop:=
  [cO=cO,l.length≤l.length,QC 2 l.length (fun i=>QA.enc (l.getD i ⟨0,0⟩)) fun i=>QA.enc (l.getD i ⟨0,0⟩),KE (.int true .i64 0) (.int true .i64 0)
  has has (fun i => .int false .i64 (QG l i)) fun i => .int false .i64 (QG l i),LoopState.ready=LoopState.ready,(none:Option Code)=none,Array.mk [12]=Array.mk [(12 :
  Tmp)],ac=ac,body=body,0=0,0=0,(0:Int)=0,Fn.func (62:FuncId)=Fn.func (62:FuncId)]
abbrev QGO:List Prop:=
  [0=0,0=0,0=0,0=0,(0:Int)=0,false=false,0=0,0=0,0=0,0=0,Fn.func (76:FuncId)=Fn.func (76:FuncId),0=0,0=0,many=many,n=n,0=0,
  f.length=f.length,cO=cO,f.length≤f.length,QC 2 f.length (fun i=>QA.enc (f.getD i ⟨0,0⟩)) fun i=>QA.enc (f.getD i ⟨0,0⟩)]
abbrev QEm:List Prop:=
  [x.d.play.length=x.d.play.length,x.d.play.slack=x.d.play.slack,x.d.play.loose=x.d.play.loose,x.d.play.damp.lo=x.d.play.damp.lo,x.d.play.damp.hi=x.d.play.damp.hi,
  x.d.wide=x.d.wide,x.d.high=x.d.high,x.d.turn=x.d.turn,0=0,x.d.ps.n=x.d.ps.n,cO=cO,0=0,x.scans.n=x.scans.n,cO=cO,0=0,x.hang.n =
  x.hang.n,cO=cO,x.lost=x.lost,x.foreign=x.foreign,0=0,C.length=C.length,cO=cO,C.length=C.length,KM 2 C.length (fun i=>(QH C
  i).length) (fun i=>(QH C i).length) (fun i j=>QA.enc ((QH C i).getD j ⟨0,0⟩)) fun i j=>QA.enc ((QH C i).getD j ⟨0,0⟩),x.d.ps.n≤x.d.ps.n,QC 28 x.d.ps.n (fun
  i=>QA.enc (x.d.ps.get i)) fun i=>QA.enc (x.d.ps.get i),x.scans.n≤x.scans.n,QC 28 x.scans.n (fun i=>QA.enc (x.scans.get i)) fun i=>QA.enc (x.scans.get i),
  x.hang.n≤x.hang.n,QC 4 x.hang.n (fun i=>QA.enc (x.hang.get i)) fun i=>QA.enc (x.hang.get i)]
theorem QPK(C:List (List QB))(ac body:Code)(cs l:List QB)(has:Int→Bool)(many n:Int)(f:List QB)(moved turned:Int)(k k':Nat):QL 360 (QE0 cs k) ((QJU C ac body cs f has l many moved n turned x)) (tdJ x C ac body cs l has many n f moved turned k')=(some (VK++(QF0 cs k k')++[l.length =
  l.length]++(QNS ac body has l)++VK++(QGO f many n)++[moved=moved,turned=turned,Fn.func 77=Fn.func (77:FuncId)]++VK++VK++[Fn.func 62=Fn.func
  (62:FuncId)]++VK++(QEm C x))):=by kernel_rfl
abbrev QME:List Prop:=
  [(none:Option Code)=none,Array.mk [12]=Array.mk [(12:Tmp)],ac=ac,body=body,0=0,0=0,(0:Int)=0,Fn.func (62:FuncId)=Fn.func (62:FuncId)]
theorem QO3(x:QE)(C:List (List QB))(ac body:Code)(cs l:List QB)(has h':Int→Bool)(many n:Int)(f:List QB)(moved turned:Int)(k k':Nat):QL 360 (QE0 cs k) ((QNu C ac body cs f has k l many moved n turned x)) (tdJ x C ac body cs l h' many n f moved turned k')=(some (VK++(QF0 cs k k') ++
  [(i64.wrap ((↑(l.length+1):Int)-1)).toNat=l.length,cO=cO,l.length≤l.length+1,QC 2 l.length (Qa l.length (fun i=>QA.enc (l.getD i ⟨0,
  0⟩)) (QS [(QAo cs k)] 0)) fun i=>QA.enc (l.getD i ⟨0,0⟩),KE (.int true .i64 0) (.int true .i64 0) (QV (cs.getD k ⟨0,0⟩).cell true (QV (cs.getD k ⟨0,0⟩).cell true
  has)) h' (Q5 (cs.getD k ⟨0,0⟩).cell (.int false .i64 (i64.wrap (toI (Bool.rec ((fun x=>(fun i => .int false .i64 (QG l i)) ((fun i=>QA.enc (cs.getD i ⟨0,0⟩)) ((k
  : Int).toNat+0) 0)) ()) ((fun x => .int false .i64 (i64.wrap (toI ((fun i => .int false .i64 (QG l i)) ((fun i=>QA.enc (cs.getD i ⟨0,0⟩)) ((k:Int).toNat+0) 0))
  + 1))) ()) (decide ((fun i=>QA.enc (cs.getD i ⟨0,0⟩)) ((k:Int).toNat+0) 0=(fun i=>QA.enc (cs.getD i ⟨0,0⟩)) ((k:Int).toNat+0) 0)))-1))) (Q5 (cs.getD k ⟨0,
  0⟩).cell (.int false .i64 (i64.wrap (toI (.int false .i64 (QG l (cs.getD k ⟨0,0⟩).cell))+1))) fun i => .int false .i64 (QG l i))) fun i => .int false .i64 (QG l i),
  LoopState.ready=LoopState.ready]++(QME ac body)++VK++(QGO f many n)++[moved=moved,turned=turned,Fn.func 77=Fn.func (77:FuncId)]++VK++VK ++
  [Fn.func 62=Fn.func (62:FuncId)]++VK++(QEm C x))):=by kernel_rfl
theorem QZk(C:List (List QB))(ac body:Code)(cs l l2:List QB)(k:Nat)(has' h':Int→Bool)(many' n':Int)(f':List QB)(moved' turned':Int)(k':Nat):QL 360 (QE0 cs k) ((QI1 C ac body cs f' has' k l2 many' moved' n' turned' x)) (tdJ x C ac body cs l h' many' n' f' moved' turned' k')=(some (VK++(QF0 cs k k') ++
  [(i64.wrap ((l2.length:Int)-1)).toNat=l.length,cO=cO,l.length≤l2.length,QC 2 l.length (fun i=>QA.enc (l2.getD i ⟨0,0⟩)) fun i=>QA.enc
  (l.getD i ⟨0,0⟩),KE (.int true .i64 0) (.int true .i64 0) (QV (cs.getD k ⟨0,0⟩).cell true has') h' (Q5 (cs.getD k ⟨0,0⟩).cell (.int false .i64 (i64.wrap (toI
  (.int false .i64 (QG l2 (cs.getD k ⟨0,0⟩).cell))-1))) fun i => .int false .i64 (QG l2 i)) fun i => .int false .i64 (QG l i),LoopState.ready=LoopState.ready]++(QME ac
  body)++VK++[0=0,0=0,0=0,0=0,(0:Int)=0,false=false,0=0,0=0,0=0,0=0,Fn.func (76:FuncId)=Fn.func (76:FuncId),0=0,0=0,many'=many',
  n'=n',0=0,f'.length=f'.length,cO=cO,f'.length≤f'.length,QC 2 f'.length (fun i=>QA.enc (f'.getD i ⟨0,0⟩)) fun i=>QA.enc (f'.getD i ⟨0,0⟩),
  moved'=moved',turned'=turned',Fn.func 77=Fn.func (77:FuncId)]++VK++VK++[Fn.func 62=Fn.func (62:FuncId)]++VK++(QEm C x))):=by kernel_rfl
theorem QVz(C:List (List QB))(ac body:Code)(l:List QB)(has:Int→Bool)(many n:Int)(f:List QB)(moved turned:Int):QL 360 [] ((QLL C ac body f has l many moved n turned x)) (tdE ac body l has many n f moved turned)=(some ([0=0,l.length=l.length]++(QNS ac body has l)++VK ++
  (QGO f many n)++[moved=moved,turned=turned])):=by kernel_rfl
abbrev TdS:=Int×Int×List QB×Int×Int
def tdY(s:TdS)(l:List QB):TdS×Bool:=((i64.wrap (s.1+1),i64.wrap (s.2.1+1),Q9 s.2.1 l s.2.2.1,mvL l (Q9 s.2.1 l s.2.2.1) s.2.2.2.1 l.length,tuL l (Q9 s.2.1 l s.2.2.1) s.2.2.2.2 l.length),true)
def Vd(s:TdS):Prop:=((s.2.1==0)=false→s.2.2.1.length=x.scans.n)
theorem QPD{x:QE}{s:TdS}{l:List QB}(hs:Vd x s)(hn:l.length=x.scans.n):Vd x (tdY s l).1:=by
 intro _;show(Q9 s.2.1 l s.2.2.1).length=x.scans.n;unfold Q9;split
 ·exact hn
 ·rename_i q;exact hs q
def ZD(C:List (List QB))(ac body:Code)(l:List QB)(has:Int→Bool)(s:TdS):Res TdS→UC
 | .go s' h'=>tdU x C ac body l has s.1 s.2.1 s.2.2.1 s.2.2.2.1 s.2.2.2.2 h' s'.1 s'.2.1 s'.2.2.1 s'.2.2.2.1 s'.2.2.2.2
 | .stop s' h'=>tdU x C ac body l has s.1 s.2.1 s.2.2.1 s.2.2.2.1 s.2.2.2.2 h' s'.1 s'.2.1 s'.2.2.1 s'.2.2.2.1 s'.2.2.2.2
abbrev TdK:=Nat×TdS×(Int→Bool)
open Classical in
noncomputable def qS(s:TdS):List Prop→Bool:=if k<cs.length∧Vd x s then QY else fun _=>false
def YJ(C:List (List QB))(d:Nat)(l:List QB)(s:TdS)(h:Int→Bool)(c:QB):Res TdS:=onT x C tdY d (l++[c]) s h
noncomputable def Wq(P:Program)(x:QE)(C:List (List QB))(ac body:Code)(d:Nat)(cs l:List QB)(t:TdK):Env:=
 mkC P (Vv (qS x cs t.1 t.2.1) (qS x cs t.1 t.2.1) x C (l++[cs.getD t.1 ⟨0,0⟩]) (ZD x C ac body (l++[cs.getD t.1 ⟨0,0⟩]) (QV (cs.getD t.1 ⟨0,0⟩).cell true t.2.2) t.2.1 (YJ x C d l t.2.1 (QV (cs.getD t.1 ⟨0,0⟩).cell true t.2.2) (cs.getD t.1 ⟨0,0⟩))))
def Z3(C:List (List QB))(ac body:Code)(d:Nat)(cs l:List QB)(t:TdK)(e:Ex)(J:JSt):Prop:=match JV (KQ x l (YJ x C d l)) (cs.drop t.1) t.2.1 t.2.2 with
 | .go s h=>e = .exit 0∧J=tdE ac body l h s.1 s.2.1 s.2.2.1 s.2.2.2.1 s.2.2.2.2
 | .stop _ _=>False
set_option maxHeartbeats 1600000 in
theorem QVU(C:List (List QB))(ac body:Code)(d:Nat)(cs l:List QB)(hcs:cs.length≤1000)(hl:l.length≤1000)(hn:l.length+1+d=x.scans.n):qD (fun t:TdK=>tdJ x C ac body cs l t.2.2 t.2.1.1 t.2.1.2.1 t.2.1.2.2.1 t.2.1.2.2.2.1 t.2.1.2.2.2.2 t.1) (fun t=>t.1≤cs.length∧Vd x t.2.1) (fun t=>cs.length-t.1) (Z3 x C ac body d cs l) 360 ZC GA (Wq Try.prog x C ac body d cs l) (fun t=>hnd (Wq Try.prog x C ac body d cs l t) 0) (QW Try.f77 0):=by
 refine⟨fun t g hk => ?_⟩;obtain⟨k,⟨many,n,f,moved,turned⟩,has⟩:=t;obtain⟨hk,hgd⟩:=hk;have hk:k≤cs.length:=hk;have hgd:Vd x (many,n,f,moved,turned):=hgd;obtain⟨s',h',hrec⟩:=Yv (C:=C) (x:=x) (Y:=tdY) (fun _ _=>rfl) d (l++[cs.getD k ⟨0,0⟩]) (many,n,f,moved,turned) (QV (cs.getD k ⟨0,0⟩).cell true has);have hgd':Vd x s':=H7 (G:=Vd x) (fun s l hs hn=>QPD hs hn) d _ _ _ (by simp;omega) hgd hrec
 unfold Wq;simp only;have hrec:YJ x C d l (many,n,f,moved,turned) (QV (cs.getD k ⟨0,0⟩).cell true has) (cs.getD k ⟨0,0⟩) = .go s' h':=hrec;rw[hrec];refine Qt (QXS (qS x cs k (many,n,f,moved,turned)) (qS x cs k (many,n,f,moved,turned)) x C ac body cs l (l++[cs.getD k ⟨0,0⟩]) has (QV (cs.getD k ⟨0,0⟩).cell true has) many n f moved turned k h' s'.1 s'.2.1 s'.2.2.1 s'.2.2.2.1 s'.2.2.2.2 g) ?_;refine QI (fun h => ?_) (fun h => ?_)
 ·have h:k<cs.length:=by have:=qdt h;omega
  have hw:=Kj h hcs;have hpb:qS x cs k (many,n,f,moved,turned)=QY:=by unfold qS;rw[if_pos ⟨h,hgd⟩]
  rw[hpb];have step:=vq (f:=KQ x l (YJ x C d l)) h (many,n,f,moved,turned) has
  have next:∀{s2:TdS} {h2:Int→Bool},KQ x l (YJ x C d l) (many,n,f,moved,turned) has (cs.getD k ⟨0,0⟩) = .go s2 h2→∀ e J,Z3 x C ac body d cs l (k+1,s2,h2) e J→Z3 x C ac body d cs l (k,(many,n,f,moved,turned),has) e J:=by
   intro s2 h2 he e J hr;unfold Z3 at hr ⊢;simp only at hr ⊢;rw[step,he];exact hr
  have one:∀ b,Ks x l (cs.getD k ⟨0,0⟩)=b→KQ x l (YJ x C d l) (many,n,f,moved,turned) has (cs.getD k ⟨0,0⟩)=match b with
    | true => .go (many,n,f,moved,turned) has
    | false=>match KS x (l++[cs.getD k ⟨0,0⟩])with
     | false => .go (many,n,f,moved,turned) (QV (cs.getD k ⟨0,0⟩).cell true (QV (cs.getD k ⟨0,0⟩).cell true has))
     | true => .go s' (QV (cs.getD k ⟨0,0⟩).cell true h'):=by
   intro b hb;unfold KQ;rw[hb,hrec];cases b
   ·cases KS x (l++[cs.getD k ⟨0,0⟩])<;>rfl
   ·rfl
  refine QF (by simp;omega) (QF (by simp;omega) (Q6 fun _ => ?_))
  refine QF rfl (QI (fun hf => ?_) (fun hf=>QF (by simp;omega) (QF rfl (QF (KL.2 ?_) (QI (fun hq => ?_) (fun hq => ?_))))))
  ·have hf:Ks x l (cs.getD k ⟨0,0⟩)=true:=Vi.trans hf;refine⟨(k+1,(many,n,f,moved,turned),has),⟨h,hgd⟩,by show cs.length-(k+1)<cs.length-k;omega,next (one _ hf),rfl,rfl,_,QPK x C ac body cs l has many n f moved turned k (k+1),?_⟩
   repeat' first|with_reducible refine QN ?_ ?_|exact trivial|with_reducible rfl|exact qlr _|exact qRr|exact QU _ _ _ _|exact Ki _ _ _|exact hw|refine And.intro ?_ ?_
  ·repeat' first|with_reducible refine QN ?_ ?_|exact trivial|with_reducible rfl|exact qlr _|exact qRr|exact QU _ _ _ _|exact Yg _ _|exact Y7 _ _|exact Yw _ _ _ rfl|refine And.intro ?_ ?_
  ·have hf:Ks x l (cs.getD k ⟨0,0⟩)=false:=Vi.trans hf;have hq:KS x (l++[cs.getD k ⟨0,0⟩])=false:=by simpa using hq
   have hp:=vZ l hl;have hp1:i64.wrap (((l.length+1:Nat):Int)-1)=l.length:=(w64 (by omega) (by omega)).trans (by omega)
   have ho:=one _ hf;rw[hq]at ho;refine QF (by simp[isI]) (QF (by rw[hp1];simp) ?_)
   refine⟨(k+1,(many,n,f,moved,turned),QV (cs.getD k ⟨0,0⟩).cell true (QV (cs.getD k ⟨0,0⟩).cell true has)),⟨h,hgd⟩,by show cs.length-(k+1)<cs.length-k;omega,next ho,rfl,rfl,_,QO3 x C ac body cs l has (QV (cs.getD k ⟨0,0⟩).cell true (QV (cs.getD k ⟨0,0⟩).cell true has)) many n f moved turned k (k+1),?_⟩
   repeat' first|with_reducible refine QN ?_ ?_|exact trivial|with_reducible rfl|exact qlr _|exact qRr|exact QU _ _ _ _|exact hw|exact hp|exact Nat.le_succ _|exact za _ _|exact zX _ _ _ hl (by simp[toI];rfl) _|refine And.intro ?_ ?_
  ·have hf:Ks x l (cs.getD k ⟨0,0⟩)=false:=Vi.trans hf;have hq:KS x (l++[cs.getD k ⟨0,0⟩])=true:=by simpa using hq
   have hp:=Gq l (cs.getD k ⟨0,0⟩) hl
   have hp1:i64.wrap (((l++[cs.getD k ⟨0,0⟩]).length:Int)-1)=l.length:=by
    rw[List.length_append,List.length_singleton];exact(w64 (by omega) (by omega)).trans (by omega)
   have ho:=one _ hf;rw[hq]at ho;refine QF (KL.2 ?_) (QF rfl (QF (by rw[hp1];simp) (QI (fun q=>by cases q) (fun _ => ?_))))
   ·repeat' first|with_reducible refine QN ?_ ?_|exact trivial|with_reducible rfl|exact qlr _|exact qRr|exact QU _ _ _ _|exact Yg _ _|exact Y7 _ _|exact Yw _ _ _ rfl|exact GO _ _ hl rfl _|refine And.intro ?_ ?_
   refine⟨(k+1,s',QV (cs.getD k ⟨0,0⟩).cell true h'),⟨h,hgd'⟩,by show cs.length-(k+1)<cs.length-k;omega,next ho,rfl,rfl,_,QZk x C ac body cs l (l++[cs.getD k ⟨0,0⟩]) k h' (QV (cs.getD k ⟨0,0⟩).cell true h') s'.1 s'.2.1 s'.2.2.1 s'.2.2.2.1 s'.2.2.2.2 (k+1),?_⟩
   repeat' first|with_reducible refine QN ?_ ?_|exact trivial|with_reducible rfl|exact qlr _|exact qRr|exact QU _ _ _ _|exact hw|exact hp|exact(by simp:l.length≤(l++[cs.getD k ⟨0,0⟩]).length)|exact Gs _ _|exact Ge _ _ hl rfl _|refine And.intro ?_ ?_
 ·have h:cs.length≤k:=by have:=of_decide_eq_false h;omega
  have he:=vw (f:=KQ x l (YJ x C d l)) h (many,n,f,moved,turned) has;refine⟨tdE ac body l has many n f moved turned,by unfold Z3;simp only[he,and_self],rfl,rfl,_,QVz x C ac body l has many n f moved turned,?_⟩
  repeat' first|with_reducible refine QN ?_ ?_|exact trivial|with_reducible rfl|exact qlr _|exact qRr|exact QU _ _ _ _|exact Ki _ _ _|refine And.intro ?_ ?_
def jQ(pb:List Prop→Bool)(U:UC):Tab:=Qd Qj 62 (Jd pb U)
abbrev tdX(P:Program)(J:JSt)(X:List (Prop×Ex×JSt)):Hnd:={ hnd (mkE P Qj) 2 with loop:=fun _=>Q7 360 GA J X }
noncomputable abbrev QD6:Nat×Blk:=
  (257,.lp LoopState.ready none tdT (Array.mk [12]) (QK Try.f53 0).1 (QK Try.f53 0).2)
noncomputable abbrev QH4:Nat×Blk:=
  (40,.cellsR 0 125 [vi x.d.play.length,vi x.d.play.slack,vi x.d.play.loose,vi x.d.play.damp.lo,.int false .i64
  x.d.play.damp.hi,vi x.d.wide,vi x.d.high,.bool false x.d.turn,.slz 0 0 x.d.ps.n cO,.slz 1 0 x.scans.n cO,.slz 2 0 x.hang.n (Cap.of
  0),vi x.lost,vi x.foreign,.slz 41 0 C.length cO])
noncomputable abbrev QKa:Nat×Blk:=
  (176,.cellsR 0 101 [.fn (Fn.func 62) [.ptr 120 0 0,.ptr 112 0 0,.ptr 104 0 0]])
abbrev Hr:List CK:=
  [.int .i64,.int .i64,.int .i64,.int .i64,.int .i64,.int .i64,.int .i64,.int .i64,.int .i64,.int .i64,.int .i64,.int .i64,.int .i64,.int .i64,.int .i64,.int .i64,.int
  .i64,.int .i64,.int .i64,.int .i64,.int .i64,.int .i64,.int .i64,.int .i64,.int .i64,.int .i64,.int .i64,.int .i64]
noncomputable abbrev QGp:Nat×Blk:=
  (41,.frz2 false 38 [.int .i64,.int .i64] C.length (fun i=>(QH C i).length) fun i j=>QA.enc ((QH C i).getD j ⟨0,0⟩))
noncomputable abbrev QDc(has:Int→Bool)(l:List QB)(many:Int)(moved:Int)(n:Int)(turned:Int)(x:QE):List (Nat×Blk):=
  [(296,.cells 0 38 [.slz 344 0 l.length cO]),(272,.mpf i64 (.int true .i64 0) has fun i => .int false .i64 (QG l i)),QD6,(200,.cells 0 3 [.int false .i64
  many]),(168,.cells 0 3 [vi n]),(120,.cells 0 38 [.slz 352 0 f.length cO]),(112,.cells 0 92 [vi moved]),(104,.cells 0 92 [.int false .i64
  turned]),(344,.rowz true 56 [.int .i64,.int .i64] l.length fun i=>QA.enc (l.getD i ⟨0,0⟩)),(QH4 C x),QKa,(224,.cellsR 0 89 [.ptr 40 0 0]),(352,.rowz true 56 [.int
  .i64,.int .i64] f.length fun i=>QA.enc (f.getD i ⟨0,0⟩)),(0,.frz Hr x.d.ps.n fun i=>QA.enc (x.d.ps.get i)),(1,.frz Hr x.scans.n fun i=>QA.enc (x.scans.get i)),
  (2,.frz [.int .i64,.int .i64,.int .i64,.int .i64] x.hang.n fun i=>QA.enc (x.hang.get i)),(QGp C)]
noncomputable abbrev QNO(f2:List QB)(has:Int→Bool)(l:List QB)(m2:Int)(many:Int)(n:Int)(t2:Int)(x:QE):List (Nat×Blk):=
  [(296,.cells 0 38 [.slz 344 0 l.length cO]),(272,.mpf i64 (.int true .i64 0) has fun i => .int false .i64 (QG l i)),QD6,(200,.cells 0 3 [.int false .i64
  (i64.wrap (many+1))]),(168,.cells 0 3 [vi (i64.wrap (n+1))]),(120,.cells 0 38 [.slz 664 0 f2.length cO]),(112,.cells 0 92 [.int false
  .i64 m2]),(104,.cells 0 92 [vi t2]),(344,.rowz true 56 [.int .i64,.int .i64] l.length fun i=>QA.enc (l.getD i ⟨0,0⟩)),(QH4 C x),QKa,(224,.cellsR 0 89
  [.ptr 40 0 0]),(664,.rowz true 56 [.int .i64,.int .i64] f2.length fun i=>QA.enc (f2.getD i ⟨0,0⟩)),(0,.frz Hr x.d.ps.n fun i=>QA.enc (x.d.ps.get i)),(1,.frz Hr
  x.scans.n fun i=>QA.enc (x.scans.get i)),(2,.frz [.int .i64,.int .i64,.int .i64,.int .i64] x.hang.n fun i=>QA.enc (x.hang.get i)),(QGp C)]
theorem QJD(pb:List Prop→Bool)(x:QE)(C:List (List QB))(l:List QB)(has:Int→Bool)(many n:Int)(f:List QB)(moved turned:Int)(f2:List QB)(m2 t2:Int):(J5 (mkE Try.prog (jQ pb (tmU l f n moved turned f2 m2 t2))) (msN Try.prog (jQ pb (tmU l f n moved turned f2 m2 t2))) Try.f77 QFH (QBu x C (QK Try.f53 0).1
  (QK Try.f53 0).2 l has many n f moved turned).hp 360 fun v h _=>YM GA v h) = .br ((l.length:Int)==(x.scans.n:Int)) (.need (isI i64 (.int false .i64 (QG l
  (-2:Int)))) (.br (decide (i64.wrap ((x.d.ps.n:Int)-i64.wrap ((l.length:Int)-toI (.int false .i64 (QG l (-2:Int)))))>x.lost)) (.leaf (.bool true true)
  ((QDc C f has l many moved n turned x))) (.need (pb ([n=n,0=0,l.length=l.length,Cap.of 0=Cap.of 0,0=0,0=0,0=0,0=0,0=0,0=0,l.length≤l.length,QC
  2 l.length (fun i=>QA.enc (l.getD i ⟨0,0⟩)) fun i=>QA.enc (l.getD i ⟨0,0⟩),0=0,f.length=f.length,Cap.of 0=Cap.of 0,f.length≤f.length,QC 2 f.length (fun i
  => QA.enc (f.getD i ⟨0,0⟩)) fun i=>QA.enc (f.getD i ⟨0,0⟩),moved=moved,turned=turned])) (.leaf (.bool true true) ((QNO C f2 has l m2 many n t2 x)))))) (.need (decide
  ((0 : Int) ≤ (l.length : Int) ∧ (l.length : Int) < (C.length : Int)) && decide (C.length ≤ C.length)) (.need (decide (l.length < C.length)) (.fail ("a loop")))) := by kernel_rfl
abbrev QMJ(l:List QB):List Prop:=
  [true=true,0=0,l.length=l.length,cO=cO,l.length≤l.length,QC 2 l.length (fun i=>QA.enc (l.getD i ⟨0,0⟩)) fun i=>QA.enc (l.getD i ⟨0,0⟩),
  KE (.int true .i64 0) (.int true .i64 0) has has (fun i => .int false .i64 (QG l i)) fun i => .int false .i64 (QG l i),LoopState.ready=LoopState.ready,(none:Option
  Code)=none,Array.mk [12]=Array.mk [(12:Tmp)],(QK Try.f53 0).1=(QK Try.f53 0).1,(QK Try.f53 0).2=(QK Try.f53 0).2,0=0,0=0,(0:Int)=0,Fn.func
  (62:FuncId)=Fn.func (62:FuncId)]
abbrev Za:List Prop:=
  [0=0,0=0,0=0,0=0]
theorem QYs(C:List (List QB))(l:List QB)(has:Int→Bool)(many n:Int)(f:List QB)(moved turned:Int):QL 360 [(.bool true true)] ((QDc C f has l many moved n turned x)) (Kd (tdU x C (QK Try.f53 0).1 (QK Try.f53 0).2 l has many n f moved turned has many n f moved
  turned))=(some ((QMJ has l)++Za++Za++[0=0,0=0,(0:Int)=0,false=false]++Za++[Fn.func (76:FuncId)=Fn.func (76:FuncId),0=0,0=0,many=many,
  n=n,0=0,f.length=f.length,cO=cO,f.length≤f.length,QC 2 f.length (fun i=>QA.enc (f.getD i ⟨0,0⟩)) fun i=>QA.enc (f.getD i ⟨0,0⟩),moved =
  moved,turned=turned])):=by kernel_rfl
theorem QUn(C:List (List QB))(l:List QB)(has:Int→Bool)(many n:Int)(f:List QB)(moved turned:Int)(f2:List QB)(m2 t2:Int)(many' n':Int)(f':List QB)(moved' turned':Int):QL 360 [(.bool true true)] ((QNO C f2 has l m2 many n t2 x)) (Kd (tdU x C (QK Try.f53 0).1 (QK Try.f53 0).2 l has many n f moved turned has many' n' f' moved' turned'))
  = (some ((QMJ has l)++Za++Za++[0=0,0=0,(0:Int)=0,false=false]++Za++[Fn.func (76:FuncId)=Fn.func (76:FuncId),0=0,0=0,i64.wrap
  (many+1)=many',i64.wrap (n+1)=n',0=0,f2.length=f'.length,cO=cO,f'.length≤f2.length,QC 2 f'.length (fun i=>QA.enc (f2.getD i ⟨0,
  0⟩)) fun i=>QA.enc (f'.getD i ⟨0,0⟩),m2=moved',t2=turned'])):=by kernel_rfl
noncomputable abbrev QNb(has':Int→Bool)(l:List QB)(many':Int)(moved':Int)(n':Int)(turned':Int):List (Nat×Blk):=
  [(296,.cells 0 38 [.slz 368 0 l.length cO]),(272,.mpf i64 (.int true .i64 0) has' fun i => .int false .i64 (QG l i)),QD6,(200,.cells 0 3 [.int false .i64
  many']),(168,.cells 0 3 [vi n']),(120,.cells 0 38 [.slz 376 0 f'.length cO]),(112,.cells 0 92 [vi moved']),(104,.cells 0 92 [.int false
  .i64 turned']),(368,.rowz true 56 [.int .i64,.int .i64] l.length fun i=>QA.enc (l.getD i ⟨0,0⟩)),(376,.rowz true 56 [.int .i64,.int .i64] f'.length fun i=>QA.enc
  (f'.getD i ⟨0,0⟩))]
theorem QPB(C:List (List QB))(cs l:List QB)(has:Int→Bool)(many n:Int)(f:List QB)(moved turned:Int)(has':Int→Bool)(many' n':Int)(f':List QB)(moved' turned':Int):(J5 (mkE Try.prog Qj) (tdX Try.prog (tdJ x C (QK Try.f53 0).1 (QK Try.f53 0).2 cs l has many n f moved turned 0) [(True,.exit 0,tdE (QK Try.f53 0).1 (QK
  Try.f53 0).2 l has' many' n' f' moved' turned')]) Try.f77 QFH (QBu x C (QK Try.f53 0).1 (QK Try.f53 0).2 l has many n f moved turned).hp 360 fun v h _=>YM GA v h)
  = .br ((l.length:Int)==(x.scans.n:Int)) (.need (isI i64 (.int false .i64 (QG l (-2:Int)))) (.br (decide (i64.wrap ((x.d.ps.n:Int)-i64.wrap
  ((l.length:Int)-toI (.int false .i64 (QG l (-2:Int)))))>x.lost)) (.leaf (.bool true true) ((QDc C f has l many moved n turned x))) (.br (n==0) (.fail
  ("a call without a contract")) (.fail ("a loop"))))) (.need (decide ((0 : Int) ≤ (l.length : Int) ∧ (l.length : Int) < (C.length : Int)) && decide (C.length ≤ C.length)) (.need
  (decide (l.length<C.length)) (.ask (0=0) (.ask (0=0) (.ask (0=0) (.ask (0=0) (.ask (0=0) (.ask (0=0) (.ask (0=0) (.ask (0=0) (.ask (0=0) (.ask (0=0) (.ask (0 =
  0) (.ask ((QH C l.length).length=cs.length) (.ask (Cap.of 0=Cap.of 0) (.ask ((↑(QH C l.length).length:Int)=(cs.length:Int)) (.ask ((0:Int)=0) (.ask (cs.length ≤
  (QH C l.length).length) (.ask (QC 2 cs.length (fun j=>QA.enc ((QH C l.length).getD j ⟨0,0⟩)) fun i=>QA.enc (cs.getD i ⟨0,0⟩)) (.ask (0=0) (.ask (l.length =
  l.length) (.ask (Cap.of 0=Cap.of 0) (.ask (l.length≤l.length) (.ask (QC 2 l.length (fun i=>QA.enc (l.getD i ⟨0,0⟩)) fun i=>QA.enc (l.getD i ⟨0,0⟩)) (.ask (KE
  (.int true .i64 0) (.int true .i64 0) has has (fun i => .int false .i64 (QG l i)) fun i => .int false .i64 (QG l i)) (.ask (LoopState.ready=LoopState.ready) (.ask ((none :
  Option Code)=none) (.ask (Array.mk [(12:Tmp)]=Array.mk [(12:Tmp)]) (.ask ((QK Try.f53 0).1=(QK Try.f53 0).1) (.ask ((QK Try.f53 0).2=(QK Try.f53 0).2)
  (.ask (0=0) (.ask (0=0) (.ask ((0:Int)=0) (.ask (Fn.func (62:FuncId)=Fn.func (62:FuncId)) (.ask (0=0) (.ask (0=0) (.ask (0=0) (.ask (0=0) (.ask (0=0) (.ask
  (0=0) (.ask (0=0) (.ask (0=0) (.ask (0=0) (.ask (0=0) (.ask ((0:Int)=0) (.ask (false=false) (.ask (0=0) (.ask (0=0) (.ask (0=0) (.ask (0=0) (.ask (Fn.func
  (76:FuncId)=Fn.func (76:FuncId)) (.ask (0=0) (.ask (0=0) (.ask (many=many) (.ask (n=n) (.ask (0=0) (.ask (f.length=f.length) (.ask (Cap.of 0=Cap.of 0) (.ask
  (f.length≤f.length) (.ask (QC 2 f.length (fun i=>QA.enc (f.getD i ⟨0,0⟩)) fun i=>QA.enc (f.getD i ⟨0,0⟩)) (.ask (moved=moved) (.ask (turned=turned) (.ask
  (Fn.func (77:FuncId)=Fn.func (77:FuncId)) (.ask (0=0) (.ask (0=0) (.ask (0=0) (.ask (0=0) (.ask (0=0) (.ask (0=0) (.ask (0=0) (.ask (0=0) (.ask (0=0) (.ask
  (0=0) (.ask (0=0) (.ask (0=0) (.ask (Fn.func (62:FuncId)=Fn.func (62:FuncId)) (.ask (0=0) (.ask (0=0) (.ask (0=0) (.ask (0=0) (.ask (0=0) (.ask (0=0) (.ask
  (x.d.play.length=x.d.play.length) (.ask (x.d.play.slack=x.d.play.slack) (.ask (x.d.play.loose=x.d.play.loose) (.ask (x.d.play.damp.lo=x.d.play.damp.lo) (.ask
  (x.d.play.damp.hi=x.d.play.damp.hi) (.ask (x.d.wide=x.d.wide) (.ask (x.d.high=x.d.high) (.ask (x.d.turn=x.d.turn) (.ask (0=0) (.ask (x.d.ps.n=x.d.ps.n) (.ask (Cap.of 0 =
  Cap.of 0) (.ask (0=0) (.ask (x.scans.n=x.scans.n) (.ask (Cap.of 0=Cap.of 0) (.ask (0=0) (.ask (x.hang.n=x.hang.n) (.ask (Cap.of 0=Cap.of 0) (.ask (x.lost=x.lost) (.ask
  (x.foreign=x.foreign) (.ask (0=0) (.ask (C.length=C.length) (.ask (Cap.of 0=Cap.of 0) (.ask (C.length=C.length) (.ask (KM 2 C.length (fun i=>(QH C i).length) (fun
  i=>(QH C i).length) (fun i j=>QA.enc ((QH C i).getD j ⟨0,0⟩)) fun i j=>QA.enc ((QH C i).getD j ⟨0,0⟩)) (.ask (x.d.ps.n≤x.d.ps.n) (.ask (QC 28 x.d.ps.n (fun i
  => QA.enc (x.d.ps.get i)) fun i=>QA.enc (x.d.ps.get i)) (.ask (x.scans.n≤x.scans.n) (.ask (QC 28 x.scans.n (fun i=>QA.enc (x.scans.get i)) fun i=>QA.enc
  (x.scans.get i)) (.ask (x.hang.n≤x.hang.n) (.ask (QC 4 x.hang.n (fun i=>QA.enc (x.hang.get i)) fun i=>QA.enc (x.hang.get i)) (.asm (True) (.all (fun(g0:Nat→Value)
  => .leaf (.bool true true) ((QNb f' has' l many' moved' n'
  turned'))))))))))))))))))))))))))))))))))))))))))))))))))))))))))))))))))))))))))))))))))))))))))))))))))))))))))))))))))))):=by kernel_rfl
theorem QPv(C:List (List QB))(l:List QB)(has:Int→Bool)(many n:Int)(f:List QB)(moved turned:Int)(has':Int→Bool)(many' n':Int)(f':List QB)(moved' turned':Int):QL 360 [(.bool true true)] ((QNb f' has' l many' moved' n' turned')) (Kd (tdU x C (QK Try.f53 0).1 (QK Try.f53 0).2 l has many n f moved turned has' many' n' f' moved'
  turned'))=(some ([true=true,0=0,l.length=l.length,cO=cO,l.length≤l.length,QC 2 l.length (fun i=>QA.enc (l.getD i ⟨0,0⟩)) fun i=>QA.enc
  (l.getD i ⟨0,0⟩),KE (.int true .i64 0) (.int true .i64 0) has' has' (fun i => .int false .i64 (QG l i)) fun i => .int false .i64 (QG l i),LoopState.ready =
  LoopState.ready,(none:Option Code)=none,Array.mk [12]=Array.mk [(12:Tmp)],(QK Try.f53 0).1=(QK Try.f53 0).1,(QK Try.f53 0).2=(QK Try.f53 0).2,0=0,
  0=0,(0:Int)=0,Fn.func (62:FuncId)=Fn.func (62:FuncId)]++Za++Za++[0=0,0=0,(0:Int)=0,false=false]++Za++[Fn.func (76:FuncId)=Fn.func (76
  : FuncId),0=0,0=0,many'=many',n'=n',0=0,f'.length=f'.length,cO=cO,f'.length≤f'.length,QC 2 f'.length (fun i=>QA.enc (f'.getD i ⟨0,0⟩))
  fun i=>QA.enc (f'.getD i ⟨0,0⟩),moved'=moved',turned'=turned'])):=by kernel_rfl
noncomputable abbrev YI:Code:=(QK Try.f53 0).1
noncomputable abbrev YL:Code:=(QK Try.f53 0).2
theorem QJd(C:List (List QB))(ac body:Code)(l:List QB)(has:Int→Bool)(many n:Int)(f:List QB)(moved turned:Int)(has':Int→Bool)(many' n':Int)(f':List QB)(moved' turned':Int):(tdU x C ac body l has many n f moved turned has' many' n' f' moved' turned').Ok:=by
 refine⟨(by decide:336≤360),rfl,rfl,?_,rfl,fun _ _=>rfl,fun nid h => ?_⟩
 ·intro q hq;simp only[UC.po,tdU,tdW,rwL,List.mem_cons,List.not_mem_nil,or_false]at hq;rcases hq with rfl|rfl|rfl|rfl|rfl|rfl|rfl|rfl|rfl|rfl<;>refine⟨rfl,rfl,rfl,?_⟩<;>first|exact fun _=>rfl|exact fun h=>absurd (show 360<336 from h) (by decide)|exact fun h=>absurd (show 361<336 from h) (by decide)
 ·have e0:=XX 336 360 0 nid (by decide)
  have e1:=XX 336 360 1 nid (by decide)
  simp only[UC.po,tdU,tdW,rwL,QBu,tdT,List.map_cons,List.map_nil,Blk.mapId,AV.mapId,AV.mapIdL,Nat.add_zero]at e0 e1 ⊢;rw[e0,e1];rfl
theorem QXi{x:QE}(hx:Ko x)(C:List (List QB))(hpos:0<x.scans.n){l:List QB}(hn:l.length=x.scans.n)(hl:∀ c∈l,Km c)(s:TdS)(h:Int→Bool)(hgd:Vd x s):QO Try.prog 77 (uFC (ZD x C YI YL l h s (Ja x tdY l s h))):=by
 obtain⟨many,n,f,moved,turned⟩:=s;have hs:=hx.s;have hd:=hx.d.n9;have hgd:Vd x (many,n,f,moved,turned):=hgd;have hT:QZ (jQ QY (tmU l f n moved turned (Q9 n l f) (mvL l (Q9 n l f) moved l.length) (tuL l (Q9 n l f) turned l.length))):=Qv.add (QVq l f n moved turned (by omega) (by omega) (fun q=>(hgd q).trans hn.symm))
 have fin:∀(s':TdS),Xo (Ws (tdU x C YI YL l h many n f moved turned h s'.1 s'.2.1 s'.2.2.1 s'.2.2.2.1 s'.2.2.2.2)) (Jy (mkE Try.prog (jQ QY (tmU l f n moved turned (Q9 n l f) (mvL l (Q9 n l f) moved l.length) (tuL l (Q9 n l f) turned l.length)))) (msN Try.prog (jQ QY (tmU l f n moved turned (Q9 n l f) (mvL l (Q9 n l f) moved l.length) (tuL l (Q9 n l f) turned l.length)))) Try.f77 (tdU x C YI YL l h many n f moved turned h s'.1 s'.2.1 s'.2.2.1 s'.2.2.2.1 s'.2.2.2.2))→QO Try.prog 77 (uFC (tdU x C YI YL l h many n f moved turned h s'.1 s'.2.1 s'.2.2.1 s'.2.2.2.1 s'.2.2.2.2)):=fun s' hd=>
  JW (E:=mkE Try.prog (jQ QY (tmU l f n moved turned (Q9 n l f) (mvL l (Q9 n l f) moved l.length) (tuL l (Q9 n l f) turned l.length)))) (QP hT) Try.func77 (by kernel_rfl) (by kernel_rfl) (QJd ..) (fun G h1 _=>zh _ hT G h1) ⟨hd⟩
 have he:=QBH (x:=x) (l:=l) (by omega) (by omega)
 cases hb:YF x l with
 | true=>
  rw[hb]at he;simp only[Ja,hb,ZD];refine fin (many,n,f,moved,turned) (Qt (QJD QY x C l h many n f moved turned (Q9 n l f) (mvL l (Q9 n l f) moved l.length) (tuL l (Q9 n l f) turned l.length)) ?_);refine QI (fun _=>QF rfl (QI (fun _ => ?_) (fun q=>Bool.noConfusion (show true=false from he.symm.trans q)))) (fun q=>by rw[hn]at q;simp at q)
  refine⟨rfl,rfl,_,QYs x C l h many n f moved turned,?_⟩
  repeat' first|with_reducible refine QN ?_ ?_|exact trivial|with_reducible rfl|exact qlr _|exact qRr|exact QU _ _ _ _|exact Ki _ _ _|refine And.intro ?_ ?_
 | false=>
  rw[hb]at he;simp only[Ja,hb,tdY,ZD];refine fin (tdY (many,n,f,moved,turned) l).1 (Qt (QJD QY x C l h many n f moved turned (Q9 n l f) (mvL l (Q9 n l f) moved l.length) (tuL l (Q9 n l f) turned l.length)) ?_);refine QI (fun _=>QF rfl (QI (fun q=>Bool.noConfusion (show true=false from q.symm.trans he)) (fun _=>QF (KL.2 ?_) ?_))) (fun q=>by rw[hn]at q;simp at q)
  ·repeat' first|with_reducible refine QN ?_ ?_|exact trivial|with_reducible rfl|exact qlr _|exact qRr|exact QU _ _ _ _|refine And.intro ?_ ?_
  refine⟨rfl,rfl,_,QUn x C l h many n f moved turned (Q9 n l f) (mvL l (Q9 n l f) moved l.length) (tuL l (Q9 n l f) turned l.length) _ _ _ _ _,?_⟩
  repeat' first|with_reducible refine QN ?_ ?_|exact trivial|with_reducible rfl|exact qlr _|exact qRr|exact QU _ _ _ _|exact Ki _ _ _|exact rfl|refine And.intro ?_ ?_
theorem QaD{x:QE}(hx:Ko x){C:List (List QB)}{ac body:Code}{cs l:List QB}(hl:l.length<1000)(hls:∀ c∈l,Km c)(hcs:∀ c∈cs,Km c)(IH:∀ c∈cs,∀ s h,Vd x s→QO Try.prog 77 (uFC (ZD x C ac body (l++[c]) h s (YJ x C d l s h c))))(t:TdK):(Wq Try.prog x C ac body d cs l t).Sound:=by
 unfold Wq qS;split
 ·rename_i hk;have hm:=vN (z:=(⟨0,0⟩:QB)) hk.1;refine Zs ((Qv.add (Hc x C _ hx (HI (by simp) (by simp;omega) ?_))).add (IH _ hm _ _ hk.2))
  intro c hc;rcases List.mem_append.1 hc with h|h
  ·exact hls c h
  ·rw[List.mem_singleton.1 h];exact hcs _ hm
 ·exact Zs ((Qv.add (ZA (by kernel_rfl) _)).add (ZA (by kernel_rfl) _))
theorem QP8{x:QE}(hx:Ko x){C:List (List QB)}(hC:Xe x C){ac body:Code}{l:List QB}(hl:l.length+(d+1)=x.scans.n)(hls:∀ c∈l,Km c)(IH:∀ c∈QH C l.length,∀ s h,Vd x s→QO Try.prog 77 (uFC (ZD x C ac body (l++[c]) h s (YJ x C d l s h c))))(s:TdS)(h:Int→Bool)(hgd:Vd x s){X:List (Prop×Ex×JSt)}(hX:∀ e J,Z3 x C ac body d (QH C l.length) l (0,s,h) e J→∃ y∈X,y.1∧y.2.1=e∧y.2.2=J)(G:Ctx)(hrd:G.rd=none)(hG:G.n=360):
  Q1 (mkE Try.prog Qj) G (tdX Try.prog (tdJ x C ac body (QH C l.length) l h s.1 s.2.1 s.2.2.1 s.2.2.2.1 s.2.2.2.2 0) X) (Qo Try.f77):=by
 have hs:=hx.s;refine JF (body:=QW Try.f77 0) (QP Qv) hrd (by kernel_rfl) ?_
 have hE:=fun t=>QaD hx (C:=C) (ac:=ac) (body:=body) (d:=d) (cs:=QH C l.length) (l:=l) (by omega) hls (hC.s _) IH t
 refine vz (E0:=mkE Try.prog Qj) (E:=Wq Try.prog x C ac body d (QH C l.length) l) (H:=fun t=>hnd (Wq Try.prog x C ac body d (QH C l.length) l t) 0) (n0:=360) (s0:=(0,s,h)) (fun _=>rfl) hE (by omega) (fun t _=>Qq (hE t) 0 G _ hrd) (fun t _=>(by decide:360≤400)) ?_ (QVU x C ac body d (QH C l.length) l (hC.le _) (by omega) (by omega)) ⟨Nat.zero_le _,hgd⟩ hX
 intro t e J hr;unfold Z3 at hr;split at hr
 ·rw[hr.2];exact(by decide:360≤400)
 ·exact hr.elim
theorem QZv{x:QE}(hx:Ko x){C:List (List QB)}(hC:Xe x C){l:List QB}(hl:l.length+(d+1)=x.scans.n)(hls:∀ c∈l,Km c)(IH:∀ c∈QH C l.length,∀ s h,Vd x s→QO Try.prog 77 (uFC (ZD x C YI YL (l++[c]) h s (YJ x C d l s h c))))(s:TdS)(h:Int→Bool)(hgd:Vd x s):QO Try.prog 77 (uFC (ZD x C YI YL l h s (onT x C tdY (d+1) l s h))):=by
 obtain⟨s',h',he⟩:=Yv (C:=C) (x:=x) (Y:=tdY) (fun _ _=>rfl) (d+1) l s h;rw[he];have hc:JV (KQ x l (YJ x C d l)) (QH C l.length) s h = .go s' h':=he;have hCn:=hC.n;refine JW (E:=mkE Try.prog Qj) (QP Qv) Try.func77 (by kernel_rfl) (by kernel_rfl) (QJd ..) (QP8 hx hC hl hls IH s h hgd (X:=[(True,.exit 0,tdE YI YL l h' s'.1 s'.2.1 s'.2.2.1 s'.2.2.2.1 s'.2.2.2.2)]) ?_) ⟨?_⟩
 ·intro e J hr;unfold Z3 at hr;simp only[List.drop_zero,hc]at hr;exact⟨_,List.mem_cons_self,trivial,hr.1.symm,hr.2.symm⟩
 ·refine Qt (QPB x C (QH C l.length) l h s.1 s.2.1 s.2.2.1 s.2.2.2.1 s.2.2.2.2 h' s'.1 s'.2.1 s'.2.2.1 s'.2.2.2.1 s'.2.2.2.2) ?_;refine QI (fun q=>by simp at q;omega) (fun _=>QF (by simp;omega) (QF (by simp;omega) ?_))
  repeat' first|refine QR (p:=_=_) rfl ?_|refine QR (p:=_≤_) (qlr _) ?_|refine QR (p:=QC _ _ _ _) (qRr) ?_|refine QR (p:=KM _ _ _ _ _ _) (QU _ _ _ _) ?_|refine QR (p:=KE _ _ _ _ _ _) (Ki _ _ _) ?_
  refine KA fun _=>Q6 fun g=>⟨rfl,rfl,_,QPv x C l h s.1 s.2.1 s.2.2.1 s.2.2.2.1 s.2.2.2.2 h' s'.1 s'.2.1 s'.2.2.1 s'.2.2.2.1 s'.2.2.2.2,?_⟩
  repeat' first|with_reducible refine QN ?_ ?_|exact trivial|with_reducible rfl|exact qlr _|exact qRr|exact QU _ _ _ _|exact Ki _ _ _|refine And.intro ?_ ?_
theorem QNW{x:QE}(hx:Ko x){C:List (List QB)}(hC:Xe x C)(hpos:0<x.scans.n):∀(d:Nat) (l:List QB) (s:TdS) (h:Int→Bool),l.length+d=x.scans.n→(∀ c∈l,Km c)→Vd x s→QO Try.prog 77 (uFC (ZD x C YI YL l h s (onT x C tdY d l s h)))
 | 0,l,s,h,hn,hl,hgd=>QXi hx C hpos (by omega) hl s h hgd
 | d+1,l,s,h,hn,hl,hgd=>QZv hx hC (by omega) hl (fun c hc s h hgd=>QNW hx hC hpos d (l++[c]) s h (by simp;omega) (fun y hy=>by
   rcases List.mem_append.1 hy with q|q
   ·exact hl y q
   ·rw[List.mem_singleton.1 q];exact hC.s _ c hc) hgd) s h hgd
end Go.Proofs.Ytbpffdkemeoajaa
