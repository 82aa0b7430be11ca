/- - -/
import Derived.Test.YtbpffdkemeoajaaMfz
open Go.IntKind (i64)
set_option maxRecDepth 100000
namespace Go.Proofs.Ytbpffdkemeoajaa
open Go.SX
def tdT:List AV:=[.ptr 40 0 0,.int true .i64 0,.fn (.func 62) [.ptr 120 0 0,.ptr 112 0 0,.ptr 104 0 0],.tup [],.ptr 168 0 0,.ptr 176 0 0,.int true .i64 0,.bool true false,.ptr 200 0 0,.tup [],.ptr 40 0 0,.fn (.func 76) [.ptr 224 0 0],.tup [],.tup [],.tup [],.tup [],.tup [],.tup [],.tup [],.tup [],.tup [],.tup []]
def QFb:List AV:=[.ptr 296 0 0,.ptr 224 0 0,.ptr 280 0 0,.ptr 264 0 0,.ptr 304 0 0]
variable {d:Nat}(C:List (List QB))(ac body:Code)(x:QE)(cs l:List QB)(has:Int→Bool)(k:Nat)(f:List QB)(many n:Int)(has':Int→Bool)(f':List QB)
def tdR(C:List (List QB)):List (Nat×Blk):=
 [(304,.cellsR 0 34 [.fn (.func 77) QFb]),(280,.cellsR 0 63 [.map 272]),(264,.cellsR 0 123 [.yld 257]),(224,.cellsR 0 89 [.ptr 40 0 0]),(176,.cellsR 0 101 [.fn (.func 62) [.ptr 120 0 0,.ptr 112 0 0,.ptr 104 0 0]]),(40,.cellsR 0 125 (srK 41 x C)),ZI false 41 C]++Jd 0 x
def tdW(a:Nat)(b:Nat)(has:Int→Bool)(many n:Int)(f:List QB)(moved turned:Int):List (Nat×Blk):=
 [(296,.cells 0 38 [.slz a 0 l.length (.of 0)]),rwL a l,(272,.mpf .i64 (.int true .i64 0) has fun i => .int false .i64 (QH l i)),(257,.lp .ready none tdT #[12] ac body),(200,.cells 0 3 [.int false .i64 many]),(168,.cells 0 3 [.int false .i64 n]),(120,.cells 0 38 [.slz b 0 f.length (.of 0)]),rwL b f,(112,.cells 0 92 [.int false .i64 moved]),(104,.cells 0 92 [.int false .i64 turned])]
def QBk(C:List (List QB))(ac body:Code)(l:List QB)(has:Int→Bool)(many n:Int)(f:List QB)(moved turned:Int):JSt:=
 ⟨5,[(0,.ptr 296 0 0),(1,.ptr 224 0 0),(2,.ptr 280 0 0),(3,.ptr 264 0 0),(4,.ptr 304 0 0)],tdW ac body l 344 352 has many n f moved turned++tdR x C,360⟩
def tdU(C:List (List QB))(ac body:Code)(l:List QB)(has:Int→Bool)(many n:Int)(f:List QB)(moved turned:Int)(has':Int→Bool)(many' n':Int)(f':List QB)(moved' turned':Int):UC:=
 ⟨336,QBk x C ac body l has many n f moved turned,fun _ => .bool false true,fun m=>tdW ac body l m (m+1) has' many' n' f' moved' turned'⟩
def tdJ(C:List (List QB))(ac body:Code)(cs l:List QB)(has:Int→Bool)(many n:Int)(f:List QB)(moved turned:Int)(k:Nat):JSt:=
 ⟨98,[(0,.ptr 296 0 0),(1,.ptr 224 0 0),(2,.ptr 280 0 0),(3,.ptr 264 0 0),(4,.ptr 304 0 0),(48,.slz 384 0 cs.length (.of 0)),(49,.int false .i64 cs.length),(50,.int false .i64 k)],
  (384,.frz [.int .i64,.int .i64] cs.length fun i=>QA.enc (cs.getD i ⟨0,0⟩))::tdW ac body l 368 376 has many n f moved turned++tdR x C,400⟩
def tdE(f:List QB)(moved turned:Int):JSt:=⟨98,[],tdW ac body l 368 376 has many n f moved turned,400⟩
def GJ:List Nat:=[296,272,257,200,168,120,112,104]
noncomputable abbrev QGX:List AV:=
  [.nilp,.ptr 98 0 0,.ptr 296 0 0,.ptr 224 0 0,.ptr 280 0 0,.ptr 264 0 0,.ptr 304 0 0,.slz 384 0 cs.length cO,vi (cs.length:Int),.int false .i64
  (i64.wrap ((k:Int)+1))]
noncomputable abbrev GV:Nat×Blk:=
  (257,.lp LoopState.ready none tdT (Array.mk [12]) ac body)
noncomputable abbrev QGn:Nat×Blk:=
  (120,.cells 0 38 [.slz 376 0 f.length cO])
noncomputable abbrev Gt:Nat×Blk:=
  (224,.cellsR 0 89 [.ptr 40 0 0])
noncomputable abbrev QEw:Nat×Blk:=
  (304,.cellsR 0 34 [.fn (Fn.func 77) [.ptr 296 0 0,.ptr 224 0 0,.ptr 280 0 0,.ptr 264 0 0,.ptr 304 0 0]])
noncomputable abbrev QGV:Nat×Blk:=
  (384,.frz [.int .i64,.int .i64] cs.length fun i=>QA.enc (cs.getD i ⟨0,0⟩))
noncomputable abbrev HF:Nat×Blk:=
  (40,.cellsR 0 125 [vi x.d.play.length,vi x.d.play.slack,vi x.d.play.loose,vi x.d.play.damp.lo,.int false .i64
  x.d.play.damp.hi,vi x.d.wide,vi x.d.high,.bool false x.d.turn,.slz 0 0 x.d.ps.n cO,.slz 1 0 x.scans.n cO,.slz 2 0 x.hang.n (Cap.of
  0),vi x.lost,vi x.foreign,.slz 41 0 C.length cO])
noncomputable abbrev HK:Nat×Blk:=
  (176,.cellsR 0 101 [.fn (Fn.func 62) [.ptr 120 0 0,.ptr 112 0 0,.ptr 104 0 0]])
noncomputable abbrev QEC:Nat×Blk:=
  (376,.rowz true 56 [.int .i64,.int .i64] f.length fun i=>QA.enc (f.getD i ⟨0,0⟩))
abbrev Yn:List CK:=
  [.int .i64,.int .i64,.int .i64,.int .i64,.int .i64,.int .i64,.int .i64,.int .i64,.int .i64,.int .i64,.int .i64,.int .i64,.int .i64,.int .i64,.int .i64,.int .i64,.int
  .i64,.int .i64,.int .i64,.int .i64,.int .i64,.int .i64,.int .i64,.int .i64,.int .i64,.int .i64,.int .i64,.int .i64]
noncomputable abbrev zY:Nat×Blk:=
  (2,.frz [.int .i64,.int .i64,.int .i64,.int .i64] x.hang.n fun i=>QA.enc (x.hang.get i))
noncomputable abbrev zF:Nat×Blk:=
  (41,.frz2 false 38 [.int .i64,.int .i64] C.length (fun i=>(QK C i).length) fun i j=>QA.enc ((QK C i).getD j ⟨0,0⟩))
noncomputable abbrev QHB(has:Int→Bool)(l:List QB)(many:Int)(moved:Int)(n:Int)(turned:Int)(x:QE):List (Nat×Blk):=
  [(296,.cells 0 38 [.slz 368 0 l.length cO]),(272,.mpf i64 (.int true .i64 0) has fun i => .int false .i64 (QH l i)),(GV ac body),(200,.cells 0 3 [.int
  false .i64 many]),(168,.cells 0 3 [vi n]),(QGn f),(112,.cells 0 92 [vi moved]),(104,.cells 0 92 [vi turned]),Gt,(280,.cellsR 0
  63 [.map 272]),(264,.cellsR 0 123 [.yld 257]),QEw,(QGV cs),(368,.rowz true 56 [.int .i64,.int .i64] l.length fun i=>QA.enc (l.getD i ⟨0,0⟩)),(HF C x),HK,
  (QEC f),(0,.frz Yn x.d.ps.n fun i=>QA.enc (x.d.ps.get i)),(1,.frz Yn x.scans.n fun i=>QA.enc (x.scans.get i)),(zY x),(zF C)]
noncomputable abbrev QB3:List AV:=
  [vi (cs.getD k ⟨0,0⟩).cell,vi (cs.getD k ⟨0,0⟩).turn]
noncomputable abbrev QJI(has:Int→Bool)(k:Nat)(l:List QB)(many:Int)(moved:Int)(n:Int)(turned:Int)(x:QE):List (Nat×Blk):=
  [(296,.cells 0 38 [.slz 1064 0 (i64.wrap ((↑(l.length+1):Int)-1)).toNat cO]),(272,.mpf i64 (.int true .i64 0) (Qe (cs.getD k ⟨0,0⟩).cell true
  (Qe (cs.getD k ⟨0,0⟩).cell true has)) (KM (cs.getD k ⟨0,0⟩).cell (.int false .i64 (i64.wrap (toI (Bool.rec ((fun _=>(fun i => .int false .i64 (QH l i)) ((fun i=>
  QA.enc (cs.getD i ⟨0,0⟩)) ((k:Int).toNat+0) 0)) ()) ((fun _ => .int false .i64 (i64.wrap (toI ((fun i => .int false .i64 (QH l i)) ((fun i=>QA.enc (cs.getD i
  ⟨0,0⟩)) ((k:Int).toNat+0) 0))+1))) ()) (decide ((fun i=>QA.enc (cs.getD i ⟨0,0⟩)) ((k:Int).toNat+0) 0=(fun i=>QA.enc (cs.getD i ⟨0,0⟩)) ((k:Int).toNat+0)
  0)))-1))) (KM (cs.getD k ⟨0,0⟩).cell (.int false .i64 (i64.wrap (toI (.int false .i64 (QH l (cs.getD k ⟨0,0⟩).cell))+1))) fun i => .int false .i64 (QH l i)))),
  (GV ac body),(200,.cells 0 3 [vi many]),(168,.cells 0 3 [vi n]),(QGn f),(112,.cells 0 92 [vi moved]),(104,.cells 0 92 [.int
  false .i64 turned]),Gt,(280,.cellsR 0 63 [.map 272]),(264,.cellsR 0 123 [.yld 257]),QEw,(QGV cs),(1064,.rowz true 56 [.int .i64,.int .i64] (l.length+1) (Qi
  l.length (fun i=>QA.enc (l.getD i ⟨0,0⟩)) (QU [(QB3 cs k)] 0))),(HF C x),HK,(QEC f),(0,.frz Yn x.d.ps.n fun i=>QA.enc (x.d.ps.get i)),(1,.frz Yn
  x.scans.n fun i=>QA.enc (x.scans.get i)),(zY x),(zF C)]
noncomputable abbrev QKA(k:Nat)(l2:List QB):Nat×Blk:=
  (272,.mpf i64 (.int true .i64 0) (Qe (cs.getD k ⟨0,0⟩).cell true has') (KM (cs.getD k ⟨0,0⟩).cell (.int false .i64 (i64.wrap (toI (.int false .i64 (QH l2
  (cs.getD k ⟨0,0⟩).cell))-1))) fun i => .int false .i64 (QH l2 i)))
noncomputable abbrev QLf(has':Int→Bool)(k:Nat)(l2:List QB)(many':Int)(moved':Int)(n':Int)(turned':Int)(x:QE):List (Nat×Blk):=
  [(296,.cells 0 38 [.slz 1176 0 (i64.wrap ((l2.length:Int)-1)).toNat cO]),(QKA cs has' k l2),(GV ac body),(200,.cells 0 3 [vi many']),
  (168,.cells 0 3 [vi n']),(120,.cells 0 38 [.slz 1177 0 f'.length cO]),(112,.cells 0 92 [vi moved']),(104,.cells 0 92 [.int false .i64
  turned']),Gt,(280,.cellsR 0 63 [.map 272]),(264,.cellsR 0 123 [.yld 257]),QEw,(QGV cs),(1176,.rowz true 56 [.int .i64,.int .i64] l2.length fun i=>QA.enc
  (l2.getD i ⟨0,0⟩)),(HF C x),HK,(1177,.rowz true 56 [.int .i64,.int .i64] f'.length fun i=>QA.enc (f'.getD i ⟨0,0⟩)),(0,.frz Yn x.d.ps.n fun i=>QA.enc
  (x.d.ps.get i)),(1,.frz Yn x.scans.n fun i=>QA.enc (x.scans.get i)),(zY x),(zF C)]
noncomputable abbrev QHs(has:Int→Bool)(l:List QB)(many:Int)(moved:Int)(n:Int)(turned:Int)(x:QE):List (Nat×Blk):=
  [(296,.cells 0 38 [.slz 368 0 l.length cO]),(272,.mpf i64 (.int true .i64 0) has fun i => .int false .i64 (QH l i)),(GV ac body),(200,.cells 0 3 [.int
  false .i64 many]),(168,.cells 0 3 [vi n]),(QGn f),(112,.cells 0 92 [vi moved]),(104,.cells 0 92 [vi turned]),(368,.rowz true 56
  [.int .i64,.int .i64] l.length fun i=>QA.enc (l.getD i ⟨0,0⟩)),(HF C x),HK,Gt,(QEC f),(0,.frz Yn x.d.ps.n fun i=>QA.enc (x.d.ps.get i)),(1,.frz Yn
  x.scans.n fun i=>QA.enc (x.scans.get i)),(zY x),(zF C)]
theorem QY7(pb1 pb2:List Prop→Bool)(x:QE)(C:List (List QB))(ac body:Code)(cs l l2:List QB)(has has2:Int→Bool)(many n:Int)(f:List QB)(moved turned:Int)(k:Nat)(has':Int→Bool)(many' n':Int)(f':List QB)(moved' turned':Int)(g:Nat→Value):exec (mkC Try.prog (YZ pb1 pb2 x C l2 (tdU x C ac body l2 has2 many n f moved turned has' many' n' f' moved' turned'))) (hnd (mkC Try.prog (YZ pb1 pb2 x C l2 (tdU x C ac
  body l2 has2 many n f moved turned has' many' n' f' moved' turned'))) 0) (QX Try.f77 0) (JSt.inst (tdJ x C ac body cs l has many n f moved turned k) g) (KT GJ jF) = .br
  (decide ((k:Int)<(cs.length:Int))) (.need (decide ((0:Int)≤(k:Int)∧(k:Int)<(cs.length:Int))&&decide (cs.length≤cs.length)) (.need (decide (k<cs.length))
  (.all (fun(g0:Nat→Value) => .need (isI i64 (.int false .i64 (QH l (cs.getD k ⟨0,0⟩).cell))) (.br (decide (toI (.int false .i64 (QH l (cs.getD k ⟨0,0⟩).cell)) ≥
  bif (cs.getD k ⟨0,0⟩).cell == -2 then x.foreign else (1:Int))) (.leaf (.tup (QGX cs k)) ((QHB C ac body cs f has l many moved n turned x))) (.need (decide (l.length≤l.length)
  && (true&&decide ((l.length+1+(l.length+1) / 4+192)*16≤281474976710656∧l.length+1≤9223372036854775807))) (.need (isI i64 (.int false .i64 (QH l
  (cs.getD k ⟨0,0⟩).cell))) (.need (pb1 ([0=0,0=0,0=0,l.length+1=l2.length,cO=cO,l2.length≤l.length+1,QC 2 l2.length (Qi l.length (fun i=>
  QA.enc (l.getD i ⟨0,0⟩)) (QU [(QB3 cs k)] 0)) fun i=>QA.enc (l2.getD i ⟨0,0⟩),x.d.play.length=x.d.play.length,x.d.play.slack=x.d.play.slack,x.d.play.loose =
  x.d.play.loose,x.d.play.damp.lo=x.d.play.damp.lo,x.d.play.damp.hi=x.d.play.damp.hi,x.d.wide=x.d.wide,x.d.high=x.d.high,x.d.turn=x.d.turn,0=0,x.d.ps.n=x.d.ps.n,
  cO=cO,0=0,x.scans.n=x.scans.n,cO=cO,0=0,x.hang.n=x.hang.n,cO=cO,x.lost=x.lost,x.foreign=x.foreign,0=0,C.length =
  C.length,cO=cO,C.length=C.length,Kj 2 C.length (fun i=>(QK C i).length) (fun i=>(QK C i).length) (fun i j=>QA.enc ((QK C i).getD j ⟨0,0⟩)) fun
  i j=>QA.enc ((QK C i).getD j ⟨0,0⟩),x.d.ps.n≤x.d.ps.n,QC 28 x.d.ps.n (fun i=>QA.enc (x.d.ps.get i)) fun i=>QA.enc (x.d.ps.get i),x.scans.n≤x.scans.n,
  QC 28 x.scans.n (fun i=>QA.enc (x.scans.get i)) fun i=>QA.enc (x.scans.get i),x.hang.n≤x.hang.n,QC 4 x.hang.n (fun i=>QA.enc (x.hang.get i)) fun i=>
  QA.enc (x.hang.get i)])) (.br (!Kk x l2) (.need (isI i64 (Bool.rec ((fun _=>(fun i => .int false .i64 (QH l i)) ((fun i=>QA.enc (cs.getD i ⟨0,0⟩)) ((k :
  Int).toNat+0) 0)) ()) ((fun _ => .int false .i64 (i64.wrap (toI ((fun i => .int false .i64 (QH l i)) ((fun i=>QA.enc (cs.getD i ⟨0,0⟩)) ((k:Int).toNat+0) 0)) +
  1))) ()) (decide ((fun i=>QA.enc (cs.getD i ⟨0,0⟩)) ((k:Int).toNat+0) 0=(fun i=>QA.enc (cs.getD i ⟨0,0⟩)) ((k:Int).toNat+0) 0)))) (.need (decide ((0:Int) ≤
  i64.wrap ((↑(l.length+1):Int)-1)∧(i64.wrap ((↑(l.length+1):Int)-1)).toNat≤l.length+1-0)) (.leaf (.tup (QGX cs k)) ((QJI C ac body cs f has k l
  many moved n turned x))))) (.need (pb2 ([0=0,0=0,0=0,0=0,0=0,0=0,0=0,0=0,0=0,0=0,0=0,l.length+1=l2.length,cO=cO,l2.length ≤
  l.length+1,QC 2 l2.length (Qi l.length (fun i=>QA.enc (l.getD i ⟨0,0⟩)) (QU [(QB3 cs k)] 0)) fun i=>QA.enc (l2.getD i ⟨0,0⟩),Kc (.int true .i64 0) (.int
  true .i64 0) (Qe (cs.getD k ⟨0,0⟩).cell true has) has2 (KM (cs.getD k ⟨0,0⟩).cell (.int false .i64 (i64.wrap (toI (.int false .i64 (QH l (cs.getD k ⟨0,0⟩).cell)) +
  1))) fun i => .int false .i64 (QH l i)) fun i => .int false .i64 (QH l2 i),LoopState.ready=LoopState.ready,(none:Option Code)=none,Array.mk [12]=Array.mk [12],ac =
  ac,body=body,0=0,0=0,(0:Int)=0,Fn.func 62=Fn.func 62,0=0,0=0,0=0,0=0,0=0,0=0,0=0,0=0,0=0,0=0,(0:Int)=0,false=false,0=0,0 =
  0,0=0,0=0,Fn.func 76=Fn.func 76,0=0,0=0,many=many,n=n,0=0,f.length=f.length,cO=cO,f.length≤f.length,QC 2 f.length (fun i=>
  QA.enc (f.getD i ⟨0,0⟩)) fun i=>QA.enc (f.getD i ⟨0,0⟩),moved=moved,turned=turned,Fn.func 77=Fn.func 77,0=0,0=0,0=0,0=0,0=0,0=0,0=0,0=0,0 =
  0,0=0,0=0,0=0,Fn.func 62=Fn.func 62,0=0,0=0,0=0,0=0,0=0,0=0,x.d.play.length=x.d.play.length,x.d.play.slack=x.d.play.slack,x.d.play.loose =
  x.d.play.loose,x.d.play.damp.lo=x.d.play.damp.lo,x.d.play.damp.hi=x.d.play.damp.hi,x.d.wide=x.d.wide,x.d.high=x.d.high,x.d.turn=x.d.turn,0=0,x.d.ps.n=x.d.ps.n,
  cO=cO,0=0,x.scans.n=x.scans.n,cO=cO,0=0,x.hang.n=x.hang.n,cO=cO,x.lost=x.lost,x.foreign=x.foreign,0=0,C.length =
  C.length,cO=cO,C.length=C.length,Kj 2 C.length (fun i=>(QK C i).length) (fun i=>(QK C i).length) (fun i j=>QA.enc ((QK C i).getD j ⟨0,0⟩)) fun
  i j=>QA.enc ((QK C i).getD j ⟨0,0⟩),x.d.ps.n≤x.d.ps.n,QC 28 x.d.ps.n (fun i=>QA.enc (x.d.ps.get i)) fun i=>QA.enc (x.d.ps.get i),x.scans.n≤x.scans.n,
  QC 28 x.scans.n (fun i=>QA.enc (x.scans.get i)) fun i=>QA.enc (x.scans.get i),x.hang.n≤x.hang.n,QC 4 x.hang.n (fun i=>QA.enc (x.hang.get i)) fun i=>
  QA.enc (x.hang.get i)])) (.need (isI i64 (.int false .i64 (QH l2 (cs.getD k ⟨0,0⟩).cell))) (.need (decide ((0:Int)≤i64.wrap ((l2.length:Int)-1) ∧
  (i64.wrap ((l2.length:Int)-1)).toNat≤l2.length-0)) (.br (false) (.leaf (.tup [.nili,.ptr 98 0 0,.bool true false]) ([(296,.cells 0 38 [.slz 1176 0
  (i64.wrap ((l2.length:Int)-1)).toNat cO]),(QKA cs has' k l2),(GV ac body),(200,.cells 0 3 [vi many']),(168,.cells 0 3 [.int false .i64
  n']),(120,.cells 0 38 [.slz 1177 0 f'.length cO]),(112,.cells 0 92 [vi moved']),(104,.cells 0 92 [vi turned']),(1176,.rowz true 56 [.int
  .i64,.int .i64] l2.length fun i=>QA.enc (l2.getD i ⟨0,0⟩)),(HF C x),HK,Gt,(1177,.rowz true 56 [.int .i64,.int .i64] f'.length fun i=>QA.enc (f'.getD i ⟨0,
  0⟩)),(0,.frz Yn x.d.ps.n fun i=>QA.enc (x.d.ps.get i)),(1,.frz Yn x.scans.n fun i=>QA.enc (x.scans.get i)),(zY x),(zF C)])) (.leaf (.tup (QGX cs k)) ((QLf C
  ac body cs f' has' k l2 many' moved' n' turned' x)))))))))))))))) (.leaf (.tup [.ptr 0 0 0,.ptr 98 0 0]) ((QHs C ac body f has l many moved n turned x))):=by kernel_rfl
noncomputable abbrev QDW:List AV:=
  [.ptr 296 0 0,.ptr 224 0 0,.ptr 280 0 0,.ptr 264 0 0,.ptr 304 0 0,.slz 384 0 cs.length cO,vi (cs.length:Int),vi (i64.wrap ((k :
  Int)+1))]
abbrev VX:List Prop:=
  [0=0,0=0,0=0,0=0,0=0,0=0]
abbrev QEe(k':Nat):List Prop:=
  [0=0,0=0,0=0,0=0,0=0,cs.length=cs.length,cO=cO,(cs.length:Int)=(cs.length:Int),i64.wrap ((k:Int)+1)=(k':Int),cs.length ≤
  cs.length,QC 2 cs.length (fun i=>QA.enc (cs.getD i ⟨0,0⟩)) fun i=>QA.enc (cs.getD i ⟨0,0⟩),0=0]
abbrev QHe(l:List QB):List Prop:=
  [cO=cO,l.length≤l.length,QC 2 l.length (fun i=>QA.enc (l.getD i ⟨0,0⟩)) fun i=>QA.enc (l.getD i ⟨0,0⟩),Kc (.int true .i64 0) (.int true .i64 0)
  has has (fun i => .int false .i64 (QH l i)) fun i => .int false .i64 (QH l i),LoopState.ready=LoopState.ready,(none:Option Code)=none,Array.mk [12]=Array.mk [(12 :
  Tmp)],ac=ac,body=body,0=0,0=0,(0:Int)=0,Fn.func (62:FuncId)=Fn.func (62:FuncId)]
abbrev QDq:List Prop:=
  [0=0,0=0,0=0,0=0,(0:Int)=0,false=false,0=0,0=0,0=0,0=0,Fn.func (76:FuncId)=Fn.func (76:FuncId),0=0,0=0,many=many,n=n,0=0,
  f.length=f.length,cO=cO,f.length≤f.length,QC 2 f.length (fun i=>QA.enc (f.getD i ⟨0,0⟩)) fun i=>QA.enc (f.getD i ⟨0,0⟩)]
abbrev QF6:List Prop:=
  [x.d.play.length=x.d.play.length,x.d.play.slack=x.d.play.slack,x.d.play.loose=x.d.play.loose,x.d.play.damp.lo=x.d.play.damp.lo,x.d.play.damp.hi=x.d.play.damp.hi,
  x.d.wide=x.d.wide,x.d.high=x.d.high,x.d.turn=x.d.turn,0=0,x.d.ps.n=x.d.ps.n,cO=cO,0=0,x.scans.n=x.scans.n,cO=cO,0=0,x.hang.n =
  x.hang.n,cO=cO,x.lost=x.lost,x.foreign=x.foreign,0=0,C.length=C.length,cO=cO,C.length=C.length,Kj 2 C.length (fun i=>(QK C
  i).length) (fun i=>(QK C i).length) (fun i j=>QA.enc ((QK C i).getD j ⟨0,0⟩)) fun i j=>QA.enc ((QK C i).getD j ⟨0,0⟩),x.d.ps.n≤x.d.ps.n,QC 28 x.d.ps.n (fun
  i=>QA.enc (x.d.ps.get i)) fun i=>QA.enc (x.d.ps.get i),x.scans.n≤x.scans.n,QC 28 x.scans.n (fun i=>QA.enc (x.scans.get i)) fun i=>QA.enc (x.scans.get i),
  x.hang.n≤x.hang.n,QC 4 x.hang.n (fun i=>QA.enc (x.hang.get i)) fun i=>QA.enc (x.hang.get i)]
theorem QZV(C:List (List QB))(ac body:Code)(cs l:List QB)(has:Int→Bool)(many n:Int)(f:List QB)(moved turned:Int)(k k':Nat):QL 360 (QDW cs k) ((QHB C ac body cs f has l many moved n turned x)) (tdJ x C ac body cs l has many n f moved turned k')=(some (VX++(QEe cs k k')++[l.length =
  l.length]++(QHe ac body has l)++VX++(QDq f many n)++[moved=moved,turned=turned,Fn.func 77=Fn.func (77:FuncId)]++VX++VX++[Fn.func 62=Fn.func
  (62:FuncId)]++VX++(QF6 C x))):=by kernel_rfl
abbrev QOo:List Prop:=
  [(none:Option Code)=none,Array.mk [12]=Array.mk [(12:Tmp)],ac=ac,body=body,0=0,0=0,(0:Int)=0,Fn.func (62:FuncId)=Fn.func (62:FuncId)]
theorem QPg(x:QE)(C:List (List QB))(ac body:Code)(cs l:List QB)(has h':Int→Bool)(many n:Int)(f:List QB)(moved turned:Int)(k k':Nat):QL 360 (QDW cs k) ((QJI C ac body cs f has k l many moved n turned x)) (tdJ x C ac body cs l h' many n f moved turned k')=(some (VX++(QEe cs k k') ++
  [(i64.wrap ((↑(l.length+1):Int)-1)).toNat=l.length,cO=cO,l.length≤l.length+1,QC 2 l.length (Qi l.length (fun i=>QA.enc (l.getD i ⟨0,
  0⟩)) (QU [(QB3 cs k)] 0)) fun i=>QA.enc (l.getD i ⟨0,0⟩),Kc (.int true .i64 0) (.int true .i64 0) (Qe (cs.getD k ⟨0,0⟩).cell true (Qe (cs.getD k ⟨0,0⟩).cell true
  has)) h' (KM (cs.getD k ⟨0,0⟩).cell (.int false .i64 (i64.wrap (toI (Bool.rec ((fun x=>(fun i => .int false .i64 (QH l i)) ((fun i=>QA.enc (cs.getD i ⟨0,0⟩)) ((k
  : Int).toNat+0) 0)) ()) ((fun x => .int false .i64 (i64.wrap (toI ((fun i => .int false .i64 (QH l i)) ((fun i=>QA.enc (cs.getD i ⟨0,0⟩)) ((k:Int).toNat+0) 0))
  + 1))) ()) (decide ((fun i=>QA.enc (cs.getD i ⟨0,0⟩)) ((k:Int).toNat+0) 0=(fun i=>QA.enc (cs.getD i ⟨0,0⟩)) ((k:Int).toNat+0) 0)))-1))) (KM (cs.getD k ⟨0,
  0⟩).cell (.int false .i64 (i64.wrap (toI (.int false .i64 (QH l (cs.getD k ⟨0,0⟩).cell))+1))) fun i => .int false .i64 (QH l i))) fun i => .int false .i64 (QH l i),
  LoopState.ready=LoopState.ready]++(QOo ac body)++VX++(QDq f many n)++[moved=moved,turned=turned,Fn.func 77=Fn.func (77:FuncId)]++VX++VX ++
  [Fn.func 62=Fn.func (62:FuncId)]++VX++(QF6 C x))):=by kernel_rfl
theorem QVL(C:List (List QB))(ac body:Code)(cs l l2:List QB)(k:Nat)(has' h':Int→Bool)(many' n':Int)(f':List QB)(moved' turned':Int)(k':Nat):QL 360 (QDW cs k) ((QLf C ac body cs f' has' k l2 many' moved' n' turned' x)) (tdJ x C ac body cs l h' many' n' f' moved' turned' k')=(some (VX++(QEe cs k k') ++
  [(i64.wrap ((l2.length:Int)-1)).toNat=l.length,cO=cO,l.length≤l2.length,QC 2 l.length (fun i=>QA.enc (l2.getD i ⟨0,0⟩)) fun i=>QA.enc
  (l.getD i ⟨0,0⟩),Kc (.int true .i64 0) (.int true .i64 0) (Qe (cs.getD k ⟨0,0⟩).cell true has') h' (KM (cs.getD k ⟨0,0⟩).cell (.int false .i64 (i64.wrap (toI
  (.int false .i64 (QH l2 (cs.getD k ⟨0,0⟩).cell))-1))) fun i => .int false .i64 (QH l2 i)) fun i => .int false .i64 (QH l i),LoopState.ready=LoopState.ready]++(QOo ac
  body)++VX++[0=0,0=0,0=0,0=0,(0:Int)=0,false=false,0=0,0=0,0=0,0=0,Fn.func (76:FuncId)=Fn.func (76:FuncId),0=0,0=0,many'=many',
  n'=n',0=0,f'.length=f'.length,cO=cO,f'.length≤f'.length,QC 2 f'.length (fun i=>QA.enc (f'.getD i ⟨0,0⟩)) fun i=>QA.enc (f'.getD i ⟨0,0⟩),
  moved'=moved',turned'=turned',Fn.func 77=Fn.func (77:FuncId)]++VX++VX++[Fn.func 62=Fn.func (62:FuncId)]++VX++(QF6 C x))):=by kernel_rfl
theorem QTB(C:List (List QB))(ac body:Code)(l:List QB)(has:Int→Bool)(many n:Int)(f:List QB)(moved turned:Int):QL 360 [] ((QHs C ac body f has l many moved n turned x)) (tdE ac body l has many n f moved turned)=(some ([0=0,l.length=l.length]++(QHe ac body has l)++VX ++
  (QDq f many n)++[moved=moved,turned=turned])):=by kernel_rfl
abbrev TdS:=Int×Int×List QB×Int×Int
def tdY(s:TdS)(l:List QB):TdS×Bool:=((i64.wrap (s.1+1),i64.wrap (s.2.1+1),KE s.2.1 l s.2.2.1,mvL l (KE s.2.1 l s.2.2.1) s.2.2.2.1 l.length,tuL l (KE s.2.1 l s.2.2.1) s.2.2.2.2 l.length),true)
def Vm(s:TdS):Prop:=((s.2.1==0)=false→s.2.2.1.length=x.scans.n)
theorem QQ7{x:QE}{s:TdS}{l:List QB}(hs:Vm x s)(hn:l.length=x.scans.n):Vm x (tdY s l).1:=by
 intro _;show(KE s.2.1 l s.2.2.1).length=x.scans.n;unfold KE;split
 ·exact hn
 ·rename_i q;exact hs q
def ZZ(C:List (List QB))(ac body:Code)(l:List QB)(has:Int→Bool)(s:TdS):Res TdS→UC
 | .go s' h'=>tdU x C ac body l has s.1 s.2.1 s.2.2.1 s.2.2.2.1 s.2.2.2.2 h' s'.1 s'.2.1 s'.2.2.1 s'.2.2.2.1 s'.2.2.2.2
 | .stop s' h'=>tdU x C ac body l has s.1 s.2.1 s.2.2.1 s.2.2.2.1 s.2.2.2.2 h' s'.1 s'.2.1 s'.2.2.1 s'.2.2.2.1 s'.2.2.2.2
abbrev TdK:=Nat×TdS×(Int→Bool)
open Classical in
noncomputable def qp(s:TdS):List Prop→Bool:=if k<cs.length∧Vm x s then Qf else fun _=>false
def YX(C:List (List QB))(d:Nat)(l:List QB)(s:TdS)(h:Int→Bool)(c:QB):Res TdS:=onT x C tdY d (l++[c]) s h
noncomputable def qm(P:Program)(x:QE)(C:List (List QB))(ac body:Code)(d:Nat)(cs l:List QB)(t:TdK):Env:=
 mkC P (YZ (qp x cs t.1 t.2.1) (qp x cs t.1 t.2.1) x C (l++[cs.getD t.1 ⟨0,0⟩]) (ZZ x C ac body (l++[cs.getD t.1 ⟨0,0⟩]) (Qe (cs.getD t.1 ⟨0,0⟩).cell true t.2.2) t.2.1 (YX x C d l t.2.1 (Qe (cs.getD t.1 ⟨0,0⟩).cell true t.2.2) (cs.getD t.1 ⟨0,0⟩))))
def WC(C:List (List QB))(ac body:Code)(d:Nat)(cs l:List QB)(t:TdK)(e:Ex)(J:JSt):Prop:=match Jl (Kl x l (YX x C d l)) (cs.drop t.1) t.2.1 t.2.2 with
 | .go s h=>e = .exit 0∧J=tdE ac body l h s.1 s.2.1 s.2.2.1 s.2.2.2.1 s.2.2.2.2
 | .stop _ _=>False
set_option maxHeartbeats 1600000 in
theorem QU9(C:List (List QB))(ac body:Code)(d:Nat)(cs l:List QB)(hcs:cs.length≤1000)(hl:l.length≤1000)(hn:l.length+1+d=x.scans.n):jU (fun t:TdK=>tdJ x C ac body cs l t.2.2 t.2.1.1 t.2.1.2.1 t.2.1.2.2.1 t.2.1.2.2.2.1 t.2.1.2.2.2.2 t.1) (fun t=>t.1≤cs.length∧Vm x t.2.1) (fun t=>cs.length-t.1) (WC x C ac body d cs l) 360 jF GJ (qm Try.prog x C ac body d cs l) (fun t=>hnd (qm Try.prog x C ac body d cs l t) 0) (QX Try.f77 0):=by
 refine⟨fun t g hk => ?_⟩;obtain⟨k,⟨many,n,f,moved,turned⟩,has⟩:=t;obtain⟨hk,hgd⟩:=hk;have hk:k≤cs.length:=hk;have hgd:Vm x (many,n,f,moved,turned):=hgd;obtain⟨s',h',hrec⟩:=W9 (C:=C) (x:=x) (Y:=tdY) (fun _ _=>rfl) d (l++[cs.getD k ⟨0,0⟩]) (many,n,f,moved,turned) (Qe (cs.getD k ⟨0,0⟩).cell true has);have hgd':Vm x s':=QCE (G:=Vm x) (fun s l hs hn=>QQ7 hs hn) d _ _ _ (by simp;omega) hgd hrec
 unfold qm;simp only;have hrec:YX x C d l (many,n,f,moved,turned) (Qe (cs.getD k ⟨0,0⟩).cell true has) (cs.getD k ⟨0,0⟩) = .go s' h':=hrec;rw[hrec];refine Q2 (QY7 (qp x cs k (many,n,f,moved,turned)) (qp x cs k (many,n,f,moved,turned)) x C ac body cs l (l++[cs.getD k ⟨0,0⟩]) has (Qe (cs.getD k ⟨0,0⟩).cell true has) many n f moved turned k h' s'.1 s'.2.1 s'.2.2.1 s'.2.2.2.1 s'.2.2.2.2 g) ?_;refine QG (fun h => ?_) (fun h => ?_)
 ·have h:k<cs.length:=by have:=qdt h;omega
  have hw:=Kn h hcs;have hpb:qp x cs k (many,n,f,moved,turned)=Qf:=by unfold qp;rw[if_pos ⟨h,hgd⟩]
  rw[hpb];have step:=QCn (f:=Kl x l (YX x C d l)) h (many,n,f,moved,turned) has
  have next:∀{s2:TdS} {h2:Int→Bool},Kl x l (YX x C d l) (many,n,f,moved,turned) has (cs.getD k ⟨0,0⟩) = .go s2 h2→∀ e J,WC x C ac body d cs l (k+1,s2,h2) e J→WC x C ac body d cs l (k,(many,n,f,moved,turned),has) e J:=by
   intro s2 h2 he e J hr;unfold WC at hr ⊢;simp only at hr ⊢;rw[step,he];exact hr
  have one:∀ b,JP x l (cs.getD k ⟨0,0⟩)=b→Kl x l (YX x C d l) (many,n,f,moved,turned) has (cs.getD k ⟨0,0⟩)=match b with
    | true => .go (many,n,f,moved,turned) has
    | false=>match Kk x (l++[cs.getD k ⟨0,0⟩])with
     | false => .go (many,n,f,moved,turned) (Qe (cs.getD k ⟨0,0⟩).cell true (Qe (cs.getD k ⟨0,0⟩).cell true has))
     | true => .go s' (Qe (cs.getD k ⟨0,0⟩).cell true h'):=by
   intro b hb;unfold Kl;rw[hb,hrec];cases b
   ·cases Kk x (l++[cs.getD k ⟨0,0⟩])<;>rfl
   ·rfl
  refine QF (by simp;omega) (QF (by simp;omega) (KF fun _ => ?_))
  refine QF rfl (QG (fun hf => ?_) (fun hf=>QF (by simp;omega) (QF rfl (QF (Ke.2 ?_) (QG (fun hq => ?_) (fun hq => ?_))))))
  ·have hf:JP x l (cs.getD k ⟨0,0⟩)=true:=Xr.trans hf;refine⟨(k+1,(many,n,f,moved,turned),has),⟨h,hgd⟩,by show cs.length-(k+1)<cs.length-k;omega,next (one _ hf),rfl,rfl,_,QZV x C ac body cs l has many n f moved turned k (k+1),?_⟩
   repeat' first|with_reducible refine QQ ?_ ?_|exact trivial|with_reducible rfl|exact qlr _|exact qRr|exact QY _ _ _ _|exact JI _ _ _|exact hw|refine And.intro ?_ ?_
  ·repeat' first|with_reducible refine QQ ?_ ?_|exact trivial|with_reducible rfl|exact qlr _|exact qRr|exact QY _ _ _ _|exact WT _ _|exact Zv _ _|exact WV _ _ _ rfl|refine And.intro ?_ ?_
  ·have hf:JP x l (cs.getD k ⟨0,0⟩)=false:=Xr.trans hf;have hq:Kk x (l++[cs.getD k ⟨0,0⟩])=false:=by simpa using hq
   have hp:=QBZ l hl;have hp1:i64.wrap (((l.length+1:Nat):Int)-1)=l.length:=(w64 (by omega) (by omega)).trans (by omega)
   have ho:=one _ hf;rw[hq]at ho;refine QF (by simp[isI]) (QF (by rw[hp1];simp) ?_)
   refine⟨(k+1,(many,n,f,moved,turned),Qe (cs.getD k ⟨0,0⟩).cell true (Qe (cs.getD k ⟨0,0⟩).cell true has)),⟨h,hgd⟩,by show cs.length-(k+1)<cs.length-k;omega,next ho,rfl,rfl,_,QPg x C ac body cs l has (Qe (cs.getD k ⟨0,0⟩).cell true (Qe (cs.getD k ⟨0,0⟩).cell true has)) many n f moved turned k (k+1),?_⟩
   repeat' first|with_reducible refine QQ ?_ ?_|exact trivial|with_reducible rfl|exact qlr _|exact qRr|exact QY _ _ _ _|exact hw|exact hp|exact Nat.le_succ _|exact QCN _ _|exact Hw _ _ _ hl (by simp[toI];rfl) _|refine And.intro ?_ ?_
  ·have hf:JP x l (cs.getD k ⟨0,0⟩)=false:=Xr.trans hf;have hq:Kk x (l++[cs.getD k ⟨0,0⟩])=true:=by simpa using hq
   have hp:=QAh l (cs.getD k ⟨0,0⟩) hl
   have hp1:i64.wrap (((l++[cs.getD k ⟨0,0⟩]).length:Int)-1)=l.length:=by
    rw[List.length_append,List.length_singleton];exact(w64 (by omega) (by omega)).trans (by omega)
   have ho:=one _ hf;rw[hq]at ho;refine QF (Ke.2 ?_) (QF rfl (QF (by rw[hp1];simp) (QG (fun q=>by cases q) (fun _ => ?_))))
   ·repeat' first|with_reducible refine QQ ?_ ?_|exact trivial|with_reducible rfl|exact qlr _|exact qRr|exact QY _ _ _ _|exact WT _ _|exact Zv _ _|exact WV _ _ _ rfl|exact QB7 _ _ hl rfl _|refine And.intro ?_ ?_
   refine⟨(k+1,s',Qe (cs.getD k ⟨0,0⟩).cell true h'),⟨h,hgd'⟩,by show cs.length-(k+1)<cs.length-k;omega,next ho,rfl,rfl,_,QVL x C ac body cs l (l++[cs.getD k ⟨0,0⟩]) k h' (Qe (cs.getD k ⟨0,0⟩).cell true h') s'.1 s'.2.1 s'.2.2.1 s'.2.2.2.1 s'.2.2.2.2 (k+1),?_⟩
   repeat' first|with_reducible refine QQ ?_ ?_|exact trivial|with_reducible rfl|exact qlr _|exact qRr|exact QY _ _ _ _|exact hw|exact hp|exact(by simp:l.length≤(l++[cs.getD k ⟨0,0⟩]).length)|exact QBq _ _|exact QCb _ _ hl rfl _|refine And.intro ?_ ?_
 ·have h:cs.length≤k:=by have:=of_decide_eq_false h;omega
  have he:=QCc (f:=Kl x l (YX x C d l)) h (many,n,f,moved,turned) has;refine⟨tdE ac body l has many n f moved turned,by unfold WC;simp only[he,and_self],rfl,rfl,_,QTB x C ac body l has many n f moved turned,?_⟩
  repeat' first|with_reducible refine QQ ?_ ?_|exact trivial|with_reducible rfl|exact qlr _|exact qRr|exact QY _ _ _ _|exact JI _ _ _|refine And.intro ?_ ?_
def vU(pb:List Prop→Bool)(U:UC):Tab:=Qg Qu 62 (VH pb U)
abbrev tdX(P:Program)(J:JSt)(X:List (Prop×Ex×JSt)):Hnd:={ hnd (mkE P Qu) 2 with loop:=fun _=>KD 360 GJ J X }
noncomputable abbrev QEH:Nat×Blk:=
  (257,.lp LoopState.ready none tdT (Array.mk [12]) (QR Try.f53 0).1 (QR Try.f53 0).2)
noncomputable abbrev QIN:Nat×Blk:=
  (40,.cellsR 0 125 [vi x.d.play.length,vi x.d.play.slack,vi x.d.play.loose,vi x.d.play.damp.lo,.int false .i64
  x.d.play.damp.hi,vi x.d.wide,vi x.d.high,.bool false x.d.turn,.slz 0 0 x.d.ps.n cO,.slz 1 0 x.scans.n cO,.slz 2 0 x.hang.n (Cap.of
  0),vi x.lost,vi x.foreign,.slz 41 0 C.length cO])
noncomputable abbrev QNw:Nat×Blk:=
  (176,.cellsR 0 101 [.fn (Fn.func 62) [.ptr 120 0 0,.ptr 112 0 0,.ptr 104 0 0]])
abbrev QAZ:List CK:=
  [.int .i64,.int .i64,.int .i64,.int .i64,.int .i64,.int .i64,.int .i64,.int .i64,.int .i64,.int .i64,.int .i64,.int .i64,.int .i64,.int .i64,.int .i64,.int .i64,.int
  .i64,.int .i64,.int .i64,.int .i64,.int .i64,.int .i64,.int .i64,.int .i64,.int .i64,.int .i64,.int .i64,.int .i64]
noncomputable abbrev QOe:Nat×Blk:=
  (41,.frz2 false 38 [.int .i64,.int .i64] C.length (fun i=>(QK C i).length) fun i j=>QA.enc ((QK C i).getD j ⟨0,0⟩))
noncomputable abbrev QFE(has:Int→Bool)(l:List QB)(many:Int)(moved:Int)(n:Int)(turned:Int)(x:QE):List (Nat×Blk):=
  [(296,.cells 0 38 [.slz 344 0 l.length cO]),(272,.mpf i64 (.int true .i64 0) has fun i => .int false .i64 (QH l i)),QEH,(200,.cells 0 3 [.int false .i64
  many]),(168,.cells 0 3 [vi n]),(120,.cells 0 38 [.slz 352 0 f.length cO]),(112,.cells 0 92 [vi moved]),(104,.cells 0 92 [.int false .i64
  turned]),(344,.rowz true 56 [.int .i64,.int .i64] l.length fun i=>QA.enc (l.getD i ⟨0,0⟩)),(QIN C x),QNw,(224,.cellsR 0 89 [.ptr 40 0 0]),(352,.rowz true 56 [.int
  .i64,.int .i64] f.length fun i=>QA.enc (f.getD i ⟨0,0⟩)),(0,.frz QAZ x.d.ps.n fun i=>QA.enc (x.d.ps.get i)),(1,.frz QAZ x.scans.n fun i=>QA.enc (x.scans.get i)),
  (2,.frz [.int .i64,.int .i64,.int .i64,.int .i64] x.hang.n fun i=>QA.enc (x.hang.get i)),(QOe C)]
noncomputable abbrev QJb(f2:List QB)(has:Int→Bool)(l:List QB)(m2:Int)(many:Int)(n:Int)(t2:Int)(x:QE):List (Nat×Blk):=
  [(296,.cells 0 38 [.slz 344 0 l.length cO]),(272,.mpf i64 (.int true .i64 0) has fun i => .int false .i64 (QH l i)),QEH,(200,.cells 0 3 [.int false .i64
  (i64.wrap (many+1))]),(168,.cells 0 3 [vi (i64.wrap (n+1))]),(120,.cells 0 38 [.slz 664 0 f2.length cO]),(112,.cells 0 92 [.int false
  .i64 m2]),(104,.cells 0 92 [vi t2]),(344,.rowz true 56 [.int .i64,.int .i64] l.length fun i=>QA.enc (l.getD i ⟨0,0⟩)),(QIN C x),QNw,(224,.cellsR 0 89
  [.ptr 40 0 0]),(664,.rowz true 56 [.int .i64,.int .i64] f2.length fun i=>QA.enc (f2.getD i ⟨0,0⟩)),(0,.frz QAZ x.d.ps.n fun i=>QA.enc (x.d.ps.get i)),(1,.frz QAZ
  x.scans.n fun i=>QA.enc (x.scans.get i)),(2,.frz [.int .i64,.int .i64,.int .i64,.int .i64] x.hang.n fun i=>QA.enc (x.hang.get i)),(QOe C)]
theorem QLg(pb:List Prop→Bool)(x:QE)(C:List (List QB))(l:List QB)(has:Int→Bool)(many n:Int)(f:List QB)(moved turned:Int)(f2:List QB)(m2 t2:Int):(Vx (mkE Try.prog (vU pb (tmU l f n moved turned f2 m2 t2))) (msN Try.prog (vU pb (tmU l f n moved turned f2 m2 t2))) Try.f77 QFb (QBk x C (QR Try.f53 0).1
  (QR Try.f53 0).2 l has many n f moved turned).hp 360 fun v h _=>ZJ GJ v h) = .br ((l.length:Int)==(x.scans.n:Int)) (.need (isI i64 (.int false .i64 (QH l
  (-2:Int)))) (.br (decide (i64.wrap ((x.d.ps.n:Int)-i64.wrap ((l.length:Int)-toI (.int false .i64 (QH l (-2:Int)))))>x.lost)) (.leaf (.bool true true)
  ((QFE C f has l many moved n turned x))) (.need (pb ([n=n,0=0,l.length=l.length,Cap.of 0=Cap.of 0,0=0,0=0,0=0,0=0,0=0,0=0,l.length≤l.length,QC
  2 l.length (fun i=>QA.enc (l.getD i ⟨0,0⟩)) fun i=>QA.enc (l.getD i ⟨0,0⟩),0=0,f.length=f.length,Cap.of 0=Cap.of 0,f.length≤f.length,QC 2 f.length (fun i
  => QA.enc (f.getD i ⟨0,0⟩)) fun i=>QA.enc (f.getD i ⟨0,0⟩),moved=moved,turned=turned])) (.leaf (.bool true true) ((QJb C f2 has l m2 many n t2 x)))))) (.need (decide
  ((0 : Int) ≤ (l.length : Int) ∧ (l.length : Int) < (C.length : Int)) && decide (C.length ≤ C.length)) (.need (decide (l.length < C.length)) (.fail ("a loop")))) := by kernel_rfl
abbrev QHk(l:List QB):List Prop:=
  [true=true,0=0,l.length=l.length,cO=cO,l.length≤l.length,QC 2 l.length (fun i=>QA.enc (l.getD i ⟨0,0⟩)) fun i=>QA.enc (l.getD i ⟨0,0⟩),
  Kc (.int true .i64 0) (.int true .i64 0) has has (fun i => .int false .i64 (QH l i)) fun i => .int false .i64 (QH l i),LoopState.ready=LoopState.ready,(none:Option
  Code)=none,Array.mk [12]=Array.mk [(12:Tmp)],(QR Try.f53 0).1=(QR Try.f53 0).1,(QR Try.f53 0).2=(QR Try.f53 0).2,0=0,0=0,(0:Int)=0,Fn.func
  (62:FuncId)=Fn.func (62:FuncId)]
abbrev Za:List Prop:=
  [0=0,0=0,0=0,0=0]
theorem QXh(C:List (List QB))(l:List QB)(has:Int→Bool)(many n:Int)(f:List QB)(moved turned:Int):QL 360 [(.bool true true)] ((QFE C f has l many moved n turned x)) (Ku (tdU x C (QR Try.f53 0).1 (QR Try.f53 0).2 l has many n f moved turned has many n f moved
  turned))=(some ((QHk has l)++Za++Za++[0=0,0=0,(0:Int)=0,false=false]++Za++[Fn.func (76:FuncId)=Fn.func (76:FuncId),0=0,0=0,many=many,
  n=n,0=0,f.length=f.length,cO=cO,f.length≤f.length,QC 2 f.length (fun i=>QA.enc (f.getD i ⟨0,0⟩)) fun i=>QA.enc (f.getD i ⟨0,0⟩),moved =
  moved,turned=turned])):=by kernel_rfl
theorem QYT(C:List (List QB))(l:List QB)(has:Int→Bool)(many n:Int)(f:List QB)(moved turned:Int)(f2:List QB)(m2 t2:Int)(many' n':Int)(f':List QB)(moved' turned':Int):QL 360 [(.bool true true)] ((QJb C f2 has l m2 many n t2 x)) (Ku (tdU x C (QR Try.f53 0).1 (QR Try.f53 0).2 l has many n f moved turned has many' n' f' moved' turned'))
  = (some ((QHk has l)++Za++Za++[0=0,0=0,(0:Int)=0,false=false]++Za++[Fn.func (76:FuncId)=Fn.func (76:FuncId),0=0,0=0,i64.wrap
  (many+1)=many',i64.wrap (n+1)=n',0=0,f2.length=f'.length,cO=cO,f'.length≤f2.length,QC 2 f'.length (fun i=>QA.enc (f2.getD i ⟨0,
  0⟩)) fun i=>QA.enc (f'.getD i ⟨0,0⟩),m2=moved',t2=turned'])):=by kernel_rfl
noncomputable abbrev QHG(has':Int→Bool)(l:List QB)(many':Int)(moved':Int)(n':Int)(turned':Int):List (Nat×Blk):=
  [(296,.cells 0 38 [.slz 368 0 l.length cO]),(272,.mpf i64 (.int true .i64 0) has' fun i => .int false .i64 (QH l i)),QEH,(200,.cells 0 3 [.int false .i64
  many']),(168,.cells 0 3 [vi n']),(120,.cells 0 38 [.slz 376 0 f'.length cO]),(112,.cells 0 92 [vi moved']),(104,.cells 0 92 [.int false
  .i64 turned']),(368,.rowz true 56 [.int .i64,.int .i64] l.length fun i=>QA.enc (l.getD i ⟨0,0⟩)),(376,.rowz true 56 [.int .i64,.int .i64] f'.length fun i=>QA.enc
  (f'.getD i ⟨0,0⟩))]
theorem QRo(C:List (List QB))(cs l:List QB)(has:Int→Bool)(many n:Int)(f:List QB)(moved turned:Int)(has':Int→Bool)(many' n':Int)(f':List QB)(moved' turned':Int):(Vx (mkE Try.prog Qu) (tdX Try.prog (tdJ x C (QR Try.f53 0).1 (QR Try.f53 0).2 cs l has many n f moved turned 0) [(True,.exit 0,tdE (QR Try.f53 0).1 (QR
  Try.f53 0).2 l has' many' n' f' moved' turned')]) Try.f77 QFb (QBk x C (QR Try.f53 0).1 (QR Try.f53 0).2 l has many n f moved turned).hp 360 fun v h _=>ZJ GJ v h)
  = .br ((l.length:Int)==(x.scans.n:Int)) (.need (isI i64 (.int false .i64 (QH l (-2:Int)))) (.br (decide (i64.wrap ((x.d.ps.n:Int)-i64.wrap
  ((l.length:Int)-toI (.int false .i64 (QH l (-2:Int)))))>x.lost)) (.leaf (.bool true true) ((QFE C f has l many moved n turned x))) (.br (n==0) (.fail
  ("a call without a contract")) (.fail ("a loop"))))) (.need (decide ((0 : Int) ≤ (l.length : Int) ∧ (l.length : Int) < (C.length : Int)) && decide (C.length ≤ C.length)) (.need
  (decide (l.length<C.length)) (.ask (0=0) (.ask (0=0) (.ask (0=0) (.ask (0=0) (.ask (0=0) (.ask (0=0) (.ask (0=0) (.ask (0=0) (.ask (0=0) (.ask (0=0) (.ask (0 =
  0) (.ask ((QK C l.length).length=cs.length) (.ask (Cap.of 0=Cap.of 0) (.ask ((↑(QK C l.length).length:Int)=(cs.length:Int)) (.ask ((0:Int)=0) (.ask (cs.length ≤
  (QK C l.length).length) (.ask (QC 2 cs.length (fun j=>QA.enc ((QK C l.length).getD j ⟨0,0⟩)) fun i=>QA.enc (cs.getD i ⟨0,0⟩)) (.ask (0=0) (.ask (l.length =
  l.length) (.ask (Cap.of 0=Cap.of 0) (.ask (l.length≤l.length) (.ask (QC 2 l.length (fun i=>QA.enc (l.getD i ⟨0,0⟩)) fun i=>QA.enc (l.getD i ⟨0,0⟩)) (.ask (Kc
  (.int true .i64 0) (.int true .i64 0) has has (fun i => .int false .i64 (QH l i)) fun i => .int false .i64 (QH l i)) (.ask (LoopState.ready=LoopState.ready) (.ask ((none :
  Option Code)=none) (.ask (Array.mk [(12:Tmp)]=Array.mk [(12:Tmp)]) (.ask ((QR Try.f53 0).1=(QR Try.f53 0).1) (.ask ((QR Try.f53 0).2=(QR Try.f53 0).2)
  (.ask (0=0) (.ask (0=0) (.ask ((0:Int)=0) (.ask (Fn.func (62:FuncId)=Fn.func (62:FuncId)) (.ask (0=0) (.ask (0=0) (.ask (0=0) (.ask (0=0) (.ask (0=0) (.ask
  (0=0) (.ask (0=0) (.ask (0=0) (.ask (0=0) (.ask (0=0) (.ask ((0:Int)=0) (.ask (false=false) (.ask (0=0) (.ask (0=0) (.ask (0=0) (.ask (0=0) (.ask (Fn.func
  (76:FuncId)=Fn.func (76:FuncId)) (.ask (0=0) (.ask (0=0) (.ask (many=many) (.ask (n=n) (.ask (0=0) (.ask (f.length=f.length) (.ask (Cap.of 0=Cap.of 0) (.ask
  (f.length≤f.length) (.ask (QC 2 f.length (fun i=>QA.enc (f.getD i ⟨0,0⟩)) fun i=>QA.enc (f.getD i ⟨0,0⟩)) (.ask (moved=moved) (.ask (turned=turned) (.ask
  (Fn.func (77:FuncId)=Fn.func (77:FuncId)) (.ask (0=0) (.ask (0=0) (.ask (0=0) (.ask (0=0) (.ask (0=0) (.ask (0=0) (.ask (0=0) (.ask (0=0) (.ask (0=0) (.ask
  (0=0) (.ask (0=0) (.ask (0=0) (.ask (Fn.func (62:FuncId)=Fn.func (62:FuncId)) (.ask (0=0) (.ask (0=0) (.ask (0=0) (.ask (0=0) (.ask (0=0) (.ask (0=0) (.ask
  (x.d.play.length=x.d.play.length) (.ask (x.d.play.slack=x.d.play.slack) (.ask (x.d.play.loose=x.d.play.loose) (.ask (x.d.play.damp.lo=x.d.play.damp.lo) (.ask
  (x.d.play.damp.hi=x.d.play.damp.hi) (.ask (x.d.wide=x.d.wide) (.ask (x.d.high=x.d.high) (.ask (x.d.turn=x.d.turn) (.ask (0=0) (.ask (x.d.ps.n=x.d.ps.n) (.ask (Cap.of 0 =
  Cap.of 0) (.ask (0=0) (.ask (x.scans.n=x.scans.n) (.ask (Cap.of 0=Cap.of 0) (.ask (0=0) (.ask (x.hang.n=x.hang.n) (.ask (Cap.of 0=Cap.of 0) (.ask (x.lost=x.lost) (.ask
  (x.foreign=x.foreign) (.ask (0=0) (.ask (C.length=C.length) (.ask (Cap.of 0=Cap.of 0) (.ask (C.length=C.length) (.ask (Kj 2 C.length (fun i=>(QK C i).length) (fun
  i=>(QK C i).length) (fun i j=>QA.enc ((QK C i).getD j ⟨0,0⟩)) fun i j=>QA.enc ((QK C i).getD j ⟨0,0⟩)) (.ask (x.d.ps.n≤x.d.ps.n) (.ask (QC 28 x.d.ps.n (fun i
  => QA.enc (x.d.ps.get i)) fun i=>QA.enc (x.d.ps.get i)) (.ask (x.scans.n≤x.scans.n) (.ask (QC 28 x.scans.n (fun i=>QA.enc (x.scans.get i)) fun i=>QA.enc
  (x.scans.get i)) (.ask (x.hang.n≤x.hang.n) (.ask (QC 4 x.hang.n (fun i=>QA.enc (x.hang.get i)) fun i=>QA.enc (x.hang.get i)) (.asm (True) (.all (fun(g0:Nat→Value)
  => .leaf (.bool true true) ((QHG f' has' l many' moved' n'
  turned'))))))))))))))))))))))))))))))))))))))))))))))))))))))))))))))))))))))))))))))))))))))))))))))))))))))))))))))))))))):=by kernel_rfl
theorem QWw(C:List (List QB))(l:List QB)(has:Int→Bool)(many n:Int)(f:List QB)(moved turned:Int)(has':Int→Bool)(many' n':Int)(f':List QB)(moved' turned':Int):QL 360 [(.bool true true)] ((QHG f' has' l many' moved' n' turned')) (Ku (tdU x C (QR Try.f53 0).1 (QR Try.f53 0).2 l has many n f moved turned has' many' n' f' moved'
  turned'))=(some ([true=true,0=0,l.length=l.length,cO=cO,l.length≤l.length,QC 2 l.length (fun i=>QA.enc (l.getD i ⟨0,0⟩)) fun i=>QA.enc
  (l.getD i ⟨0,0⟩),Kc (.int true .i64 0) (.int true .i64 0) has' has' (fun i => .int false .i64 (QH l i)) fun i => .int false .i64 (QH l i),LoopState.ready =
  LoopState.ready,(none:Option Code)=none,Array.mk [12]=Array.mk [(12:Tmp)],(QR Try.f53 0).1=(QR Try.f53 0).1,(QR Try.f53 0).2=(QR Try.f53 0).2,0=0,
  0=0,(0:Int)=0,Fn.func (62:FuncId)=Fn.func (62:FuncId)]++Za++Za++[0=0,0=0,(0:Int)=0,false=false]++Za++[Fn.func (76:FuncId)=Fn.func (76
  : FuncId),0=0,0=0,many'=many',n'=n',0=0,f'.length=f'.length,cO=cO,f'.length≤f'.length,QC 2 f'.length (fun i=>QA.enc (f'.getD i ⟨0,0⟩))
  fun i=>QA.enc (f'.getD i ⟨0,0⟩),moved'=moved',turned'=turned'])):=by kernel_rfl
noncomputable abbrev YF:Code:=(QR Try.f53 0).1
noncomputable abbrev YO:Code:=(QR Try.f53 0).2
theorem QKm(C:List (List QB))(ac body:Code)(l:List QB)(has:Int→Bool)(many n:Int)(f:List QB)(moved turned:Int)(has':Int→Bool)(many' n':Int)(f':List QB)(moved' turned':Int):(tdU x C ac body l has many n f moved turned has' many' n' f' moved' turned').Ok:=by
 refine⟨(by decide:336≤360),rfl,rfl,?_,rfl,fun _ _=>rfl,fun nid h => ?_⟩
 ·intro q hq;simp only[UC.po,tdU,tdW,rwL,List.mem_cons,List.not_mem_nil,or_false]at hq;rcases hq with rfl|rfl|rfl|rfl|rfl|rfl|rfl|rfl|rfl|rfl<;>refine⟨rfl,rfl,rfl,?_⟩<;>first|exact fun _=>rfl|exact fun h=>absurd (show 360<336 from h) (by decide)|exact fun h=>absurd (show 361<336 from h) (by decide)
 ·have e0:=Xw 336 360 0 nid (by decide)
  have e1:=Xw 336 360 1 nid (by decide)
  simp only[UC.po,tdU,tdW,rwL,QBk,tdT,List.map_cons,List.map_nil,Blk.mapId,AV.mapId,AV.mapIdL,Nat.add_zero]at e0 e1 ⊢;rw[e0,e1];rfl
theorem QTj{x:QE}(hx:JL x)(C:List (List QB))(hpos:0<x.scans.n){l:List QB}(hn:l.length=x.scans.n)(hl:∀ c∈l,JQ c)(s:TdS)(h:Int→Bool)(hgd:Vm x s):QP Try.prog 77 (uFC (ZZ x C YF YO l h s (VF x tdY l s h))):=by
 obtain⟨many,n,f,moved,turned⟩:=s;have hs:=hx.s;have hd:=hx.d.n9;have hgd:Vm x (many,n,f,moved,turned):=hgd;have hT:QZ (vU Qf (tmU l f n moved turned (KE n l f) (mvL l (KE n l f) moved l.length) (tuL l (KE n l f) turned l.length))):=KB.add (QSP l f n moved turned (by omega) (by omega) (fun q=>(hgd q).trans hn.symm))
 have fin:∀(s':TdS),X6 (jf (tdU x C YF YO l h many n f moved turned h s'.1 s'.2.1 s'.2.2.1 s'.2.2.2.1 s'.2.2.2.2)) (VY (mkE Try.prog (vU Qf (tmU l f n moved turned (KE n l f) (mvL l (KE n l f) moved l.length) (tuL l (KE n l f) turned l.length)))) (msN Try.prog (vU Qf (tmU l f n moved turned (KE n l f) (mvL l (KE n l f) moved l.length) (tuL l (KE n l f) turned l.length)))) Try.f77 (tdU x C YF YO l h many n f moved turned h s'.1 s'.2.1 s'.2.2.1 s'.2.2.2.1 s'.2.2.2.2))→QP Try.prog 77 (uFC (tdU x C YF YO l h many n f moved turned h s'.1 s'.2.1 s'.2.2.1 s'.2.2.2.1 s'.2.2.2.2)):=fun s' hd=>
  Ju (E:=mkE Try.prog (vU Qf (tmU l f n moved turned (KE n l f) (mvL l (KE n l f) moved l.length) (tuL l (KE n l f) turned l.length)))) (QT hT) Try.func77 (by kernel_rfl) (by kernel_rfl) (QKm ..) (fun G h1 _=>QA5 _ hT G h1) ⟨hd⟩
 have he:=QF8 (x:=x) (l:=l) (by omega) (by omega)
 cases hb:YW x l with
 | true=>
  rw[hb]at he;simp only[VF,hb,ZZ];refine fin (many,n,f,moved,turned) (Q2 (QLg Qf x C l h many n f moved turned (KE n l f) (mvL l (KE n l f) moved l.length) (tuL l (KE n l f) turned l.length)) ?_);refine QG (fun _=>QF rfl (QG (fun _ => ?_) (fun q=>Bool.noConfusion (show true=false from he.symm.trans q)))) (fun q=>by rw[hn]at q;simp at q)
  refine⟨rfl,rfl,_,QXh x C l h many n f moved turned,?_⟩
  repeat' first|with_reducible refine QQ ?_ ?_|exact trivial|with_reducible rfl|exact qlr _|exact qRr|exact QY _ _ _ _|exact JI _ _ _|refine And.intro ?_ ?_
 | false=>
  rw[hb]at he;simp only[VF,hb,tdY,ZZ];refine fin (tdY (many,n,f,moved,turned) l).1 (Q2 (QLg Qf x C l h many n f moved turned (KE n l f) (mvL l (KE n l f) moved l.length) (tuL l (KE n l f) turned l.length)) ?_);refine QG (fun _=>QF rfl (QG (fun q=>Bool.noConfusion (show true=false from q.symm.trans he)) (fun _=>QF (Ke.2 ?_) ?_))) (fun q=>by rw[hn]at q;simp at q)
  ·repeat' first|with_reducible refine QQ ?_ ?_|exact trivial|with_reducible rfl|exact qlr _|exact qRr|exact QY _ _ _ _|refine And.intro ?_ ?_
  refine⟨rfl,rfl,_,QYT x C l h many n f moved turned (KE n l f) (mvL l (KE n l f) moved l.length) (tuL l (KE n l f) turned l.length) _ _ _ _ _,?_⟩
  repeat' first|with_reducible refine QQ ?_ ?_|exact trivial|with_reducible rfl|exact qlr _|exact qRr|exact QY _ _ _ _|exact JI _ _ _|exact rfl|refine And.intro ?_ ?_
theorem QVI{x:QE}(hx:JL x){C:List (List QB)}{ac body:Code}{cs l:List QB}(hl:l.length<1000)(hls:∀ c∈l,JQ c)(hcs:∀ c∈cs,JQ c)(IH:∀ c∈cs,∀ s h,Vm x s→QP Try.prog 77 (uFC (ZZ x C ac body (l++[c]) h s (YX x C d l s h c))))(t:TdK):(qm Try.prog x C ac body d cs l t).Sound:=by
 unfold qm qp;split
 ·rename_i hk;have hm:=G6 (z:=(⟨0,0⟩:QB)) hk.1;refine jr ((KB.add (QDM x C _ hx (QFp (by simp) (by simp;omega) ?_))).add (IH _ hm _ _ hk.2))
  intro c hc;rcases List.mem_append.1 hc with h|h
  ·exact hls c h
  ·rw[List.mem_singleton.1 h];exact hcs _ hm
 ·exact jr ((KB.add (qe (by kernel_rfl) _)).add (qe (by kernel_rfl) _))
theorem QQr{x:QE}(hx:JL x){C:List (List QB)}(hC:Yh x C){ac body:Code}{l:List QB}(hl:l.length+(d+1)=x.scans.n)(hls:∀ c∈l,JQ c)(IH:∀ c∈QK C l.length,∀ s h,Vm x s→QP Try.prog 77 (uFC (ZZ x C ac body (l++[c]) h s (YX x C d l s h c))))(s:TdS)(h:Int→Bool)(hgd:Vm x s){X:List (Prop×Ex×JSt)}(hX:∀ e J,WC x C ac body d (QK C l.length) l (0,s,h) e J→∃ y∈X,y.1∧y.2.1=e∧y.2.2=J)(G:Ctx)(hrd:G.rd=none)(hG:G.n=360):
  KC (mkE Try.prog Qu) G (tdX Try.prog (tdJ x C ac body (QK C l.length) l h s.1 s.2.1 s.2.2.1 s.2.2.2.1 s.2.2.2.2 0) X) (Qs Try.f77):=by
 have hs:=hx.s;refine Jj (body:=QX Try.f77 0) (QT KB) hrd (by kernel_rfl) ?_
 have hE:=fun t=>QVI hx (C:=C) (ac:=ac) (body:=body) (d:=d) (cs:=QK C l.length) (l:=l) (by omega) hls (hC.s _) IH t
 refine QCs (E0:=mkE Try.prog Qu) (E:=qm Try.prog x C ac body d (QK C l.length) l) (H:=fun t=>hnd (qm Try.prog x C ac body d (QK C l.length) l t) 0) (n0:=360) (s0:=(0,s,h)) (fun _=>rfl) hE (by omega) (fun t _=>Qy (hE t) 0 G _ hrd) (fun t _=>(by decide:360≤400)) ?_ (QU9 x C ac body d (QK C l.length) l (hC.le _) (by omega) (by omega)) ⟨Nat.zero_le _,hgd⟩ hX
 intro t e J hr;unfold WC at hr;split at hr
 ·rw[hr.2];exact(by decide:360≤400)
 ·exact hr.elim
theorem QS3{x:QE}(hx:JL x){C:List (List QB)}(hC:Yh x C){l:List QB}(hl:l.length+(d+1)=x.scans.n)(hls:∀ c∈l,JQ c)(IH:∀ c∈QK C l.length,∀ s h,Vm x s→QP Try.prog 77 (uFC (ZZ x C YF YO (l++[c]) h s (YX x C d l s h c))))(s:TdS)(h:Int→Bool)(hgd:Vm x s):QP Try.prog 77 (uFC (ZZ x C YF YO l h s (onT x C tdY (d+1) l s h))):=by
 obtain⟨s',h',he⟩:=W9 (C:=C) (x:=x) (Y:=tdY) (fun _ _=>rfl) (d+1) l s h;rw[he];have hc:Jl (Kl x l (YX x C d l)) (QK C l.length) s h = .go s' h':=he;have hCn:=hC.n;refine Ju (E:=mkE Try.prog Qu) (QT KB) Try.func77 (by kernel_rfl) (by kernel_rfl) (QKm ..) (QQr hx hC hl hls IH s h hgd (X:=[(True,.exit 0,tdE YF YO l h' s'.1 s'.2.1 s'.2.2.1 s'.2.2.2.1 s'.2.2.2.2)]) ?_) ⟨?_⟩
 ·intro e J hr;unfold WC at hr;simp only[List.drop_zero,hc]at hr;exact⟨_,List.mem_cons_self,trivial,hr.1.symm,hr.2.symm⟩
 ·refine Q2 (QRo x C (QK C l.length) l h s.1 s.2.1 s.2.2.1 s.2.2.2.1 s.2.2.2.2 h' s'.1 s'.2.1 s'.2.2.1 s'.2.2.2.1 s'.2.2.2.2) ?_;refine QG (fun q=>by simp at q;omega) (fun _=>QF (by simp;omega) (QF (by simp;omega) ?_))
  repeat' first|refine Qa (p:=_=_) rfl ?_|refine Qa (p:=_≤_) (qlr _) ?_|refine Qa (p:=QC _ _ _ _) (qRr) ?_|refine Qa (p:=Kj _ _ _ _ _ _) (QY _ _ _ _) ?_|refine Qa (p:=Kc _ _ _ _ _ _) (JI _ _ _) ?_
  refine KJ fun _=>KF fun g=>⟨rfl,rfl,_,QWw x C l h s.1 s.2.1 s.2.2.1 s.2.2.2.1 s.2.2.2.2 h' s'.1 s'.2.1 s'.2.2.1 s'.2.2.2.1 s'.2.2.2.2,?_⟩
  repeat' first|with_reducible refine QQ ?_ ?_|exact trivial|with_reducible rfl|exact qlr _|exact qRr|exact QY _ _ _ _|exact JI _ _ _|refine And.intro ?_ ?_
theorem QJg{x:QE}(hx:JL x){C:List (List QB)}(hC:Yh x C)(hpos:0<x.scans.n):∀(d:Nat) (l:List QB) (s:TdS) (h:Int→Bool),l.length+d=x.scans.n→(∀ c∈l,JQ c)→Vm x s→QP Try.prog 77 (uFC (ZZ x C YF YO l h s (onT x C tdY d l s h)))
 | 0,l,s,h,hn,hl,hgd=>QTj hx C hpos (by omega) hl s h hgd
 | d+1,l,s,h,hn,hl,hgd=>QS3 hx hC (by omega) hl (fun c hc s h hgd=>QJg hx hC hpos d (l++[c]) s h (by simp;omega) (fun y hy=>by
   rcases List.mem_append.1 hy with q|q
   ·exact hl y q
   ·rw[List.mem_singleton.1 q];exact hC.s _ c hc) hgd) s h hgd
end Go.Proofs.Ytbpffdkemeoajaa
