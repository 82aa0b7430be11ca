/- - -/
import Derived.Test.YtbpffdkemeoajaaMoz
open Go.IntKind (i64)
set_option maxRecDepth 100000
namespace Go.Proofs.Ytbpffdkemeoajaa
open Go.SX
def tdT:List AV:=[.ptr 40 0 0,.int true .i64 0,.fn (.func 62) [.ptr 120 0 0,.ptr 112 0 0,.ptr 104 0 0],.tup [],.ptr 168 0 0,.ptr 176 0 0,.int true .i64 0,.bool true false,.ptr 200 0 0,.tup [],.ptr 40 0 0,.fn (.func 76) [.ptr 224 0 0],.tup [],.tup [],.tup [],.tup [],.tup [],.tup [],.tup [],.tup [],.tup [],.tup []]
def QDL:List AV:=[.ptr 296 0 0,.ptr 224 0 0,.ptr 280 0 0,.ptr 264 0 0,.ptr 304 0 0]
variable {d:Nat}(C:List (List QC))(ac body:Code)(x:QB)(cs l:List QC)(has:Int→Bool)(k:Nat)(f:List QC)(many n:Int)(has':Int→Bool)(f':List QC)
def tdR(C:List (List QC)):List (Nat×Blk):=
 [(304,.cellsR 0 34 [.fn (.func 77) QDL]),(280,.cellsR 0 63 [.map 272]),(264,.cellsR 0 123 [.yld 257]),(224,.cellsR 0 89 [.ptr 40 0 0]),(176,.cellsR 0 101 [.fn (.func 62) [.ptr 120 0 0,.ptr 112 0 0,.ptr 104 0 0]]),(40,.cellsR 0 125 (srK 41 x C)),ZY false 41 C]++JN 0 x
def tdW(a:Nat)(b:Nat)(has:Int→Bool)(many n:Int)(f:List QC)(moved turned:Int):List (Nat×Blk):=
 [(296,.cells 0 38 [.slz a 0 l.length (.of 0)]),rwL a l,(272,.mpf .i64 (.int true .i64 0) has fun i => .int false .i64 (QP l i)),(257,.lp .ready none tdT #[12] ac body),(200,.cells 0 3 [.int false .i64 many]),(168,.cells 0 3 [.int false .i64 n]),(120,.cells 0 38 [.slz b 0 f.length (.of 0)]),rwL b f,(112,.cells 0 92 [.int false .i64 moved]),(104,.cells 0 92 [.int false .i64 turned])]
def Hr(C:List (List QC))(ac body:Code)(l:List QC)(has:Int→Bool)(many n:Int)(f:List QC)(moved turned:Int):JSt:=
 ⟨5,[(0,.ptr 296 0 0),(1,.ptr 224 0 0),(2,.ptr 280 0 0),(3,.ptr 264 0 0),(4,.ptr 304 0 0)],tdW ac body l 344 352 has many n f moved turned++tdR x C,360⟩
def tdU(C:List (List QC))(ac body:Code)(l:List QC)(has:Int→Bool)(many n:Int)(f:List QC)(moved turned:Int)(has':Int→Bool)(many' n':Int)(f':List QC)(moved' turned':Int):UC:=
 ⟨336,Hr x C ac body l has many n f moved turned,fun _ => .bool false true,fun m=>tdW ac body l m (m+1) has' many' n' f' moved' turned'⟩
def tdJ(C:List (List QC))(ac body:Code)(cs l:List QC)(has:Int→Bool)(many n:Int)(f:List QC)(moved turned:Int)(k:Nat):JSt:=
 ⟨98,[(0,.ptr 296 0 0),(1,.ptr 224 0 0),(2,.ptr 280 0 0),(3,.ptr 264 0 0),(4,.ptr 304 0 0),(48,.slz 384 0 cs.length (.of 0)),(49,.int false .i64 cs.length),(50,.int false .i64 k)],
  (384,.frz [.int .i64,.int .i64] cs.length fun i=>QA.enc (cs.getD i ⟨0,0⟩))::tdW ac body l 368 376 has many n f moved turned++tdR x C,400⟩
def tdE(f:List QC)(moved turned:Int):JSt:=⟨98,[],tdW ac body l 368 376 has many n f moved turned,400⟩
def vG:List Nat:=[296,272,257,200,168,120,112,104]
noncomputable abbrev QCC:List AV:=
  [.nilp,.ptr 98 0 0,.ptr 296 0 0,.ptr 224 0 0,.ptr 280 0 0,.ptr 264 0 0,.ptr 304 0 0,.slz 384 0 cs.length cO,vi (cs.length:Int),.int false .i64
  (i64.wrap ((k:Int)+1))]
noncomputable abbrev jb:Nat×Blk:=
  (257,.lp LoopState.ready none tdT (Array.mk [12]) ac body)
noncomputable abbrev QBe:Nat×Blk:=
  (120,.cells 0 38 [.slz 376 0 f.length cO])
noncomputable abbrev jm:Nat×Blk:=
  (224,.cellsR 0 89 [.ptr 40 0 0])
noncomputable abbrev QDj:Nat×Blk:=
  (304,.cellsR 0 34 [.fn (Fn.func 77) [.ptr 296 0 0,.ptr 224 0 0,.ptr 280 0 0,.ptr 264 0 0,.ptr 304 0 0]])
noncomputable abbrev QCX:Nat×Blk:=
  (384,.frz [.int .i64,.int .i64] cs.length fun i=>QA.enc (cs.getD i ⟨0,0⟩))
noncomputable abbrev vb:Nat×Blk:=
  (40,.cellsR 0 125 [vi x.d.play.length,vi x.d.play.slack,vi x.d.play.loose,vi x.d.play.damp.lo,.int false .i64
  x.d.play.damp.hi,vi x.d.wide,vi x.d.high,.bool false x.d.turn,.slz 0 0 x.d.ps.n cO,.slz 1 0 x.scans.n cO,.slz 2 0 x.hang.n (Cap.of
  0),vi x.lost,vi x.foreign,.slz 41 0 C.length cO])
noncomputable abbrev j8:Nat×Blk:=
  (176,.cellsR 0 101 [.fn (Fn.func 62) [.ptr 120 0 0,.ptr 112 0 0,.ptr 104 0 0]])
noncomputable abbrev QDq:Nat×Blk:=
  (376,.rowz true 56 [.int .i64,.int .i64] f.length fun i=>QA.enc (f.getD i ⟨0,0⟩))
abbrev X1:List CK:=
  [.int .i64,.int .i64,.int .i64,.int .i64,.int .i64,.int .i64,.int .i64,.int .i64,.int .i64,.int .i64,.int .i64,.int .i64,.int .i64,.int .i64,.int .i64,.int .i64,.int
  .i64,.int .i64,.int .i64,.int .i64,.int .i64,.int .i64,.int .i64,.int .i64,.int .i64,.int .i64,.int .i64,.int .i64]
noncomputable abbrev j9:Nat×Blk:=
  (2,.frz [.int .i64,.int .i64,.int .i64,.int .i64] x.hang.n fun i=>QA.enc (x.hang.get i))
noncomputable abbrev vD:Nat×Blk:=
  (41,.frz2 false 38 [.int .i64,.int .i64] C.length (fun i=>(QN C i).length) fun i j=>QA.enc ((QN C i).getD j ⟨0,0⟩))
noncomputable abbrev QKV(has:Int→Bool)(l:List QC)(many:Int)(moved:Int)(n:Int)(turned:Int)(x:QB):List (Nat×Blk):=
  [(296,.cells 0 38 [.slz 368 0 l.length cO]),(272,.mpf i64 (.int true .i64 0) has fun i => .int false .i64 (QP l i)),(jb ac body),(200,.cells 0 3 [.int
  false .i64 many]),(168,.cells 0 3 [vi n]),(QBe f),(112,.cells 0 92 [vi moved]),(104,.cells 0 92 [vi turned]),jm,(280,.cellsR 0
  63 [.map 272]),(264,.cellsR 0 123 [.yld 257]),QDj,(QCX cs),(368,.rowz true 56 [.int .i64,.int .i64] l.length fun i=>QA.enc (l.getD i ⟨0,0⟩)),(vb C x),j8,
  (QDq f),(0,.frz X1 x.d.ps.n fun i=>QA.enc (x.d.ps.get i)),(1,.frz X1 x.scans.n fun i=>QA.enc (x.scans.get i)),(j9 x),(vD C)]
noncomputable abbrev Gk:List AV:=
  [vi (cs.getD k ⟨0,0⟩).cell,vi (cs.getD k ⟨0,0⟩).turn]
noncomputable abbrev QH7(has:Int→Bool)(k:Nat)(l:List QC)(many:Int)(moved:Int)(n:Int)(turned:Int)(x:QB):List (Nat×Blk):=
  [(296,.cells 0 38 [.slz 1064 0 (i64.wrap ((↑(l.length+1):Int)-1)).toNat cO]),(272,.mpf i64 (.int true .i64 0) (Qq (cs.getD k ⟨0,0⟩).cell true
  (Qq (cs.getD k ⟨0,0⟩).cell true has)) (KP (cs.getD k ⟨0,0⟩).cell (.int false .i64 (i64.wrap (toI (Bool.rec ((fun _=>(fun i => .int false .i64 (QP l i)) ((fun i=>
  QA.enc (cs.getD i ⟨0,0⟩)) ((k:Int).toNat+0) 0)) ()) ((fun _ => .int false .i64 (i64.wrap (toI ((fun i => .int false .i64 (QP l i)) ((fun i=>QA.enc (cs.getD i
  ⟨0,0⟩)) ((k:Int).toNat+0) 0))+1))) ()) (decide ((fun i=>QA.enc (cs.getD i ⟨0,0⟩)) ((k:Int).toNat+0) 0=(fun i=>QA.enc (cs.getD i ⟨0,0⟩)) ((k:Int).toNat+0)
  0)))-1))) (KP (cs.getD k ⟨0,0⟩).cell (.int false .i64 (i64.wrap (toI (.int false .i64 (QP l (cs.getD k ⟨0,0⟩).cell))+1))) fun i => .int false .i64 (QP l i)))),
  (jb ac body),(200,.cells 0 3 [vi many]),(168,.cells 0 3 [vi n]),(QBe f),(112,.cells 0 92 [vi moved]),(104,.cells 0 92 [.int
  false .i64 turned]),jm,(280,.cellsR 0 63 [.map 272]),(264,.cellsR 0 123 [.yld 257]),QDj,(QCX cs),(1064,.rowz true 56 [.int .i64,.int .i64] (l.length+1) (Qd
  l.length (fun i=>QA.enc (l.getD i ⟨0,0⟩)) (QS [(Gk cs k)] 0))),(vb C x),j8,(QDq f),(0,.frz X1 x.d.ps.n fun i=>QA.enc (x.d.ps.get i)),(1,.frz X1
  x.scans.n fun i=>QA.enc (x.scans.get i)),(j9 x),(vD C)]
noncomputable abbrev QI8(k:Nat)(l2:List QC):Nat×Blk:=
  (272,.mpf i64 (.int true .i64 0) (Qq (cs.getD k ⟨0,0⟩).cell true has') (KP (cs.getD k ⟨0,0⟩).cell (.int false .i64 (i64.wrap (toI (.int false .i64 (QP l2
  (cs.getD k ⟨0,0⟩).cell))-1))) fun i => .int false .i64 (QP l2 i)))
noncomputable abbrev QJg(has':Int→Bool)(k:Nat)(l2:List QC)(many':Int)(moved':Int)(n':Int)(turned':Int)(x:QB):List (Nat×Blk):=
  [(296,.cells 0 38 [.slz 1176 0 (i64.wrap ((l2.length:Int)-1)).toNat cO]),(QI8 cs has' k l2),(jb ac body),(200,.cells 0 3 [vi many']),
  (168,.cells 0 3 [vi n']),(120,.cells 0 38 [.slz 1177 0 f'.length cO]),(112,.cells 0 92 [vi moved']),(104,.cells 0 92 [.int false .i64
  turned']),jm,(280,.cellsR 0 63 [.map 272]),(264,.cellsR 0 123 [.yld 257]),QDj,(QCX cs),(1176,.rowz true 56 [.int .i64,.int .i64] l2.length fun i=>QA.enc
  (l2.getD i ⟨0,0⟩)),(vb C x),j8,(1177,.rowz true 56 [.int .i64,.int .i64] f'.length fun i=>QA.enc (f'.getD i ⟨0,0⟩)),(0,.frz X1 x.d.ps.n fun i=>QA.enc
  (x.d.ps.get i)),(1,.frz X1 x.scans.n fun i=>QA.enc (x.scans.get i)),(j9 x),(vD C)]
noncomputable abbrev QK3(has:Int→Bool)(l:List QC)(many:Int)(moved:Int)(n:Int)(turned:Int)(x:QB):List (Nat×Blk):=
  [(296,.cells 0 38 [.slz 368 0 l.length cO]),(272,.mpf i64 (.int true .i64 0) has fun i => .int false .i64 (QP l i)),(jb ac body),(200,.cells 0 3 [.int
  false .i64 many]),(168,.cells 0 3 [vi n]),(QBe f),(112,.cells 0 92 [vi moved]),(104,.cells 0 92 [vi turned]),(368,.rowz true 56
  [.int .i64,.int .i64] l.length fun i=>QA.enc (l.getD i ⟨0,0⟩)),(vb C x),j8,jm,(QDq f),(0,.frz X1 x.d.ps.n fun i=>QA.enc (x.d.ps.get i)),(1,.frz X1
  x.scans.n fun i=>QA.enc (x.scans.get i)),(j9 x),(vD C)]
theorem QW6(pb1 pb2:List Prop→Bool)(x:QB)(C:List (List QC))(ac body:Code)(cs l l2:List QC)(has has2:Int→Bool)(many n:Int)(f:List QC)(moved turned:Int)(k:Nat)(has':Int→Bool)(many' n':Int)(f':List QC)(moved' turned':Int)(g:Nat→Value):exec (mkC Try.prog (W4 pb1 pb2 x C l2 (tdU x C ac body l2 has2 many n f moved turned has' many' n' f' moved' turned'))) (hnd (mkC Try.prog (W4 pb1 pb2 x C l2 (tdU x C ac
  body l2 has2 many n f moved turned has' many' n' f' moved' turned'))) 0) (QV Try.f77 0) (JSt.inst (tdJ x C ac body cs l has many n f moved turned k) g) (KH vG zm) = .br
  (decide ((k:Int)<(cs.length:Int))) (.need (decide ((0:Int)≤(k:Int)∧(k:Int)<(cs.length:Int))&&decide (cs.length≤cs.length)) (.need (decide (k<cs.length))
  (.all (fun(g0:Nat→Value) => .need (isI i64 (.int false .i64 (QP l (cs.getD k ⟨0,0⟩).cell))) (.br (decide (toI (.int false .i64 (QP l (cs.getD k ⟨0,0⟩).cell)) ≥
  bif (cs.getD k ⟨0,0⟩).cell == -2 then x.foreign else (1:Int))) (.leaf (.tup (QCC cs k)) ((QKV C ac body cs f has l many moved n turned x))) (.need (decide (l.length≤l.length)
  && (true&&decide ((l.length+1+(l.length+1) / 4+192)*16≤281474976710656∧l.length+1≤9223372036854775807))) (.need (isI i64 (.int false .i64 (QP l
  (cs.getD k ⟨0,0⟩).cell))) (.need (pb1 ([0=0,0=0,0=0,l.length+1=l2.length,cO=cO,l2.length≤l.length+1,QE 2 l2.length (Qd l.length (fun i=>
  QA.enc (l.getD i ⟨0,0⟩)) (QS [(Gk cs k)] 0)) fun i=>QA.enc (l2.getD i ⟨0,0⟩),x.d.play.length=x.d.play.length,x.d.play.slack=x.d.play.slack,x.d.play.loose =
  x.d.play.loose,x.d.play.damp.lo=x.d.play.damp.lo,x.d.play.damp.hi=x.d.play.damp.hi,x.d.wide=x.d.wide,x.d.high=x.d.high,x.d.turn=x.d.turn,0=0,x.d.ps.n=x.d.ps.n,
  cO=cO,0=0,x.scans.n=x.scans.n,cO=cO,0=0,x.hang.n=x.hang.n,cO=cO,x.lost=x.lost,x.foreign=x.foreign,0=0,C.length =
  C.length,cO=cO,C.length=C.length,Kv 2 C.length (fun i=>(QN C i).length) (fun i=>(QN C i).length) (fun i j=>QA.enc ((QN C i).getD j ⟨0,0⟩)) fun
  i j=>QA.enc ((QN C i).getD j ⟨0,0⟩),x.d.ps.n≤x.d.ps.n,QE 28 x.d.ps.n (fun i=>QA.enc (x.d.ps.get i)) fun i=>QA.enc (x.d.ps.get i),x.scans.n≤x.scans.n,
  QE 28 x.scans.n (fun i=>QA.enc (x.scans.get i)) fun i=>QA.enc (x.scans.get i),x.hang.n≤x.hang.n,QE 4 x.hang.n (fun i=>QA.enc (x.hang.get i)) fun i=>
  QA.enc (x.hang.get i)])) (.br (!JD x l2) (.need (isI i64 (Bool.rec ((fun _=>(fun i => .int false .i64 (QP l i)) ((fun i=>QA.enc (cs.getD i ⟨0,0⟩)) ((k :
  Int).toNat+0) 0)) ()) ((fun _ => .int false .i64 (i64.wrap (toI ((fun i => .int false .i64 (QP l i)) ((fun i=>QA.enc (cs.getD i ⟨0,0⟩)) ((k:Int).toNat+0) 0)) +
  1))) ()) (decide ((fun i=>QA.enc (cs.getD i ⟨0,0⟩)) ((k:Int).toNat+0) 0=(fun i=>QA.enc (cs.getD i ⟨0,0⟩)) ((k:Int).toNat+0) 0)))) (.need (decide ((0:Int) ≤
  i64.wrap ((↑(l.length+1):Int)-1)∧(i64.wrap ((↑(l.length+1):Int)-1)).toNat≤l.length+1-0)) (.leaf (.tup (QCC cs k)) ((QH7 C ac body cs f has k l
  many moved n turned x))))) (.need (pb2 ([0=0,0=0,0=0,0=0,0=0,0=0,0=0,0=0,0=0,0=0,0=0,l.length+1=l2.length,cO=cO,l2.length ≤
  l.length+1,QE 2 l2.length (Qd l.length (fun i=>QA.enc (l.getD i ⟨0,0⟩)) (QS [(Gk cs k)] 0)) fun i=>QA.enc (l2.getD i ⟨0,0⟩),K7 (.int true .i64 0) (.int
  true .i64 0) (Qq (cs.getD k ⟨0,0⟩).cell true has) has2 (KP (cs.getD k ⟨0,0⟩).cell (.int false .i64 (i64.wrap (toI (.int false .i64 (QP l (cs.getD k ⟨0,0⟩).cell)) +
  1))) fun i => .int false .i64 (QP l i)) fun i => .int false .i64 (QP l2 i),LoopState.ready=LoopState.ready,(none:Option Code)=none,Array.mk [12]=Array.mk [12],ac =
  ac,body=body,0=0,0=0,(0:Int)=0,Fn.func 62=Fn.func 62,0=0,0=0,0=0,0=0,0=0,0=0,0=0,0=0,0=0,0=0,(0:Int)=0,false=false,0=0,0 =
  0,0=0,0=0,Fn.func 76=Fn.func 76,0=0,0=0,many=many,n=n,0=0,f.length=f.length,cO=cO,f.length≤f.length,QE 2 f.length (fun i=>
  QA.enc (f.getD i ⟨0,0⟩)) fun i=>QA.enc (f.getD i ⟨0,0⟩),moved=moved,turned=turned,Fn.func 77=Fn.func 77,0=0,0=0,0=0,0=0,0=0,0=0,0=0,0=0,0 =
  0,0=0,0=0,0=0,Fn.func 62=Fn.func 62,0=0,0=0,0=0,0=0,0=0,0=0,x.d.play.length=x.d.play.length,x.d.play.slack=x.d.play.slack,x.d.play.loose =
  x.d.play.loose,x.d.play.damp.lo=x.d.play.damp.lo,x.d.play.damp.hi=x.d.play.damp.hi,x.d.wide=x.d.wide,x.d.high=x.d.high,x.d.turn=x.d.turn,0=0,x.d.ps.n=x.d.ps.n,
  cO=cO,0=0,x.scans.n=x.scans.n,cO=cO,0=0,x.hang.n=x.hang.n,cO=cO,x.lost=x.lost,x.foreign=x.foreign,0=0,C.length =
  C.length,cO=cO,C.length=C.length,Kv 2 C.length (fun i=>(QN C i).length) (fun i=>(QN C i).length) (fun i j=>QA.enc ((QN C i).getD j ⟨0,0⟩)) fun
  i j=>QA.enc ((QN C i).getD j ⟨0,0⟩),x.d.ps.n≤x.d.ps.n,QE 28 x.d.ps.n (fun i=>QA.enc (x.d.ps.get i)) fun i=>QA.enc (x.d.ps.get i),x.scans.n≤x.scans.n,
  QE 28 x.scans.n (fun i=>QA.enc (x.scans.get i)) fun i=>QA.enc (x.scans.get i),x.hang.n≤x.hang.n,QE 4 x.hang.n (fun i=>QA.enc (x.hang.get i)) fun i=>
  QA.enc (x.hang.get i)])) (.need (isI i64 (.int false .i64 (QP l2 (cs.getD k ⟨0,0⟩).cell))) (.need (decide ((0:Int)≤i64.wrap ((l2.length:Int)-1) ∧
  (i64.wrap ((l2.length:Int)-1)).toNat≤l2.length-0)) (.br (false) (.leaf (.tup [.nili,.ptr 98 0 0,.bool true false]) ([(296,.cells 0 38 [.slz 1176 0
  (i64.wrap ((l2.length:Int)-1)).toNat cO]),(QI8 cs has' k l2),(jb ac body),(200,.cells 0 3 [vi many']),(168,.cells 0 3 [.int false .i64
  n']),(120,.cells 0 38 [.slz 1177 0 f'.length cO]),(112,.cells 0 92 [vi moved']),(104,.cells 0 92 [vi turned']),(1176,.rowz true 56 [.int
  .i64,.int .i64] l2.length fun i=>QA.enc (l2.getD i ⟨0,0⟩)),(vb C x),j8,jm,(1177,.rowz true 56 [.int .i64,.int .i64] f'.length fun i=>QA.enc (f'.getD i ⟨0,
  0⟩)),(0,.frz X1 x.d.ps.n fun i=>QA.enc (x.d.ps.get i)),(1,.frz X1 x.scans.n fun i=>QA.enc (x.scans.get i)),(j9 x),(vD C)])) (.leaf (.tup (QCC cs k)) ((QJg C
  ac body cs f' has' k l2 many' moved' n' turned' x)))))))))))))))) (.leaf (.tup [.ptr 0 0 0,.ptr 98 0 0]) ((QK3 C ac body f has l many moved n turned x))):=by kernel_rfl
noncomputable abbrev QB0:List AV:=
  [.ptr 296 0 0,.ptr 224 0 0,.ptr 280 0 0,.ptr 264 0 0,.ptr 304 0 0,.slz 384 0 cs.length cO,vi (cs.length:Int),vi (i64.wrap ((k :
  Int)+1))]
abbrev Ju:List Prop:=
  [0=0,0=0,0=0,0=0,0=0,0=0]
abbrev QBD(k':Nat):List Prop:=
  [0=0,0=0,0=0,0=0,0=0,cs.length=cs.length,cO=cO,(cs.length:Int)=(cs.length:Int),i64.wrap ((k:Int)+1)=(k':Int),cs.length ≤
  cs.length,QE 2 cs.length (fun i=>QA.enc (cs.getD i ⟨0,0⟩)) fun i=>QA.enc (cs.getD i ⟨0,0⟩),0=0]
abbrev QFF(l:List QC):List Prop:=
  [cO=cO,l.length≤l.length,QE 2 l.length (fun i=>QA.enc (l.getD i ⟨0,0⟩)) fun i=>QA.enc (l.getD i ⟨0,0⟩),K7 (.int true .i64 0) (.int true .i64 0)
  has has (fun i => .int false .i64 (QP l i)) fun i => .int false .i64 (QP l i),LoopState.ready=LoopState.ready,(none:Option Code)=none,Array.mk [12]=Array.mk [(12 :
  Tmp)],ac=ac,body=body,0=0,0=0,(0:Int)=0,Fn.func (62:FuncId)=Fn.func (62:FuncId)]
abbrev QDV:List Prop:=
  [0=0,0=0,0=0,0=0,(0:Int)=0,false=false,0=0,0=0,0=0,0=0,Fn.func (76:FuncId)=Fn.func (76:FuncId),0=0,0=0,many=many,n=n,0=0,
  f.length=f.length,cO=cO,f.length≤f.length,QE 2 f.length (fun i=>QA.enc (f.getD i ⟨0,0⟩)) fun i=>QA.enc (f.getD i ⟨0,0⟩)]
abbrev QCJ:List Prop:=
  [x.d.play.length=x.d.play.length,x.d.play.slack=x.d.play.slack,x.d.play.loose=x.d.play.loose,x.d.play.damp.lo=x.d.play.damp.lo,x.d.play.damp.hi=x.d.play.damp.hi,
  x.d.wide=x.d.wide,x.d.high=x.d.high,x.d.turn=x.d.turn,0=0,x.d.ps.n=x.d.ps.n,cO=cO,0=0,x.scans.n=x.scans.n,cO=cO,0=0,x.hang.n =
  x.hang.n,cO=cO,x.lost=x.lost,x.foreign=x.foreign,0=0,C.length=C.length,cO=cO,C.length=C.length,Kv 2 C.length (fun i=>(QN C
  i).length) (fun i=>(QN C i).length) (fun i j=>QA.enc ((QN C i).getD j ⟨0,0⟩)) fun i j=>QA.enc ((QN C i).getD j ⟨0,0⟩),x.d.ps.n≤x.d.ps.n,QE 28 x.d.ps.n (fun
  i=>QA.enc (x.d.ps.get i)) fun i=>QA.enc (x.d.ps.get i),x.scans.n≤x.scans.n,QE 28 x.scans.n (fun i=>QA.enc (x.scans.get i)) fun i=>QA.enc (x.scans.get i),
  x.hang.n≤x.hang.n,QE 4 x.hang.n (fun i=>QA.enc (x.hang.get i)) fun i=>QA.enc (x.hang.get i)]
theorem QPj(C:List (List QC))(ac body:Code)(cs l:List QC)(has:Int→Bool)(many n:Int)(f:List QC)(moved turned:Int)(k k':Nat):QM 360 (QB0 cs k) ((QKV C ac body cs f has l many moved n turned x)) (tdJ x C ac body cs l has many n f moved turned k')=(some (Ju++(QBD cs k k')++[l.length =
  l.length]++(QFF ac body has l)++Ju++(QDV f many n)++[moved=moved,turned=turned,Fn.func 77=Fn.func (77:FuncId)]++Ju++Ju++[Fn.func 62=Fn.func
  (62:FuncId)]++Ju++(QCJ C x))):=by kernel_rfl
abbrev QLa:List Prop:=
  [(none:Option Code)=none,Array.mk [12]=Array.mk [(12:Tmp)],ac=ac,body=body,0=0,0=0,(0:Int)=0,Fn.func (62:FuncId)=Fn.func (62:FuncId)]
theorem QWm(x:QB)(C:List (List QC))(ac body:Code)(cs l:List QC)(has h':Int→Bool)(many n:Int)(f:List QC)(moved turned:Int)(k k':Nat):QM 360 (QB0 cs k) ((QH7 C ac body cs f has k l many moved n turned x)) (tdJ x C ac body cs l h' many n f moved turned k')=(some (Ju++(QBD cs k k') ++
  [(i64.wrap ((↑(l.length+1):Int)-1)).toNat=l.length,cO=cO,l.length≤l.length+1,QE 2 l.length (Qd l.length (fun i=>QA.enc (l.getD i ⟨0,
  0⟩)) (QS [(Gk cs k)] 0)) fun i=>QA.enc (l.getD i ⟨0,0⟩),K7 (.int true .i64 0) (.int true .i64 0) (Qq (cs.getD k ⟨0,0⟩).cell true (Qq (cs.getD k ⟨0,0⟩).cell true
  has)) h' (KP (cs.getD k ⟨0,0⟩).cell (.int false .i64 (i64.wrap (toI (Bool.rec ((fun x=>(fun i => .int false .i64 (QP l i)) ((fun i=>QA.enc (cs.getD i ⟨0,0⟩)) ((k
  : Int).toNat+0) 0)) ()) ((fun x => .int false .i64 (i64.wrap (toI ((fun i => .int false .i64 (QP l i)) ((fun i=>QA.enc (cs.getD i ⟨0,0⟩)) ((k:Int).toNat+0) 0))
  + 1))) ()) (decide ((fun i=>QA.enc (cs.getD i ⟨0,0⟩)) ((k:Int).toNat+0) 0=(fun i=>QA.enc (cs.getD i ⟨0,0⟩)) ((k:Int).toNat+0) 0)))-1))) (KP (cs.getD k ⟨0,
  0⟩).cell (.int false .i64 (i64.wrap (toI (.int false .i64 (QP l (cs.getD k ⟨0,0⟩).cell))+1))) fun i => .int false .i64 (QP l i))) fun i => .int false .i64 (QP l i),
  LoopState.ready=LoopState.ready]++(QLa ac body)++Ju++(QDV f many n)++[moved=moved,turned=turned,Fn.func 77=Fn.func (77:FuncId)]++Ju++Ju ++
  [Fn.func 62=Fn.func (62:FuncId)]++Ju++(QCJ C x))):=by kernel_rfl
theorem QSX(C:List (List QC))(ac body:Code)(cs l l2:List QC)(k:Nat)(has' h':Int→Bool)(many' n':Int)(f':List QC)(moved' turned':Int)(k':Nat):QM 360 (QB0 cs k) ((QJg C ac body cs f' has' k l2 many' moved' n' turned' x)) (tdJ x C ac body cs l h' many' n' f' moved' turned' k')=(some (Ju++(QBD cs k k') ++
  [(i64.wrap ((l2.length:Int)-1)).toNat=l.length,cO=cO,l.length≤l2.length,QE 2 l.length (fun i=>QA.enc (l2.getD i ⟨0,0⟩)) fun i=>QA.enc
  (l.getD i ⟨0,0⟩),K7 (.int true .i64 0) (.int true .i64 0) (Qq (cs.getD k ⟨0,0⟩).cell true has') h' (KP (cs.getD k ⟨0,0⟩).cell (.int false .i64 (i64.wrap (toI
  (.int false .i64 (QP l2 (cs.getD k ⟨0,0⟩).cell))-1))) fun i => .int false .i64 (QP l2 i)) fun i => .int false .i64 (QP l i),LoopState.ready=LoopState.ready]++(QLa ac
  body)++Ju++[0=0,0=0,0=0,0=0,(0:Int)=0,false=false,0=0,0=0,0=0,0=0,Fn.func (76:FuncId)=Fn.func (76:FuncId),0=0,0=0,many'=many',
  n'=n',0=0,f'.length=f'.length,cO=cO,f'.length≤f'.length,QE 2 f'.length (fun i=>QA.enc (f'.getD i ⟨0,0⟩)) fun i=>QA.enc (f'.getD i ⟨0,0⟩),
  moved'=moved',turned'=turned',Fn.func 77=Fn.func (77:FuncId)]++Ju++Ju++[Fn.func 62=Fn.func (62:FuncId)]++Ju++(QCJ C x))):=by kernel_rfl
theorem QUq(C:List (List QC))(ac body:Code)(l:List QC)(has:Int→Bool)(many n:Int)(f:List QC)(moved turned:Int):QM 360 [] ((QK3 C ac body f has l many moved n turned x)) (tdE ac body l has many n f moved turned)=(some ([0=0,l.length=l.length]++(QFF ac body has l)++Ju ++
  (QDV f many n)++[moved=moved,turned=turned])):=by kernel_rfl
abbrev TdS:=Int×Int×List QC×Int×Int
def tdY(s:TdS)(l:List QC):TdS×Bool:=((i64.wrap (s.1+1),i64.wrap (s.2.1+1),Q6 s.2.1 l s.2.2.1,mvL l (Q6 s.2.1 l s.2.2.1) s.2.2.2.1 l.length,tuL l (Q6 s.2.1 l s.2.2.1) s.2.2.2.2 l.length),true)
def VD(s:TdS):Prop:=((s.2.1==0)=false→s.2.2.1.length=x.scans.n)
theorem QQH{x:QB}{s:TdS}{l:List QC}(hs:VD x s)(hn:l.length=x.scans.n):VD x (tdY s l).1:=by
 intro _;show(Q6 s.2.1 l s.2.2.1).length=x.scans.n;unfold Q6;split
 ·exact hn
 ·rename_i q;exact hs q
def YN(C:List (List QC))(ac body:Code)(l:List QC)(has:Int→Bool)(s:TdS):Res TdS→UC
 | .go s' h'=>tdU x C ac body l has s.1 s.2.1 s.2.2.1 s.2.2.2.1 s.2.2.2.2 h' s'.1 s'.2.1 s'.2.2.1 s'.2.2.2.1 s'.2.2.2.2
 | .stop s' h'=>tdU x C ac body l has s.1 s.2.1 s.2.2.1 s.2.2.2.1 s.2.2.2.2 h' s'.1 s'.2.1 s'.2.2.1 s'.2.2.2.1 s'.2.2.2.2
abbrev TdK:=Nat×TdS×(Int→Bool)
open Classical in
noncomputable def WJ(s:TdS):List Prop→Bool:=if k<cs.length∧VD x s then Qt else fun _=>false
def Xs(C:List (List QC))(d:Nat)(l:List QC)(s:TdS)(h:Int→Bool)(c:QC):Res TdS:=onT x C tdY d (l++[c]) s h
noncomputable def WP(P:Program)(x:QB)(C:List (List QC))(ac body:Code)(d:Nat)(cs l:List QC)(t:TdK):Env:=
 mkC P (W4 (WJ x cs t.1 t.2.1) (WJ x cs t.1 t.2.1) x C (l++[cs.getD t.1 ⟨0,0⟩]) (YN x C ac body (l++[cs.getD t.1 ⟨0,0⟩]) (Qq (cs.getD t.1 ⟨0,0⟩).cell true t.2.2) t.2.1 (Xs x C d l t.2.1 (Qq (cs.getD t.1 ⟨0,0⟩).cell true t.2.2) (cs.getD t.1 ⟨0,0⟩))))
def Zd(C:List (List QC))(ac body:Code)(d:Nat)(cs l:List QC)(t:TdK)(e:Ex)(J:JSt):Prop:=match Ji (JZ x l (Xs x C d l)) (cs.drop t.1) t.2.1 t.2.2 with
 | .go s h=>e = .exit 0∧J=tdE ac body l h s.1 s.2.1 s.2.2.1 s.2.2.2.1 s.2.2.2.2
 | .stop _ _=>False
set_option maxHeartbeats 1600000 in
theorem QSU(C:List (List QC))(ac body:Code)(d:Nat)(cs l:List QC)(hcs:cs.length≤1000)(hl:l.length≤1000)(hn:l.length+1+d=x.scans.n):vC (fun t:TdK=>tdJ x C ac body cs l t.2.2 t.2.1.1 t.2.1.2.1 t.2.1.2.2.1 t.2.1.2.2.2.1 t.2.1.2.2.2.2 t.1) (fun t=>t.1≤cs.length∧VD x t.2.1) (fun t=>cs.length-t.1) (Zd x C ac body d cs l) 360 zm vG (WP Try.prog x C ac body d cs l) (fun t=>hnd (WP Try.prog x C ac body d cs l t) 0) (QV Try.f77 0):=by
 refine⟨fun t g hk => ?_⟩;obtain⟨k,⟨many,n,f,moved,turned⟩,has⟩:=t;obtain⟨hk,hgd⟩:=hk;have hk:k≤cs.length:=hk;have hgd:VD x (many,n,f,moved,turned):=hgd;obtain⟨s',h',hrec⟩:=Zm (C:=C) (x:=x) (Y:=tdY) (fun _ _=>rfl) d (l++[cs.getD k ⟨0,0⟩]) (many,n,f,moved,turned) (Qq (cs.getD k ⟨0,0⟩).cell true has);have hgd':VD x s':=QAU (G:=VD x) (fun s l hs hn=>QQH hs hn) d _ _ _ (by simp;omega) hgd hrec
 unfold WP;simp only;have hrec:Xs x C d l (many,n,f,moved,turned) (Qq (cs.getD k ⟨0,0⟩).cell true has) (cs.getD k ⟨0,0⟩) = .go s' h':=hrec;rw[hrec];refine Q5 (QW6 (WJ x cs k (many,n,f,moved,turned)) (WJ x cs k (many,n,f,moved,turned)) x C ac body cs l (l++[cs.getD k ⟨0,0⟩]) has (Qq (cs.getD k ⟨0,0⟩).cell true has) many n f moved turned k h' s'.1 s'.2.1 s'.2.2.1 s'.2.2.2.1 s'.2.2.2.2 g) ?_;refine QI (fun h => ?_) (fun h => ?_)
 ·have h:k<cs.length:=by have:=qdt h;omega
  have hw:=Ks h hcs;have hpb:WJ x cs k (many,n,f,moved,turned)=Qt:=by unfold WJ;rw[if_pos ⟨h,hgd⟩]
  rw[hpb];have step:=QGl (f:=JZ x l (Xs x C d l)) h (many,n,f,moved,turned) has
  have next:∀{s2:TdS} {h2:Int→Bool},JZ x l (Xs x C d l) (many,n,f,moved,turned) has (cs.getD k ⟨0,0⟩) = .go s2 h2→∀ e J,Zd x C ac body d cs l (k+1,s2,h2) e J→Zd x C ac body d cs l (k,(many,n,f,moved,turned),has) e J:=by
   intro s2 h2 he e J hr;unfold Zd at hr ⊢;simp only at hr ⊢;rw[step,he];exact hr
  have one:∀ b,Jt x l (cs.getD k ⟨0,0⟩)=b→JZ x l (Xs x C d l) (many,n,f,moved,turned) has (cs.getD k ⟨0,0⟩)=match b with
    | true => .go (many,n,f,moved,turned) has
    | false=>match JD x (l++[cs.getD k ⟨0,0⟩])with
     | false => .go (many,n,f,moved,turned) (Qq (cs.getD k ⟨0,0⟩).cell true (Qq (cs.getD k ⟨0,0⟩).cell true has))
     | true => .go s' (Qq (cs.getD k ⟨0,0⟩).cell true h'):=by
   intro b hb;unfold JZ;rw[hb,hrec];cases b
   ·cases JD x (l++[cs.getD k ⟨0,0⟩])<;>rfl
   ·rfl
  refine QG (by simp;omega) (QG (by simp;omega) (KE fun _ => ?_))
  refine QG rfl (QI (fun hf => ?_) (fun hf=>QG (by simp;omega) (QG rfl (QG (JA.2 ?_) (QI (fun hq => ?_) (fun hq => ?_))))))
  ·have hf:Jt x l (cs.getD k ⟨0,0⟩)=true:=W9.trans hf;refine⟨(k+1,(many,n,f,moved,turned),has),⟨h,hgd⟩,by show cs.length-(k+1)<cs.length-k;omega,next (one _ hf),rfl,rfl,_,QPj x C ac body cs l has many n f moved turned k (k+1),?_⟩
   repeat' first|with_reducible refine QR ?_ ?_|exact trivial|with_reducible rfl|exact qlr _|exact qRr|exact Qo _ _ _ _|exact XK _ _ _|exact hw|refine And.intro ?_ ?_
  ·repeat' first|with_reducible refine QR ?_ ?_|exact trivial|with_reducible rfl|exact qlr _|exact qRr|exact Qo _ _ _ _|exact G9 _ _|exact GG _ _|exact Hx _ _ _ rfl|refine And.intro ?_ ?_
  ·have hf:Jt x l (cs.getD k ⟨0,0⟩)=false:=W9.trans hf;have hq:JD x (l++[cs.getD k ⟨0,0⟩])=false:=by simpa using hq
   have hp:=QGf l hl;have hp1:i64.wrap (((l.length+1:Nat):Int)-1)=l.length:=(w64 (by omega) (by omega)).trans (by omega)
   have ho:=one _ hf;rw[hq]at ho;refine QG (by simp[isI]) (QG (by rw[hp1];simp) ?_)
   refine⟨(k+1,(many,n,f,moved,turned),Qq (cs.getD k ⟨0,0⟩).cell true (Qq (cs.getD k ⟨0,0⟩).cell true has)),⟨h,hgd⟩,by show cs.length-(k+1)<cs.length-k;omega,next ho,rfl,rfl,_,QWm x C ac body cs l has (Qq (cs.getD k ⟨0,0⟩).cell true (Qq (cs.getD k ⟨0,0⟩).cell true has)) many n f moved turned k (k+1),?_⟩
   repeat' first|with_reducible refine QR ?_ ?_|exact trivial|with_reducible rfl|exact qlr _|exact qRr|exact Qo _ _ _ _|exact hw|exact hp|exact Nat.le_succ _|exact QIu _ _|exact QFR _ _ _ hl (by simp[toI];rfl) _|refine And.intro ?_ ?_
  ·have hf:Jt x l (cs.getD k ⟨0,0⟩)=false:=W9.trans hf;have hq:JD x (l++[cs.getD k ⟨0,0⟩])=true:=by simpa using hq
   have hp:=QHT l (cs.getD k ⟨0,0⟩) hl
   have hp1:i64.wrap (((l++[cs.getD k ⟨0,0⟩]).length:Int)-1)=l.length:=by
    rw[List.length_append,List.length_singleton];exact(w64 (by omega) (by omega)).trans (by omega)
   have ho:=one _ hf;rw[hq]at ho;refine QG (JA.2 ?_) (QG rfl (QG (by rw[hp1];simp) (QI (fun q=>by cases q) (fun _ => ?_))))
   ·repeat' first|with_reducible refine QR ?_ ?_|exact trivial|with_reducible rfl|exact qlr _|exact qRr|exact Qo _ _ _ _|exact G9 _ _|exact GG _ _|exact Hx _ _ _ rfl|exact QL5 _ _ hl rfl _|refine And.intro ?_ ?_
   refine⟨(k+1,s',Qq (cs.getD k ⟨0,0⟩).cell true h'),⟨h,hgd'⟩,by show cs.length-(k+1)<cs.length-k;omega,next ho,rfl,rfl,_,QSX x C ac body cs l (l++[cs.getD k ⟨0,0⟩]) k h' (Qq (cs.getD k ⟨0,0⟩).cell true h') s'.1 s'.2.1 s'.2.2.1 s'.2.2.2.1 s'.2.2.2.2 (k+1),?_⟩
   repeat' first|with_reducible refine QR ?_ ?_|exact trivial|with_reducible rfl|exact qlr _|exact qRr|exact Qo _ _ _ _|exact hw|exact hp|exact(by simp:l.length≤(l++[cs.getD k ⟨0,0⟩]).length)|exact QLt _ _|exact QMj _ _ hl rfl _|refine And.intro ?_ ?_
 ·have h:cs.length≤k:=by have:=of_decide_eq_false h;omega
  have he:=QFN (f:=JZ x l (Xs x C d l)) h (many,n,f,moved,turned) has;refine⟨tdE ac body l has many n f moved turned,by unfold Zd;simp only[he,and_self],rfl,rfl,_,QUq x C ac body l has many n f moved turned,?_⟩
  repeat' first|with_reducible refine QR ?_ ?_|exact trivial|with_reducible rfl|exact qlr _|exact qRr|exact Qo _ _ _ _|exact XK _ _ _|refine And.intro ?_ ?_
def Wv(pb:List Prop→Bool)(U:UC):Tab:=Qh Qu 62 (J1 pb U)
abbrev tdX(P:Program)(J:JSt)(X:List (Prop×Ex×JSt)):Hnd:={ hnd (mkE P Qu) 2 with loop:=fun _=>KD 360 vG J X }
noncomputable abbrev QBk:Nat×Blk:=
  (257,.lp LoopState.ready none tdT (Array.mk [12]) (Qj Try.f53 0).1 (Qj Try.f53 0).2)
noncomputable abbrev QIZ:Nat×Blk:=
  (40,.cellsR 0 125 [vi x.d.play.length,vi x.d.play.slack,vi x.d.play.loose,vi x.d.play.damp.lo,.int false .i64
  x.d.play.damp.hi,vi x.d.wide,vi x.d.high,.bool false x.d.turn,.slz 0 0 x.d.ps.n cO,.slz 1 0 x.scans.n cO,.slz 2 0 x.hang.n (Cap.of
  0),vi x.lost,vi x.foreign,.slz 41 0 C.length cO])
noncomputable abbrev QEk:Nat×Blk:=
  (176,.cellsR 0 101 [.fn (Fn.func 62) [.ptr 120 0 0,.ptr 112 0 0,.ptr 104 0 0]])
abbrev QAq:List CK:=
  [.int .i64,.int .i64,.int .i64,.int .i64,.int .i64,.int .i64,.int .i64,.int .i64,.int .i64,.int .i64,.int .i64,.int .i64,.int .i64,.int .i64,.int .i64,.int .i64,.int
  .i64,.int .i64,.int .i64,.int .i64,.int .i64,.int .i64,.int .i64,.int .i64,.int .i64,.int .i64,.int .i64,.int .i64]
noncomputable abbrev QG1:Nat×Blk:=
  (41,.frz2 false 38 [.int .i64,.int .i64] C.length (fun i=>(QN C i).length) fun i j=>QA.enc ((QN C i).getD j ⟨0,0⟩))
noncomputable abbrev QBE(has:Int→Bool)(l:List QC)(many:Int)(moved:Int)(n:Int)(turned:Int)(x:QB):List (Nat×Blk):=
  [(296,.cells 0 38 [.slz 344 0 l.length cO]),(272,.mpf i64 (.int true .i64 0) has fun i => .int false .i64 (QP l i)),QBk,(200,.cells 0 3 [.int false .i64
  many]),(168,.cells 0 3 [vi n]),(120,.cells 0 38 [.slz 352 0 f.length cO]),(112,.cells 0 92 [vi moved]),(104,.cells 0 92 [.int false .i64
  turned]),(344,.rowz true 56 [.int .i64,.int .i64] l.length fun i=>QA.enc (l.getD i ⟨0,0⟩)),(QIZ C x),QEk,(224,.cellsR 0 89 [.ptr 40 0 0]),(352,.rowz true 56 [.int
  .i64,.int .i64] f.length fun i=>QA.enc (f.getD i ⟨0,0⟩)),(0,.frz QAq x.d.ps.n fun i=>QA.enc (x.d.ps.get i)),(1,.frz QAq x.scans.n fun i=>QA.enc (x.scans.get i)),
  (2,.frz [.int .i64,.int .i64,.int .i64,.int .i64] x.hang.n fun i=>QA.enc (x.hang.get i)),(QG1 C)]
noncomputable abbrev QMD(f2:List QC)(has:Int→Bool)(l:List QC)(m2:Int)(many:Int)(n:Int)(t2:Int)(x:QB):List (Nat×Blk):=
  [(296,.cells 0 38 [.slz 344 0 l.length cO]),(272,.mpf i64 (.int true .i64 0) has fun i => .int false .i64 (QP l i)),QBk,(200,.cells 0 3 [.int false .i64
  (i64.wrap (many+1))]),(168,.cells 0 3 [vi (i64.wrap (n+1))]),(120,.cells 0 38 [.slz 664 0 f2.length cO]),(112,.cells 0 92 [.int false
  .i64 m2]),(104,.cells 0 92 [vi t2]),(344,.rowz true 56 [.int .i64,.int .i64] l.length fun i=>QA.enc (l.getD i ⟨0,0⟩)),(QIZ C x),QEk,(224,.cellsR 0 89
  [.ptr 40 0 0]),(664,.rowz true 56 [.int .i64,.int .i64] f2.length fun i=>QA.enc (f2.getD i ⟨0,0⟩)),(0,.frz QAq x.d.ps.n fun i=>QA.enc (x.d.ps.get i)),(1,.frz QAq
  x.scans.n fun i=>QA.enc (x.scans.get i)),(2,.frz [.int .i64,.int .i64,.int .i64,.int .i64] x.hang.n fun i=>QA.enc (x.hang.get i)),(QG1 C)]
theorem QHP(pb:List Prop→Bool)(x:QB)(C:List (List QC))(l:List QC)(has:Int→Bool)(many n:Int)(f:List QC)(moved turned:Int)(f2:List QC)(m2 t2:Int):(V9 (mkE Try.prog (Wv pb (tmU l f n moved turned f2 m2 t2))) (msN Try.prog (Wv pb (tmU l f n moved turned f2 m2 t2))) Try.f77 QDL (Hr x C (Qj Try.f53 0).1
  (Qj Try.f53 0).2 l has many n f moved turned).hp 360 fun v h _=>qJ vG v h) = .br ((l.length:Int)==(x.scans.n:Int)) (.need (isI i64 (.int false .i64 (QP l
  (-2:Int)))) (.br (decide (i64.wrap ((x.d.ps.n:Int)-i64.wrap ((l.length:Int)-toI (.int false .i64 (QP l (-2:Int)))))>x.lost)) (.leaf (.bool true true)
  ((QBE C f has l many moved n turned x))) (.need (pb ([n=n,0=0,l.length=l.length,Cap.of 0=Cap.of 0,0=0,0=0,0=0,0=0,0=0,0=0,l.length≤l.length,QE
  2 l.length (fun i=>QA.enc (l.getD i ⟨0,0⟩)) fun i=>QA.enc (l.getD i ⟨0,0⟩),0=0,f.length=f.length,Cap.of 0=Cap.of 0,f.length≤f.length,QE 2 f.length (fun i
  => QA.enc (f.getD i ⟨0,0⟩)) fun i=>QA.enc (f.getD i ⟨0,0⟩),moved=moved,turned=turned])) (.leaf (.bool true true) ((QMD C f2 has l m2 many n t2 x)))))) (.need (decide
  ((0 : Int) ≤ (l.length : Int) ∧ (l.length : Int) < (C.length : Int)) && decide (C.length ≤ C.length)) (.need (decide (l.length < C.length)) (.fail ("a loop")))) := by kernel_rfl
abbrev QKa(l:List QC):List Prop:=
  [true=true,0=0,l.length=l.length,cO=cO,l.length≤l.length,QE 2 l.length (fun i=>QA.enc (l.getD i ⟨0,0⟩)) fun i=>QA.enc (l.getD i ⟨0,0⟩),
  K7 (.int true .i64 0) (.int true .i64 0) has has (fun i => .int false .i64 (QP l i)) fun i => .int false .i64 (QP l i),LoopState.ready=LoopState.ready,(none:Option
  Code)=none,Array.mk [12]=Array.mk [(12:Tmp)],(Qj Try.f53 0).1=(Qj Try.f53 0).1,(Qj Try.f53 0).2=(Qj Try.f53 0).2,0=0,0=0,(0:Int)=0,Fn.func
  (62:FuncId)=Fn.func (62:FuncId)]
abbrev Yi:List Prop:=
  [0=0,0=0,0=0,0=0]
theorem QPW(C:List (List QC))(l:List QC)(has:Int→Bool)(many n:Int)(f:List QC)(moved turned:Int):QM 360 [(.bool true true)] ((QBE C f has l many moved n turned x)) (K8 (tdU x C (Qj Try.f53 0).1 (Qj Try.f53 0).2 l has many n f moved turned has many n f moved
  turned))=(some ((QKa has l)++Yi++Yi++[0=0,0=0,(0:Int)=0,false=false]++Yi++[Fn.func (76:FuncId)=Fn.func (76:FuncId),0=0,0=0,many=many,
  n=n,0=0,f.length=f.length,cO=cO,f.length≤f.length,QE 2 f.length (fun i=>QA.enc (f.getD i ⟨0,0⟩)) fun i=>QA.enc (f.getD i ⟨0,0⟩),moved =
  moved,turned=turned])):=by kernel_rfl
theorem QOF(C:List (List QC))(l:List QC)(has:Int→Bool)(many n:Int)(f:List QC)(moved turned:Int)(f2:List QC)(m2 t2:Int)(many' n':Int)(f':List QC)(moved' turned':Int):QM 360 [(.bool true true)] ((QMD C f2 has l m2 many n t2 x)) (K8 (tdU x C (Qj Try.f53 0).1 (Qj Try.f53 0).2 l has many n f moved turned has many' n' f' moved' turned'))
  = (some ((QKa has l)++Yi++Yi++[0=0,0=0,(0:Int)=0,false=false]++Yi++[Fn.func (76:FuncId)=Fn.func (76:FuncId),0=0,0=0,i64.wrap
  (many+1)=many',i64.wrap (n+1)=n',0=0,f2.length=f'.length,cO=cO,f'.length≤f2.length,QE 2 f'.length (fun i=>QA.enc (f2.getD i ⟨0,
  0⟩)) fun i=>QA.enc (f'.getD i ⟨0,0⟩),m2=moved',t2=turned'])):=by kernel_rfl
noncomputable abbrev QGw(has':Int→Bool)(l:List QC)(many':Int)(moved':Int)(n':Int)(turned':Int):List (Nat×Blk):=
  [(296,.cells 0 38 [.slz 368 0 l.length cO]),(272,.mpf i64 (.int true .i64 0) has' fun i => .int false .i64 (QP l i)),QBk,(200,.cells 0 3 [.int false .i64
  many']),(168,.cells 0 3 [vi n']),(120,.cells 0 38 [.slz 376 0 f'.length cO]),(112,.cells 0 92 [vi moved']),(104,.cells 0 92 [.int false
  .i64 turned']),(368,.rowz true 56 [.int .i64,.int .i64] l.length fun i=>QA.enc (l.getD i ⟨0,0⟩)),(376,.rowz true 56 [.int .i64,.int .i64] f'.length fun i=>QA.enc
  (f'.getD i ⟨0,0⟩))]
theorem QVo(C:List (List QC))(cs l:List QC)(has:Int→Bool)(many n:Int)(f:List QC)(moved turned:Int)(has':Int→Bool)(many' n':Int)(f':List QC)(moved' turned':Int):(V9 (mkE Try.prog Qu) (tdX Try.prog (tdJ x C (Qj Try.f53 0).1 (Qj Try.f53 0).2 cs l has many n f moved turned 0) [(True,.exit 0,tdE (Qj Try.f53 0).1 (Qj
  Try.f53 0).2 l has' many' n' f' moved' turned')]) Try.f77 QDL (Hr x C (Qj Try.f53 0).1 (Qj Try.f53 0).2 l has many n f moved turned).hp 360 fun v h _=>qJ vG v h)
  = .br ((l.length:Int)==(x.scans.n:Int)) (.need (isI i64 (.int false .i64 (QP l (-2:Int)))) (.br (decide (i64.wrap ((x.d.ps.n:Int)-i64.wrap
  ((l.length:Int)-toI (.int false .i64 (QP l (-2:Int)))))>x.lost)) (.leaf (.bool true true) ((QBE C f has l many moved n turned x))) (.br (n==0) (.fail
  ("a call without a contract")) (.fail ("a loop"))))) (.need (decide ((0 : Int) ≤ (l.length : Int) ∧ (l.length : Int) < (C.length : Int)) && decide (C.length ≤ C.length)) (.need
  (decide (l.length<C.length)) (.ask (0=0) (.ask (0=0) (.ask (0=0) (.ask (0=0) (.ask (0=0) (.ask (0=0) (.ask (0=0) (.ask (0=0) (.ask (0=0) (.ask (0=0) (.ask (0 =
  0) (.ask ((QN C l.length).length=cs.length) (.ask (Cap.of 0=Cap.of 0) (.ask ((↑(QN C l.length).length:Int)=(cs.length:Int)) (.ask ((0:Int)=0) (.ask (cs.length ≤
  (QN C l.length).length) (.ask (QE 2 cs.length (fun j=>QA.enc ((QN C l.length).getD j ⟨0,0⟩)) fun i=>QA.enc (cs.getD i ⟨0,0⟩)) (.ask (0=0) (.ask (l.length =
  l.length) (.ask (Cap.of 0=Cap.of 0) (.ask (l.length≤l.length) (.ask (QE 2 l.length (fun i=>QA.enc (l.getD i ⟨0,0⟩)) fun i=>QA.enc (l.getD i ⟨0,0⟩)) (.ask (K7
  (.int true .i64 0) (.int true .i64 0) has has (fun i => .int false .i64 (QP l i)) fun i => .int false .i64 (QP l i)) (.ask (LoopState.ready=LoopState.ready) (.ask ((none :
  Option Code)=none) (.ask (Array.mk [(12:Tmp)]=Array.mk [(12:Tmp)]) (.ask ((Qj Try.f53 0).1=(Qj Try.f53 0).1) (.ask ((Qj Try.f53 0).2=(Qj Try.f53 0).2)
  (.ask (0=0) (.ask (0=0) (.ask ((0:Int)=0) (.ask (Fn.func (62:FuncId)=Fn.func (62:FuncId)) (.ask (0=0) (.ask (0=0) (.ask (0=0) (.ask (0=0) (.ask (0=0) (.ask
  (0=0) (.ask (0=0) (.ask (0=0) (.ask (0=0) (.ask (0=0) (.ask ((0:Int)=0) (.ask (false=false) (.ask (0=0) (.ask (0=0) (.ask (0=0) (.ask (0=0) (.ask (Fn.func
  (76:FuncId)=Fn.func (76:FuncId)) (.ask (0=0) (.ask (0=0) (.ask (many=many) (.ask (n=n) (.ask (0=0) (.ask (f.length=f.length) (.ask (Cap.of 0=Cap.of 0) (.ask
  (f.length≤f.length) (.ask (QE 2 f.length (fun i=>QA.enc (f.getD i ⟨0,0⟩)) fun i=>QA.enc (f.getD i ⟨0,0⟩)) (.ask (moved=moved) (.ask (turned=turned) (.ask
  (Fn.func (77:FuncId)=Fn.func (77:FuncId)) (.ask (0=0) (.ask (0=0) (.ask (0=0) (.ask (0=0) (.ask (0=0) (.ask (0=0) (.ask (0=0) (.ask (0=0) (.ask (0=0) (.ask
  (0=0) (.ask (0=0) (.ask (0=0) (.ask (Fn.func (62:FuncId)=Fn.func (62:FuncId)) (.ask (0=0) (.ask (0=0) (.ask (0=0) (.ask (0=0) (.ask (0=0) (.ask (0=0) (.ask
  (x.d.play.length=x.d.play.length) (.ask (x.d.play.slack=x.d.play.slack) (.ask (x.d.play.loose=x.d.play.loose) (.ask (x.d.play.damp.lo=x.d.play.damp.lo) (.ask
  (x.d.play.damp.hi=x.d.play.damp.hi) (.ask (x.d.wide=x.d.wide) (.ask (x.d.high=x.d.high) (.ask (x.d.turn=x.d.turn) (.ask (0=0) (.ask (x.d.ps.n=x.d.ps.n) (.ask (Cap.of 0 =
  Cap.of 0) (.ask (0=0) (.ask (x.scans.n=x.scans.n) (.ask (Cap.of 0=Cap.of 0) (.ask (0=0) (.ask (x.hang.n=x.hang.n) (.ask (Cap.of 0=Cap.of 0) (.ask (x.lost=x.lost) (.ask
  (x.foreign=x.foreign) (.ask (0=0) (.ask (C.length=C.length) (.ask (Cap.of 0=Cap.of 0) (.ask (C.length=C.length) (.ask (Kv 2 C.length (fun i=>(QN C i).length) (fun
  i=>(QN C i).length) (fun i j=>QA.enc ((QN C i).getD j ⟨0,0⟩)) fun i j=>QA.enc ((QN C i).getD j ⟨0,0⟩)) (.ask (x.d.ps.n≤x.d.ps.n) (.ask (QE 28 x.d.ps.n (fun i
  => QA.enc (x.d.ps.get i)) fun i=>QA.enc (x.d.ps.get i)) (.ask (x.scans.n≤x.scans.n) (.ask (QE 28 x.scans.n (fun i=>QA.enc (x.scans.get i)) fun i=>QA.enc
  (x.scans.get i)) (.ask (x.hang.n≤x.hang.n) (.ask (QE 4 x.hang.n (fun i=>QA.enc (x.hang.get i)) fun i=>QA.enc (x.hang.get i)) (.asm (True) (.all (fun(g0:Nat→Value)
  => .leaf (.bool true true) ((QGw f' has' l many' moved' n'
  turned'))))))))))))))))))))))))))))))))))))))))))))))))))))))))))))))))))))))))))))))))))))))))))))))))))))))))))))))))))))):=by kernel_rfl
theorem QSR(C:List (List QC))(l:List QC)(has:Int→Bool)(many n:Int)(f:List QC)(moved turned:Int)(has':Int→Bool)(many' n':Int)(f':List QC)(moved' turned':Int):QM 360 [(.bool true true)] ((QGw f' has' l many' moved' n' turned')) (K8 (tdU x C (Qj Try.f53 0).1 (Qj Try.f53 0).2 l has many n f moved turned has' many' n' f' moved'
  turned'))=(some ([true=true,0=0,l.length=l.length,cO=cO,l.length≤l.length,QE 2 l.length (fun i=>QA.enc (l.getD i ⟨0,0⟩)) fun i=>QA.enc
  (l.getD i ⟨0,0⟩),K7 (.int true .i64 0) (.int true .i64 0) has' has' (fun i => .int false .i64 (QP l i)) fun i => .int false .i64 (QP l i),LoopState.ready =
  LoopState.ready,(none:Option Code)=none,Array.mk [12]=Array.mk [(12:Tmp)],(Qj Try.f53 0).1=(Qj Try.f53 0).1,(Qj Try.f53 0).2=(Qj Try.f53 0).2,0=0,
  0=0,(0:Int)=0,Fn.func (62:FuncId)=Fn.func (62:FuncId)]++Yi++Yi++[0=0,0=0,(0:Int)=0,false=false]++Yi++[Fn.func (76:FuncId)=Fn.func (76
  : FuncId),0=0,0=0,many'=many',n'=n',0=0,f'.length=f'.length,cO=cO,f'.length≤f'.length,QE 2 f'.length (fun i=>QA.enc (f'.getD i ⟨0,0⟩))
  fun i=>QA.enc (f'.getD i ⟨0,0⟩),moved'=moved',turned'=turned'])):=by kernel_rfl
noncomputable abbrev XW:Code:=(Qj Try.f53 0).1
noncomputable abbrev Xe:Code:=(Qj Try.f53 0).2
theorem QIc(C:List (List QC))(ac body:Code)(l:List QC)(has:Int→Bool)(many n:Int)(f:List QC)(moved turned:Int)(has':Int→Bool)(many' n':Int)(f':List QC)(moved' turned':Int):(tdU x C ac body l has many n f moved turned has' many' n' f' moved' turned').Ok:=by
 refine⟨(by decide:336≤360),rfl,rfl,?_,rfl,fun _ _=>rfl,fun nid h => ?_⟩
 ·intro q hq;simp only[UC.po,tdU,tdW,rwL,List.mem_cons,List.not_mem_nil,or_false]at hq;rcases hq with rfl|rfl|rfl|rfl|rfl|rfl|rfl|rfl|rfl|rfl<;>refine⟨rfl,rfl,rfl,?_⟩<;>first|exact fun _=>rfl|exact fun h=>absurd (show 360<336 from h) (by decide)|exact fun h=>absurd (show 361<336 from h) (by decide)
 ·have e0:=qp 336 360 0 nid (by decide)
  have e1:=qp 336 360 1 nid (by decide)
  simp only[UC.po,tdU,tdW,rwL,Hr,tdT,List.map_cons,List.map_nil,Blk.mapId,AV.mapId,AV.mapIdL,Nat.add_zero]at e0 e1 ⊢;rw[e0,e1];rfl
theorem QWc{x:QB}(hx:JR x)(C:List (List QC))(hpos:0<x.scans.n){l:List QC}(hn:l.length=x.scans.n)(hl:∀ c∈l,JV c)(s:TdS)(h:Int→Bool)(hgd:VD x s):QQ Try.prog 77 (uFC (YN x C XW Xe l h s (Xc x tdY l s h))):=by
 obtain⟨many,n,f,moved,turned⟩:=s;have hs:=hx.s;have hd:=hx.d.n9;have hgd:VD x (many,n,f,moved,turned):=hgd;have hT:QW (Wv Qt (tmU l f n moved turned (Q6 n l f) (mvL l (Q6 n l f) moved l.length) (tuL l (Q6 n l f) turned l.length))):=KL.add (QOm l f n moved turned (by omega) (by omega) (fun q=>(hgd q).trans hn.symm))
 have fin:∀(s':TdS),Yl (HX (tdU x C XW Xe l h many n f moved turned h s'.1 s'.2.1 s'.2.2.1 s'.2.2.2.1 s'.2.2.2.2)) (VY (mkE Try.prog (Wv Qt (tmU l f n moved turned (Q6 n l f) (mvL l (Q6 n l f) moved l.length) (tuL l (Q6 n l f) turned l.length)))) (msN Try.prog (Wv Qt (tmU l f n moved turned (Q6 n l f) (mvL l (Q6 n l f) moved l.length) (tuL l (Q6 n l f) turned l.length)))) Try.f77 (tdU x C XW Xe l h many n f moved turned h s'.1 s'.2.1 s'.2.2.1 s'.2.2.2.1 s'.2.2.2.2))→QQ Try.prog 77 (uFC (tdU x C XW Xe l h many n f moved turned h s'.1 s'.2.1 s'.2.2.1 s'.2.2.2.1 s'.2.2.2.2)):=fun s' hd=>
  VL (E:=mkE Try.prog (Wv Qt (tmU l f n moved turned (Q6 n l f) (mvL l (Q6 n l f) moved l.length) (tuL l (Q6 n l f) turned l.length)))) (QT hT) Try.func77 (by kernel_rfl) (by kernel_rfl) (QIc ..) (fun G h1 _=>QEj _ hT G h1) ⟨hd⟩
 have he:=QHl (x:=x) (l:=l) (by omega) (by omega)
 cases hb:YQ x l with
 | true=>
  rw[hb]at he;simp only[Xc,hb,YN];refine fin (many,n,f,moved,turned) (Q5 (QHP Qt x C l h many n f moved turned (Q6 n l f) (mvL l (Q6 n l f) moved l.length) (tuL l (Q6 n l f) turned l.length)) ?_);refine QI (fun _=>QG rfl (QI (fun _ => ?_) (fun q=>Bool.noConfusion (show true=false from he.symm.trans q)))) (fun q=>by rw[hn]at q;simp at q)
  refine⟨rfl,rfl,_,QPW x C l h many n f moved turned,?_⟩
  repeat' first|with_reducible refine QR ?_ ?_|exact trivial|with_reducible rfl|exact qlr _|exact qRr|exact Qo _ _ _ _|exact XK _ _ _|refine And.intro ?_ ?_
 | false=>
  rw[hb]at he;simp only[Xc,hb,tdY,YN];refine fin (tdY (many,n,f,moved,turned) l).1 (Q5 (QHP Qt x C l h many n f moved turned (Q6 n l f) (mvL l (Q6 n l f) moved l.length) (tuL l (Q6 n l f) turned l.length)) ?_);refine QI (fun _=>QG rfl (QI (fun q=>Bool.noConfusion (show true=false from q.symm.trans he)) (fun _=>QG (JA.2 ?_) ?_))) (fun q=>by rw[hn]at q;simp at q)
  ·repeat' first|with_reducible refine QR ?_ ?_|exact trivial|with_reducible rfl|exact qlr _|exact qRr|exact Qo _ _ _ _|refine And.intro ?_ ?_
  refine⟨rfl,rfl,_,QOF x C l h many n f moved turned (Q6 n l f) (mvL l (Q6 n l f) moved l.length) (tuL l (Q6 n l f) turned l.length) _ _ _ _ _,?_⟩
  repeat' first|with_reducible refine QR ?_ ?_|exact trivial|with_reducible rfl|exact qlr _|exact qRr|exact Qo _ _ _ _|exact XK _ _ _|exact rfl|refine And.intro ?_ ?_
theorem QS7{x:QB}(hx:JR x){C:List (List QC)}{ac body:Code}{cs l:List QC}(hl:l.length<1000)(hls:∀ c∈l,JV c)(hcs:∀ c∈cs,JV c)(IH:∀ c∈cs,∀ s h,VD x s→QQ Try.prog 77 (uFC (YN x C ac body (l++[c]) h s (Xs x C d l s h c))))(t:TdK):(WP Try.prog x C ac body d cs l t).Sound:=by
 unfold WP WJ;split
 ·rename_i hk;have hm:=Hb (z:=(⟨0,0⟩:QC)) hk.1;refine QAX ((KL.add (QHH x C _ hx (QFI (by simp) (by simp;omega) ?_))).add (IH _ hm _ _ hk.2))
  intro c hc;rcases List.mem_append.1 hc with h|h
  ·exact hls c h
  ·rw[List.mem_singleton.1 h];exact hcs _ hm
 ·exact QAX ((KL.add (jT (by kernel_rfl) _)).add (jT (by kernel_rfl) _))
theorem QQp{x:QB}(hx:JR x){C:List (List QC)}(hC:WW x C){ac body:Code}{l:List QC}(hl:l.length+(d+1)=x.scans.n)(hls:∀ c∈l,JV c)(IH:∀ c∈QN C l.length,∀ s h,VD x s→QQ Try.prog 77 (uFC (YN x C ac body (l++[c]) h s (Xs x C d l s h c))))(s:TdS)(h:Int→Bool)(hgd:VD x s){X:List (Prop×Ex×JSt)}(hX:∀ e J,Zd x C ac body d (QN C l.length) l (0,s,h) e J→∃ y∈X,y.1∧y.2.1=e∧y.2.2=J)(G:Ctx)(hrd:G.rd=none)(hG:G.n=360):
  Q9 (mkE Try.prog Qu) G (tdX Try.prog (tdJ x C ac body (QN C l.length) l h s.1 s.2.1 s.2.2.1 s.2.2.2.1 s.2.2.2.2 0) X) (Qr Try.f77):=by
 have hs:=hx.s;refine JM (body:=QV Try.f77 0) (QT KL) hrd (by kernel_rfl) ?_
 have hE:=fun t=>QS7 hx (C:=C) (ac:=ac) (body:=body) (d:=d) (cs:=QN C l.length) (l:=l) (by omega) hls (hC.s _) IH t
 refine QBC (E0:=mkE Try.prog Qu) (E:=WP Try.prog x C ac body d (QN C l.length) l) (H:=fun t=>hnd (WP Try.prog x C ac body d (QN C l.length) l t) 0) (n0:=360) (s0:=(0,s,h)) (fun _=>rfl) hE (by omega) (fun t _=>Q0 (hE t) 0 G _ hrd) (fun t _=>(by decide:360≤400)) ?_ (QSU x C ac body d (QN C l.length) l (hC.le _) (by omega) (by omega)) ⟨Nat.zero_le _,hgd⟩ hX
 intro t e J hr;unfold Zd at hr;split at hr
 ·rw[hr.2];exact(by decide:360≤400)
 ·exact hr.elim
theorem QVr{x:QB}(hx:JR x){C:List (List QC)}(hC:WW x C){l:List QC}(hl:l.length+(d+1)=x.scans.n)(hls:∀ c∈l,JV c)(IH:∀ c∈QN C l.length,∀ s h,VD x s→QQ Try.prog 77 (uFC (YN x C XW Xe (l++[c]) h s (Xs x C d l s h c))))(s:TdS)(h:Int→Bool)(hgd:VD x s):QQ Try.prog 77 (uFC (YN x C XW Xe l h s (onT x C tdY (d+1) l s h))):=by
 obtain⟨s',h',he⟩:=Zm (C:=C) (x:=x) (Y:=tdY) (fun _ _=>rfl) (d+1) l s h;rw[he];have hc:Ji (JZ x l (Xs x C d l)) (QN C l.length) s h = .go s' h':=he;have hCn:=hC.n;refine VL (E:=mkE Try.prog Qu) (QT KL) Try.func77 (by kernel_rfl) (by kernel_rfl) (QIc ..) (QQp hx hC hl hls IH s h hgd (X:=[(True,.exit 0,tdE XW Xe l h' s'.1 s'.2.1 s'.2.2.1 s'.2.2.2.1 s'.2.2.2.2)]) ?_) ⟨?_⟩
 ·intro e J hr;unfold Zd at hr;simp only[List.drop_zero,hc]at hr;exact⟨_,List.mem_cons_self,trivial,hr.1.symm,hr.2.symm⟩
 ·refine Q5 (QVo x C (QN C l.length) l h s.1 s.2.1 s.2.2.1 s.2.2.2.1 s.2.2.2.2 h' s'.1 s'.2.1 s'.2.2.1 s'.2.2.2.1 s'.2.2.2.2) ?_;refine QI (fun q=>by simp at q;omega) (fun _=>QG (by simp;omega) (QG (by simp;omega) ?_))
  repeat' first|refine QU (p:=_=_) rfl ?_|refine QU (p:=_≤_) (qlr _) ?_|refine QU (p:=QE _ _ _ _) (qRr) ?_|refine QU (p:=Kv _ _ _ _ _ _) (Qo _ _ _ _) ?_|refine QU (p:=K7 _ _ _ _ _ _) (XK _ _ _) ?_
  refine KB fun _=>KE fun g=>⟨rfl,rfl,_,QSR x C l h s.1 s.2.1 s.2.2.1 s.2.2.2.1 s.2.2.2.2 h' s'.1 s'.2.1 s'.2.2.1 s'.2.2.2.1 s'.2.2.2.2,?_⟩
  repeat' first|with_reducible refine QR ?_ ?_|exact trivial|with_reducible rfl|exact qlr _|exact qRr|exact Qo _ _ _ _|exact XK _ _ _|refine And.intro ?_ ?_
theorem QM0{x:QB}(hx:JR x){C:List (List QC)}(hC:WW x C)(hpos:0<x.scans.n):∀(d:Nat) (l:List QC) (s:TdS) (h:Int→Bool),l.length+d=x.scans.n→(∀ c∈l,JV c)→VD x s→QQ Try.prog 77 (uFC (YN x C XW Xe l h s (onT x C tdY d l s h)))
 | 0,l,s,h,hn,hl,hgd=>QWc hx C hpos (by omega) hl s h hgd
 | d+1,l,s,h,hn,hl,hgd=>QVr hx hC (by omega) hl (fun c hc s h hgd=>QM0 hx hC hpos d (l++[c]) s h (by simp;omega) (fun y hy=>by
   rcases List.mem_append.1 hy with q|q
   ·exact hl y q
   ·rw[List.mem_singleton.1 q];exact hC.s _ c hc) hgd) s h hgd
end Go.Proofs.Ytbpffdkemeoajaa
