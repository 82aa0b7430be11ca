/- - -/
import Derived.Test.YtbpffdkemeoajaaMvza
open Go.IntKind (i64)
set_option maxRecDepth 100000
namespace Go.Proofs.Ytbpffdkemeoajaa
open Go.SX
variable (C:List (List QB))(ac body:Code)(x:QE)(cs l2:List QB)(has:Int→Bool)(f:List QB)(k:Nat)(g f':List QB)(has':Int→Bool)(g':List QB)(many many':Int)
def trT:List AV:=[.agg (JR 0 x),.ptr 8 0 0,.ptr 16 0 0,.ptr 24 0 0,.ptr 32 0 0,.int true .i64 0,.ptr 56 0 0,.tup [],.tup [.ptr 56 0 0,.int true .i64 0],.agg (JR 0 x),.tup [.ptr 56 0 0,.int true .i64 0],.ptr 56 0 0,.int true .i64 0,.int true .i64 0,.bool true false,.tup [],.ptr 56 0 0,.fn (.func 76) [.ptr 128 0 0],.tup [],.tup [],.tup [],.tup [],.tup [],.tup [],.tup [],.tup [],.tup [],.tup [],.tup [],.tup [],.tup [],.tup [],.tup [],.tup [],.tup [],.tup [],.tup []]
def Gf:List AV:=[.ptr 200 0 0,.ptr 128 0 0,.ptr 184 0 0,.ptr 168 0 0,.ptr 208 0 0]
def trR(C:List (List QB)):List (Nat×Blk):=
 [(208,.cellsR 0 34 [.fn (.func 77) Gf]),(184,.cellsR 0 63 [.map 176]),(168,.cellsR 0 123 [.yld 161]),(128,.cellsR 0 89 [.ptr 56 0 0]),(8,.cellsR 0 50 (JR 0 x)),(56,.cellsR 0 125 (srK 57 x C)),Zt false 57 C]++Ve 0 x
def trW(ls:LoopState)(pe:Option Code)(x:QE)(ac body:Code)(l:List QB)(a:Nat)(b:Nat)(c:Nat)(has:Int→Bool)(many:Int)(f g:List QB):List (Nat×Blk):=
 [(200,.cells 0 38 [.slz a 0 l.length (.of 0)]),rwL a l,(176,.mpf .i64 (.int true .i64 0) has fun i => .int false .i64 (QL l i)),(161,.lp ls pe (trT x) #[18] ac body),(32,.cells 0 3 [.int false .i64 many]),(16,.cells 0 38 [.slz b 0 f.length (.of 0)]),rwL b f,(24,.cells 0 38 [.slz c 0 g.length (.of 0)]),rwL c g]
def Z4(C:List (List QB))(ac body:Code)(l:List QB)(has:Int→Bool)(many:Int)(f g:List QB):JSt:=
 ⟨5,[(0,.ptr 200 0 0),(1,.ptr 128 0 0),(2,.ptr 184 0 0),(3,.ptr 168 0 0),(4,.ptr 208 0 0)],trW .ready none x ac body l 248 256 264 has many f g++trR x C,272⟩
def trU(C:List (List QB))(ac body:Code)(l:List QB)(has:Int→Bool)(many:Int)(f g:List QB)(has':Int→Bool)(many':Int)(f' g':List QB):UC:=
 ⟨240,Z4 x C ac body l has many f g,fun _ => .bool false true,fun m=>trW .ready none x ac body l m (m+1) (m+2) has' many' f' g'⟩
def trJ(C:List (List QB))(ac body:Code)(cs l:List QB)(has:Int→Bool)(many:Int)(f g:List QB)(k:Nat):JSt:=
 ⟨98,[(0,.ptr 200 0 0),(1,.ptr 128 0 0),(2,.ptr 184 0 0),(3,.ptr 168 0 0),(4,.ptr 208 0 0),(48,.slz 304 0 cs.length (.of 0)),(49,.int false .i64 cs.length),(50,.int false .i64 k)],
  (304,.frz [.int .i64,.int .i64] cs.length fun i=>QA.enc (cs.getD i ⟨0,0⟩))::trW .ready none x ac body l 280 288 296 has many f g++trR x C,320⟩
def trE(ac body:Code)(l:List QB)(has:Int→Bool)(many:Int)(f g:List QB):JSt:=⟨98,[],trW .ready none x ac body l 280 288 296 has many f g,320⟩
def trV(C:List (List QB))(ac body:Code)(l:List QB)(has:Int→Bool)(many:Int)(f g:List QB)(has':Int→Bool)(many':Int)(f' g':List QB):UC:=
 ⟨240,Z4 x C ac body l has many f g,fun _ => .bool false false,fun m=>trW .done (some (.exit 0)) x ac body l m (m+1) (m+2) has' many' f' g'⟩
def trF(ac body:Code)(l:List QB)(has:Int→Bool)(many:Int)(f g:List QB):JSt:=⟨98,[(5,.bool false false)],trW .done (some (.exit 0)) x ac body l 280 288 296 has many f g,320⟩
def WW:List Nat:=[200,176,161,32,16,24]
noncomputable abbrev qy:List AV:=
  [.nilp,.ptr 98 0 0,.ptr 200 0 0,.ptr 128 0 0,.ptr 184 0 0,.ptr 168 0 0,.ptr 208 0 0,.slz 304 0 cs.length cO,vi (cs.length:Int),.int false .i64
  (i64.wrap ((k:Int)+1))]
noncomputable abbrev j9:Nat×Blk:=
  (161,.lp LoopState.ready none (trT x) (Array.mk [18]) ac body)
noncomputable abbrev QDH:Nat×Blk:=
  (16,.cells 0 38 [.slz 288 0 f.length cO])
noncomputable abbrev QDq:Nat×Blk:=
  (24,.cells 0 38 [.slz 296 0 g.length cO])
noncomputable abbrev Wh:Nat×Blk:=
  (128,.cellsR 0 89 [.ptr 56 0 0])
noncomputable abbrev QAR:Nat×Blk:=
  (208,.cellsR 0 34 [.fn (Fn.func 77) [.ptr 200 0 0,.ptr 128 0 0,.ptr 184 0 0,.ptr 168 0 0,.ptr 208 0 0]])
noncomputable abbrev HT:Nat×Blk:=
  (304,.frz [.int .i64,.int .i64] cs.length fun i=>QA.enc (cs.getD i ⟨0,0⟩))
abbrev V3:List CK:=
  [.int .i64,.int .i64,.int .i64,.int .i64,.int .i64,.int .i64,.int .i64,.int .i64,.int .i64,.int .i64,.int .i64,.int .i64,.int .i64,.int .i64,.int .i64,.int .i64,.int
  .i64,.int .i64,.int .i64,.int .i64,.int .i64,.int .i64,.int .i64,.int .i64,.int .i64,.int .i64,.int .i64,.int .i64]
noncomputable abbrev Z8:Nat×Blk:=
  (2,.frz [.int .i64,.int .i64,.int .i64,.int .i64] x.hang.n fun i=>QA.enc (x.hang.get i))
noncomputable abbrev Ww:Nat×Blk:=
  (8,.cellsR 0 50 [vi x.d.play.length,vi x.d.play.slack,vi x.d.play.loose,vi x.d.play.damp.lo,.int false .i64
  x.d.play.damp.hi,vi x.d.wide,vi x.d.high,.bool false x.d.turn,.slz 0 0 x.d.ps.n cO,.slz 1 0 x.scans.n cO,.slz 2 0 x.hang.n (Cap.of
  0),vi x.lost,vi x.foreign])
noncomputable abbrev Wi:Nat×Blk:=
  (56,.cellsR 0 125 [vi x.d.play.length,vi x.d.play.slack,vi x.d.play.loose,vi x.d.play.damp.lo,.int false .i64
  x.d.play.damp.hi,vi x.d.wide,vi x.d.high,.bool false x.d.turn,.slz 0 0 x.d.ps.n cO,.slz 1 0 x.scans.n cO,.slz 2 0 x.hang.n (Cap.of
  0),vi x.lost,vi x.foreign,.slz 57 0 C.length cO])
noncomputable abbrev QCX:Nat×Blk:=
  (288,.rowz true 56 [.int .i64,.int .i64] f.length fun i=>QA.enc (f.getD i ⟨0,0⟩))
noncomputable abbrev QBp:Nat×Blk:=
  (296,.rowz true 56 [.int .i64,.int .i64] g.length fun i=>QA.enc (g.getD i ⟨0,0⟩))
noncomputable abbrev Wt:Nat×Blk:=
  (57,.frz2 false 38 [.int .i64,.int .i64] C.length (fun i=>(QM C i).length) fun i j=>QA.enc ((QM C i).getD j ⟨0,0⟩))
noncomputable abbrev QA8(has:Int→Bool)(l:List QB)(many:Int)(x:QE):List (Nat×Blk):=
  [(200,.cells 0 38 [.slz 280 0 l.length cO]),(176,.mpf i64 (.int true .i64 0) has fun i => .int false .i64 (QL l i)),(j9 ac body x),(32,.cells 0 3 [.int
  false .i64 many]),(QDH f),(QDq g),Wh,(184,.cellsR 0 63 [.map 176]),(168,.cellsR 0 123 [.yld 161]),QAR,(HT cs),(280,.rowz true 56 [.int .i64,.int .i64]
  l.length fun i=>QA.enc (l.getD i ⟨0,0⟩)),(0,.frz V3 x.d.ps.n fun i=>QA.enc (x.d.ps.get i)),(1,.frz V3 x.scans.n fun i=>QA.enc (x.scans.get i)),(Z8 x),(Ww
  x),(Wi C x),(QCX f),(QBp g),(Wt C)]
noncomputable abbrev GM:List AV:=
  [vi (cs.getD k ⟨0,0⟩).cell,vi (cs.getD k ⟨0,0⟩).turn]
abbrev QL3(l:List QB)(l2:List QB)(x:QE):List Prop:=
  [0=0,0=0,0=0,l.length+1=l2.length,cO=cO,l2.length≤l.length+1,QD 2 l2.length (QX l.length (fun i=>QA.enc (l.getD i ⟨0,0⟩)) (QR [(GM
  cs k)] 0)) fun i=>QA.enc (l2.getD i ⟨0,0⟩),x.d.play.length=x.d.play.length,x.d.play.slack=x.d.play.slack,x.d.play.loose=x.d.play.loose,x.d.play.damp.lo =
  x.d.play.damp.lo,x.d.play.damp.hi=x.d.play.damp.hi,x.d.wide=x.d.wide,x.d.high=x.d.high,x.d.turn=x.d.turn,0=0,x.d.ps.n=x.d.ps.n,cO=cO,0=0,
  x.scans.n=x.scans.n,cO=cO,0=0,x.hang.n=x.hang.n,cO=cO,x.lost=x.lost,x.foreign=x.foreign,0=0,C.length=C.length,cO=cO,
  C.length=C.length,K0 2 C.length (fun i=>(QM C i).length) (fun i=>(QM C i).length) (fun i j=>QA.enc ((QM C i).getD j ⟨0,0⟩)) fun i j=>QA.enc ((QM C
  i).getD j ⟨0,0⟩),x.d.ps.n≤x.d.ps.n,QD 28 x.d.ps.n (fun i=>QA.enc (x.d.ps.get i)) fun i=>QA.enc (x.d.ps.get i),x.scans.n≤x.scans.n,QD 28 x.scans.n (fun i=>
  QA.enc (x.scans.get i)) fun i=>QA.enc (x.scans.get i),x.hang.n≤x.hang.n,QD 4 x.hang.n (fun i=>QA.enc (x.hang.get i)) fun i=>QA.enc (x.hang.get i)]
noncomputable abbrev QEq(has:Int→Bool)(k:Nat)(l:List QB)(many:Int)(x:QE):List (Nat×Blk):=
  [(200,.cells 0 38 [.slz 904 0 (i64.wrap ((↑(l.length+1):Int)-1)).toNat cO]),(176,.mpf i64 (.int true .i64 0) (Ql (cs.getD k ⟨0,0⟩).cell true
  (Ql (cs.getD k ⟨0,0⟩).cell true has)) (KQ (cs.getD k ⟨0,0⟩).cell (.int false .i64 (i64.wrap (toI (Bool.rec ((fun _=>(fun i => .int false .i64 (QL l i)) ((fun i=>
  QA.enc (cs.getD i ⟨0,0⟩)) ((k:Int).toNat+0) 0)) ()) ((fun _ => .int false .i64 (i64.wrap (toI ((fun i => .int false .i64 (QL l i)) ((fun i=>QA.enc (cs.getD i
  ⟨0,0⟩)) ((k:Int).toNat+0) 0))+1))) ()) (decide ((fun i=>QA.enc (cs.getD i ⟨0,0⟩)) ((k:Int).toNat+0) 0=(fun i=>QA.enc (cs.getD i ⟨0,0⟩)) ((k:Int).toNat+0)
  0)))-1))) (KQ (cs.getD k ⟨0,0⟩).cell (.int false .i64 (i64.wrap (toI (.int false .i64 (QL l (cs.getD k ⟨0,0⟩).cell))+1))) fun i => .int false .i64 (QL l i)))),
  (j9 ac body x),(32,.cells 0 3 [vi many]),(QDH f),(QDq g),Wh,(184,.cellsR 0 63 [.map 176]),(168,.cellsR 0 123 [.yld 161]),QAR,(HT cs),(904,
  .rowz true 56 [.int .i64,.int .i64] (l.length+1) (QX l.length (fun i=>QA.enc (l.getD i ⟨0,0⟩)) (QR [(GM cs k)] 0))),(0,.frz V3 x.d.ps.n fun i=>QA.enc
  (x.d.ps.get i)),(1,.frz V3 x.scans.n fun i=>QA.enc (x.scans.get i)),(Z8 x),(Ww x),(Wi C x),(QCX f),(QBp g),(Wt C)]
abbrev QKe(has:Int→Bool)(has2:Int→Bool)(k:Nat)(l:List QB)(l2:List QB)(many:Int)(x:QE):List Prop:=
  [0=0,0=0,0=0,0=0,0=0,0=0,0=0,0=0,0=0,0=0,0=0,l.length+1=l2.length,cO=cO,l2.length≤l.length+1,QD 2 l2.length (QX
  l.length (fun i=>QA.enc (l.getD i ⟨0,0⟩)) (QR [(GM cs k)] 0)) fun i=>QA.enc (l2.getD i ⟨0,0⟩),Kt (.int true .i64 0) (.int true .i64 0) (Ql (cs.getD k ⟨0,
  0⟩).cell true has) has2 (KQ (cs.getD k ⟨0,0⟩).cell (.int false .i64 (i64.wrap (toI (.int false .i64 (QL l (cs.getD k ⟨0,0⟩).cell))+1))) fun i => .int false .i64
  (QL l i)) fun i => .int false .i64 (QL l2 i),LoopState.ready=LoopState.ready,(none:Option Code)=none,Array.mk [18]=Array.mk [18],ac=ac,body=body,
  x.d.play.length=x.d.play.length,x.d.play.slack=x.d.play.slack,x.d.play.loose=x.d.play.loose,x.d.play.damp.lo=x.d.play.damp.lo,x.d.play.damp.hi=x.d.play.damp.hi,
  x.d.wide=x.d.wide,x.d.high=x.d.high,x.d.turn=x.d.turn,0=0,x.d.ps.n=x.d.ps.n,cO=cO,0=0,x.scans.n=x.scans.n,cO=cO,0=0,x.hang.n =
  x.hang.n,cO=cO,x.lost=x.lost,x.foreign=x.foreign,0=0,0=0,0=0,0=0,0=0,0=0,0=0,0=0,(0:Int)=0,0=0,0=0,0=0,0=0,(0:Int) =
  0,x.d.play.length=x.d.play.length,x.d.play.slack=x.d.play.slack,x.d.play.loose=x.d.play.loose,x.d.play.damp.lo=x.d.play.damp.lo,x.d.play.damp.hi=x.d.play.damp.hi,
  x.d.wide=x.d.wide,x.d.high=x.d.high,x.d.turn=x.d.turn,0=0,x.d.ps.n=x.d.ps.n,cO=cO,0=0,x.scans.n=x.scans.n,cO=cO,0=0,x.hang.n =
  x.hang.n,cO=cO,x.lost=x.lost,x.foreign=x.foreign,0=0,0=0,(0:Int)=0,0=0,0=0,(0:Int)=0,(0:Int)=0,false=false,0=0,0=0,Fn.func
  76=Fn.func 76,0=0,0=0,many=many,0=0,f.length=f.length,cO=cO,f.length≤f.length,QD 2 f.length (fun i=>QA.enc (f.getD i ⟨0,0⟩)) fun i=>
  QA.enc (f.getD i ⟨0,0⟩),0=0,g.length=g.length,cO=cO,g.length≤g.length,QD 2 g.length (fun i=>QA.enc (g.getD i ⟨0,0⟩)) fun i=>QA.enc (g.getD i
  ⟨0,0⟩),Fn.func 77=Fn.func 77,0=0,0=0,0=0,0=0,0=0,0=0,0=0,0=0,0=0,0=0,0=0,0=0,x.d.play.length=x.d.play.length,x.d.play.slack =
  x.d.play.slack,x.d.play.loose=x.d.play.loose,x.d.play.damp.lo=x.d.play.damp.lo,x.d.play.damp.hi=x.d.play.damp.hi,x.d.wide=x.d.wide,x.d.high=x.d.high,x.d.turn =
  x.d.turn,0=0,x.d.ps.n=x.d.ps.n,cO=cO,0=0,x.scans.n=x.scans.n,cO=cO,0=0,x.hang.n=x.hang.n,cO=cO,x.lost=x.lost,
  x.foreign=x.foreign,x.d.play.length=x.d.play.length,x.d.play.slack=x.d.play.slack,x.d.play.loose=x.d.play.loose,x.d.play.damp.lo=x.d.play.damp.lo,x.d.play.damp.hi =
  x.d.play.damp.hi,x.d.wide=x.d.wide,x.d.high=x.d.high,x.d.turn=x.d.turn,0=0,x.d.ps.n=x.d.ps.n,cO=cO,0=0,x.scans.n=x.scans.n,cO=cO,
  0=0,x.hang.n=x.hang.n,cO=cO,x.lost=x.lost,x.foreign=x.foreign,0=0,C.length=C.length,cO=cO,C.length=C.length,K0 2 C.length
  (fun i=>(QM C i).length) (fun i=>(QM C i).length) (fun i j=>QA.enc ((QM C i).getD j ⟨0,0⟩)) fun i j=>QA.enc ((QM C i).getD j ⟨0,0⟩),x.d.ps.n≤x.d.ps.n,
  QD 28 x.d.ps.n (fun i=>QA.enc (x.d.ps.get i)) fun i=>QA.enc (x.d.ps.get i),x.scans.n≤x.scans.n,QD 28 x.scans.n (fun i=>QA.enc (x.scans.get i)) fun i=>
  QA.enc (x.scans.get i),x.hang.n≤x.hang.n,QD 4 x.hang.n (fun i=>QA.enc (x.hang.get i)) fun i=>QA.enc (x.hang.get i)]
noncomputable abbrev QA4:Nat×Blk:=
  (200,.cells 0 38 [.slz 1016 0 (i64.wrap ((l2.length:Int)-1)).toNat cO])
noncomputable abbrev HB(k:Nat)(l2:List QB):Nat×Blk:=
  (176,.mpf i64 (.int true .i64 0) (Ql (cs.getD k ⟨0,0⟩).cell true has') (KQ (cs.getD k ⟨0,0⟩).cell (.int false .i64 (i64.wrap (toI (.int false .i64 (QL l2
  (cs.getD k ⟨0,0⟩).cell))-1))) fun i => .int false .i64 (QL l2 i)))
noncomputable abbrev GN:Nat×Blk:=
  (32,.cells 0 3 [vi many'])
noncomputable abbrev G1:Nat×Blk:=
  (16,.cells 0 38 [.slz 1017 0 f'.length cO])
noncomputable abbrev QAd:Nat×Blk:=
  (24,.cells 0 38 [.slz 1018 0 g'.length cO])
noncomputable abbrev zq:Nat×Blk:=
  (1016,.rowz true 56 [.int .i64,.int .i64] l2.length fun i=>QA.enc (l2.getD i ⟨0,0⟩))
noncomputable abbrev QAw:Nat×Blk:=
  (1017,.rowz true 56 [.int .i64,.int .i64] f'.length fun i=>QA.enc (f'.getD i ⟨0,0⟩))
noncomputable abbrev QAu:Nat×Blk:=
  (1018,.rowz true 56 [.int .i64,.int .i64] g'.length fun i=>QA.enc (g'.getD i ⟨0,0⟩))
noncomputable abbrev QJu(has':Int→Bool)(k:Nat)(l2:List QB)(many':Int)(x:QE):List (Nat×Blk):=
  [(QA4 l2),(HB cs has' k l2),(j9 ac body x),(GN many'),(G1 f'),(QAd g'),Wh,(184,.cellsR 0 63 [.map 176]),(168,.cellsR 0 123 [.yld 161]),QAR,(HT
  cs),(zq l2),(0,.frz V3 x.d.ps.n fun i=>QA.enc (x.d.ps.get i)),(1,.frz V3 x.scans.n fun i=>QA.enc (x.scans.get i)),(Z8 x),(Ww x),(Wi C x),(QAw f'),
  (QAu g'),(Wt C)]
noncomputable abbrev QCy(has:Int→Bool)(l:List QB)(many:Int)(x:QE):List (Nat×Blk):=
  [(200,.cells 0 38 [.slz 280 0 l.length cO]),(176,.mpf i64 (.int true .i64 0) has fun i => .int false .i64 (QL l i)),(j9 ac body x),(32,.cells 0 3 [.int
  false .i64 many]),(QDH f),(QDq g),(280,.rowz true 56 [.int .i64,.int .i64] l.length fun i=>QA.enc (l.getD i ⟨0,0⟩)),(0,.frz V3 x.d.ps.n fun i=>QA.enc
  (x.d.ps.get i)),(1,.frz V3 x.scans.n fun i=>QA.enc (x.scans.get i)),(Z8 x),(Ww x),(Wi C x),Wh,(QCX f),(QBp g),(Wt C)]
theorem QPv(pb1 pb2:List Prop→Bool)(x:QE)(C:List (List QB))(ac body:Code)(cs l l2:List QB)(has has2:Int→Bool)(many:Int)(f g:List QB)(k:Nat)(has':Int→Bool)(many':Int)(f' g':List QB)(g0:Nat→Value):exec (mkC Try.prog (Zm pb1 pb2 x C l2 (trU x C ac body l2 has2 many f g has' many' f' g'))) (hnd (mkC Try.prog (Zm pb1 pb2 x C l2 (trU x C ac body l2 has2 many f g has'
  many' f' g'))) 0) (Qa Try.f77 0) (JSt.inst (trJ x C ac body cs l has many f g k) g0) (KL WW ju) = .br (decide ((k:Int)<(cs.length:Int))) (.need (decide ((0:Int) ≤
  (k:Int)∧(k:Int)<(cs.length:Int))&&decide (cs.length≤cs.length)) (.need (decide (k<cs.length)) (.all (fun(g0:Nat→Value) => .need (isI i64 (.int false
  .i64 (QL l (cs.getD k ⟨0,0⟩).cell))) (.br (decide (toI (.int false .i64 (QL l (cs.getD k ⟨0,0⟩).cell))≥bif (cs.getD k ⟨0,0⟩).cell == -2 then x.foreign else (1:Int)))
  (.leaf (.tup (qy cs k)) ((QA8 C ac body cs f g has l many x))) (.need (decide (l.length≤l.length)&&(true&&decide ((l.length+1+(l.length+1) / 4+192)*16 ≤
  281474976710656∧l.length+1≤9223372036854775807))) (.need (isI i64 (.int false .i64 (QL l (cs.getD k ⟨0,0⟩).cell))) (.need (pb1 ((QL3 C cs k l l2 x))) (.br (!Ku
  x l2) (.need (isI i64 (Bool.rec ((fun _=>(fun i => .int false .i64 (QL l i)) ((fun i=>QA.enc (cs.getD i ⟨0,0⟩)) ((k:Int).toNat+0) 0)) ()) ((fun _ => .int false
  .i64 (i64.wrap (toI ((fun i => .int false .i64 (QL l i)) ((fun i=>QA.enc (cs.getD i ⟨0,0⟩)) ((k:Int).toNat+0) 0))+1))) ()) (decide ((fun i=>QA.enc (cs.getD
  i ⟨0,0⟩)) ((k:Int).toNat+0) 0=(fun i=>QA.enc (cs.getD i ⟨0,0⟩)) ((k:Int).toNat+0) 0)))) (.need (decide ((0:Int)≤i64.wrap ((↑(l.length+1):Int)-1) ∧
  (i64.wrap ((↑(l.length+1):Int)-1)).toNat≤l.length+1-0)) (.leaf (.tup (qy cs k)) ((QEq C ac body cs f g has k l many x))))) (.need (pb2 ((QKe C ac body cs f g
  has has2 k l l2 many x))) (.need (isI i64 (.int false .i64 (QL l2 (cs.getD k ⟨0,0⟩).cell))) (.need (decide ((0:Int)≤i64.wrap ((l2.length:Int)-1) ∧
  (i64.wrap ((l2.length:Int)-1)).toNat≤l2.length-0)) (.br (false) (.leaf (.tup [.nili,.ptr 98 0 0,.bool true false]) ([(QA4 l2),(HB cs has' k l2),(j9 ac
  body x),(GN many'),(G1 f'),(QAd g'),(zq l2),(0,.frz V3 x.d.ps.n fun i=>QA.enc (x.d.ps.get i)),(1,.frz V3 x.scans.n fun i=>QA.enc (x.scans.get i)),
  (Z8 x),(Ww x),(Wi C x),Wh,(QAw f'),(QAu g'),(Wt C)])) (.leaf (.tup (qy cs k)) ((QJu C ac body cs f' g' has' k l2 many' x)))))))))))))))) (.leaf (.tup [.ptr
  0 0 0,.ptr 98 0 0]) ((QCy C ac body f g has l many x))):=by kernel_rfl
noncomputable abbrev QBd:List AV:=
  [.ptr 200 0 0,.ptr 128 0 0,.ptr 184 0 0,.ptr 168 0 0,.ptr 208 0 0,.slz 304 0 cs.length cO,vi (cs.length:Int),vi (i64.wrap ((k :
  Int)+1))]
abbrev Vs:List Prop:=
  [0=0,0=0,0=0,0=0,0=0,0=0]
abbrev QDf(k':Nat):List Prop:=
  [0=0,0=0,0=0,0=0,0=0,cs.length=cs.length,cO=cO,(cs.length:Int)=(cs.length:Int),i64.wrap ((k:Int)+1)=(k':Int),cs.length ≤
  cs.length,QD 2 cs.length (fun i=>QA.enc (cs.getD i ⟨0,0⟩)) fun i=>QA.enc (cs.getD i ⟨0,0⟩),0=0]
abbrev QFy(l:List QB):List Prop:=
  [l.length=l.length,cO=cO,l.length≤l.length,QD 2 l.length (fun i=>QA.enc (l.getD i ⟨0,0⟩)) fun i=>QA.enc (l.getD i ⟨0,0⟩),Kt (.int true .i64 0)
  (.int true .i64 0) has has (fun i => .int false .i64 (QL l i)) fun i => .int false .i64 (QL l i),LoopState.ready=LoopState.ready,(none:Option Code)=none,Array.mk [18] =
  Array.mk [(18:Tmp)]]
abbrev VM:List Prop:=
  [x.d.play.slack=x.d.play.slack,x.d.play.loose=x.d.play.loose,x.d.play.damp.lo=x.d.play.damp.lo,x.d.play.damp.hi=x.d.play.damp.hi,x.d.wide=x.d.wide,x.d.high =
  x.d.high,x.d.turn=x.d.turn,0=0,x.d.ps.n=x.d.ps.n,cO=cO,0=0,x.scans.n=x.scans.n,cO=cO,0=0,x.hang.n=x.hang.n,cO=cO]
abbrev vC:List Prop:=
  [0=0,(0:Int)=0,0=0,0=0,0=0,0=0,(0:Int)=0,x.d.play.length=x.d.play.length]
abbrev QBq:List Prop:=
  [0=0,0=0,(0:Int)=0,0=0,0=0,(0:Int)=0,(0:Int)=0,false=false,0=0,0=0,Fn.func (76:FuncId)=Fn.func (76:FuncId),0=0,0=0,many=many,0 =
  0,f.length=f.length,cO=cO,f.length≤f.length,QD 2 f.length (fun i=>QA.enc (f.getD i ⟨0,0⟩)) fun i=>QA.enc (f.getD i ⟨0,0⟩),0=0,g.length =
  g.length,cO=cO,g.length≤g.length,QD 2 g.length (fun i=>QA.enc (g.getD i ⟨0,0⟩)) fun i=>QA.enc (g.getD i ⟨0,0⟩)]
abbrev QCW:List Prop:=
  [x.lost=x.lost,x.foreign=x.foreign,0=0,C.length=C.length,cO=cO,C.length=C.length,K0 2 C.length (fun i=>(QM C i).length) (fun i=>(QM C
  i).length) (fun i j=>QA.enc ((QM C i).getD j ⟨0,0⟩)) fun i j=>QA.enc ((QM C i).getD j ⟨0,0⟩),x.d.ps.n≤x.d.ps.n,QD 28 x.d.ps.n (fun i=>QA.enc (x.d.ps.get
  i)) fun i=>QA.enc (x.d.ps.get i),x.scans.n≤x.scans.n,QD 28 x.scans.n (fun i=>QA.enc (x.scans.get i)) fun i=>QA.enc (x.scans.get i),x.hang.n≤x.hang.n,QD 4
  x.hang.n (fun i=>QA.enc (x.hang.get i)) fun i=>QA.enc (x.hang.get i)]
theorem QG0(C:List (List QB))(ac body:Code)(cs l:List QB)(has:Int→Bool)(many:Int)(f g:List QB)(k k':Nat):QK 272 (QBd cs k) ((QA8 C ac body cs f g has l many x)) (trJ x C ac body cs l has many f g k')=(some (Vs++(QDf cs k k')++(QFy has l)++[ac=ac,body=body,
  x.d.play.length=x.d.play.length]++(VM x)++[x.lost=x.lost,x.foreign=x.foreign]++Vs++[0=0]++(vC x)++(VM x)++[x.lost=x.lost,x.foreign=x.foreign]
  ++ (QBq f g many)++[Fn.func 77=Fn.func (77:FuncId)]++Vs++Vs++[x.d.play.length=x.d.play.length]++(VM x)++[x.lost=x.lost,x.foreign=x.foreign,
  x.d.play.length=x.d.play.length]++(VM x)++(QCW C x))):=by kernel_rfl
theorem QL1(x:QE)(C:List (List QB))(ac body:Code)(cs l:List QB)(has h':Int→Bool)(many:Int)(f g:List QB)(k k':Nat):QK 272 (QBd cs k) ((QEq C ac body cs f g has k l many x)) (trJ x C ac body cs l h' many f g k')=(some (Vs++(QDf cs k k')++[(i64.wrap ((↑(l.length+1) :
  Int)-1)).toNat=l.length,cO=cO,l.length≤l.length+1,QD 2 l.length (QX l.length (fun i=>QA.enc (l.getD i ⟨0,0⟩)) (QR [(GM cs k)] 0)) fun i=>
  QA.enc (l.getD i ⟨0,0⟩),Kt (.int true .i64 0) (.int true .i64 0) (Ql (cs.getD k ⟨0,0⟩).cell true (Ql (cs.getD k ⟨0,0⟩).cell true has)) h' (KQ (cs.getD k ⟨0,0⟩).cell
  (.int false .i64 (i64.wrap (toI (Bool.rec ((fun x=>(fun i => .int false .i64 (QL l i)) ((fun i=>QA.enc (cs.getD i ⟨0,0⟩)) ((k:Int).toNat+0) 0)) ()) ((fun x=>
  .int false .i64 (i64.wrap (toI ((fun i => .int false .i64 (QL l i)) ((fun i=>QA.enc (cs.getD i ⟨0,0⟩)) ((k:Int).toNat+0) 0))+1))) ()) (decide ((fun i=>
  QA.enc (cs.getD i ⟨0,0⟩)) ((k:Int).toNat+0) 0=(fun i=>QA.enc (cs.getD i ⟨0,0⟩)) ((k:Int).toNat+0) 0)))-1))) (KQ (cs.getD k ⟨0,0⟩).cell (.int false .i64
  (i64.wrap (toI (.int false .i64 (QL l (cs.getD k ⟨0,0⟩).cell))+1))) fun i => .int false .i64 (QL l i))) fun i => .int false .i64 (QL l i),LoopState.ready =
  LoopState.ready,(none:Option Code)=none,Array.mk [18]=Array.mk [(18:Tmp)],ac=ac,body=body,x.d.play.length=x.d.play.length]++(VM x)++[x.lost=x.lost,
  x.foreign=x.foreign]++Vs++[0=0]++(vC x)++(VM x)++[x.lost=x.lost,x.foreign=x.foreign]++(QBq f g many)++[Fn.func 77=Fn.func (77:FuncId)]++Vs
  ++ Vs++[x.d.play.length=x.d.play.length]++(VM x)++[x.lost=x.lost,x.foreign=x.foreign,x.d.play.length=x.d.play.length]++(VM x)++(QCW C x))):=by kernel_rfl
abbrev QJc(h':Int→Bool)(has':Int→Bool)(k:Nat)(l:List QB)(l2:List QB):List Prop:=
  [(i64.wrap ((l2.length:Int)-1)).toNat=l.length,cO=cO,l.length≤l2.length,QD 2 l.length (fun i=>QA.enc (l2.getD i ⟨0,0⟩)) fun i=>QA.enc
  (l.getD i ⟨0,0⟩),Kt (.int true .i64 0) (.int true .i64 0) (Ql (cs.getD k ⟨0,0⟩).cell true has') h' (KQ (cs.getD k ⟨0,0⟩).cell (.int false .i64 (i64.wrap (toI
  (.int false .i64 (QL l2 (cs.getD k ⟨0,0⟩).cell))-1))) fun i => .int false .i64 (QL l2 i)) fun i => .int false .i64 (QL l i)]
abbrev QMB:List Prop:=
  [0=0,0=0,(0:Int)=0,0=0,0=0,(0:Int)=0,(0:Int)=0,false=false,0=0,0=0,Fn.func (76:FuncId)=Fn.func (76:FuncId),0=0,0=0,many'=many',0
  = 0,f'.length=f'.length,cO=cO,f'.length≤f'.length,QD 2 f'.length (fun i=>QA.enc (f'.getD i ⟨0,0⟩)) fun i=>QA.enc (f'.getD i ⟨0,0⟩),0=0,
  g'.length=g'.length,cO=cO,g'.length≤g'.length,QD 2 g'.length (fun i=>QA.enc (g'.getD i ⟨0,0⟩)) fun i=>QA.enc (g'.getD i ⟨0,0⟩)]
theorem QTz(C:List (List QB))(ac body:Code)(cs l l2:List QB)(k:Nat)(has' h':Int→Bool)(many':Int)(f' g':List QB)(k':Nat):QK 272 (QBd cs k) ((QJu C ac body cs f' g' has' k l2 many' x)) (trJ x C ac body cs l h' many' f' g' k')=(some (Vs++(QDf cs k k')++(QJc cs h' has' k l l2) ++
  [LoopState.ready=LoopState.ready,(none:Option Code)=none,Array.mk [18]=Array.mk [(18:Tmp)],ac=ac,body=body,x.d.play.length=x.d.play.length]++(VM x) ++
  [x.lost=x.lost,x.foreign=x.foreign]++Vs++[0=0]++(vC x)++(VM x)++[x.lost=x.lost,x.foreign=x.foreign]++(QMB f' g' many')++[Fn.func 77=Fn.func
  (77:FuncId)]++Vs++Vs++[x.d.play.length=x.d.play.length]++(VM x)++[x.lost=x.lost,x.foreign=x.foreign,x.d.play.length=x.d.play.length]++(VM x) ++
  (QCW C x))):=by kernel_rfl
theorem QFT(C:List (List QB))(ac body:Code)(l:List QB)(has:Int→Bool)(many:Int)(f g:List QB):QK 272 [] ((QCy C ac body f g has l many x)) (trE x ac body l has many f g)=(some ([0=0]++(QFy has l)++[ac=ac,body=body,x.d.play.length=x.d.play.length] ++
  (VM x)++[x.lost=x.lost,x.foreign=x.foreign]++Vs++[0=0]++(vC x)++(VM x)++[x.lost=x.lost,x.foreign=x.foreign]++(QBq f g many))):=by kernel_rfl
noncomputable abbrev QE1(has':Int→Bool)(k:Nat)(l2:List QB)(many':Int)(x:QE):List (Nat×Blk):=
  [(QA4 l2),(HB cs has' k l2),(161,.lp LoopState.done (some (Code.exit 0)) (trT x) (Array.mk [18]) ac body),(GN many'),(G1 f'),(QAd g'),(zq l2),(0,.frz V3
  x.d.ps.n fun i=>QA.enc (x.d.ps.get i)),(1,.frz V3 x.scans.n fun i=>QA.enc (x.scans.get i)),(Z8 x),(Ww x),(Wi C x),Wh,(QAw f'),(QAu g'),(Wt C)]
theorem QRg(pb1 pb2:List Prop→Bool)(x:QE)(C:List (List QB))(ac body:Code)(cs l l2:List QB)(has has2:Int→Bool)(many:Int)(f g:List QB)(k:Nat)(has':Int→Bool)(many':Int)(f' g':List QB)(g0:Nat→Value):exec (mkC Try.prog (Zm pb1 pb2 x C l2 (trV x C ac body l2 has2 many f g has' many' f' g'))) (hnd (mkC Try.prog (Zm pb1 pb2 x C l2 (trV x C ac body l2 has2 many f g has'
  many' f' g'))) 0) (Qa Try.f77 0) (JSt.inst (trJ x C ac body cs l has many f g k) g0) (KL WW ju) = .br (decide ((k:Int)<(cs.length:Int))) (.need (decide ((0:Int) ≤
  (k:Int)∧(k:Int)<(cs.length:Int))&&decide (cs.length≤cs.length)) (.need (decide (k<cs.length)) (.all (fun(g0:Nat→Value) => .need (isI i64 (.int false
  .i64 (QL l (cs.getD k ⟨0,0⟩).cell))) (.br (decide (toI (.int false .i64 (QL l (cs.getD k ⟨0,0⟩).cell))≥bif (cs.getD k ⟨0,0⟩).cell == -2 then x.foreign else (1:Int)))
  (.leaf (.tup (qy cs k)) ((QA8 C ac body cs f g has l many x))) (.need (decide (l.length≤l.length)&&(true&&decide ((l.length+1+(l.length+1) / 4+192)*16 ≤
  281474976710656∧l.length+1≤9223372036854775807))) (.need (isI i64 (.int false .i64 (QL l (cs.getD k ⟨0,0⟩).cell))) (.need (pb1 ((QL3 C cs k l l2 x))) (.br (!Ku
  x l2) (.need (isI i64 (Bool.rec ((fun _=>(fun i => .int false .i64 (QL l i)) ((fun i=>QA.enc (cs.getD i ⟨0,0⟩)) ((k:Int).toNat+0) 0)) ()) ((fun _ => .int false
  .i64 (i64.wrap (toI ((fun i => .int false .i64 (QL l i)) ((fun i=>QA.enc (cs.getD i ⟨0,0⟩)) ((k:Int).toNat+0) 0))+1))) ()) (decide ((fun i=>QA.enc (cs.getD
  i ⟨0,0⟩)) ((k:Int).toNat+0) 0=(fun i=>QA.enc (cs.getD i ⟨0,0⟩)) ((k:Int).toNat+0) 0)))) (.need (decide ((0:Int)≤i64.wrap ((↑(l.length+1):Int)-1) ∧
  (i64.wrap ((↑(l.length+1):Int)-1)).toNat≤l.length+1-0)) (.leaf (.tup (qy cs k)) ((QEq C ac body cs f g has k l many x))))) (.need (pb2 ((QKe C ac body cs f g
  has has2 k l l2 many x))) (.need (isI i64 (.int false .i64 (QL l2 (cs.getD k ⟨0,0⟩).cell))) (.need (decide ((0:Int)≤i64.wrap ((l2.length:Int)-1) ∧
  (i64.wrap ((l2.length:Int)-1)).toNat≤l2.length-0)) (.br (true) (.leaf (.tup [.nili,.ptr 98 0 0,.bool true false]) ((QE1 C ac body cs f' g' has' k l2 many' x)))
  (.leaf (.tup (qy cs k)) ([(QA4 l2),(HB cs has' k l2),(161,.lp LoopState.done (some (Code.exit 0)) (trT x) (Array.mk [18]) ac body),(GN many'),(G1 f'),(QAd g'),
  Wh,(184,.cellsR 0 63 [.map 176]),(168,.cellsR 0 123 [.yld 161]),QAR,(HT cs),(zq l2),(0,.frz V3 x.d.ps.n fun i=>QA.enc (x.d.ps.get i)),(1,.frz V3
  x.scans.n fun i=>QA.enc (x.scans.get i)),(Z8 x),(Ww x),(Wi C x),(QAw f'),(QAu g'),(Wt C)]))))))))))))))) (.leaf (.tup [.ptr 0 0 0,.ptr 98 0 0]) ((QCy C ac
  body f g has l many x))):=by kernel_rfl
theorem QSy(C:List (List QB))(ac body:Code)(cs l l2:List QB)(k:Nat)(has' h':Int→Bool)(many':Int)(f' g':List QB):QK 272 [.bool true false] ((QE1 C ac body cs f' g' has' k l2 many' x)) (trF x ac body l h' many' f' g')=(some ([false=false,0=0]++(QJc cs h' has' k l l2) ++
  [LoopState.done=LoopState.done,some (Code.exit 0)=some (Code.exit 0),Array.mk [18]=Array.mk [(18:Tmp)],ac=ac,body=body,x.d.play.length=x.d.play.length]++(VM
  x)++[x.lost=x.lost,x.foreign=x.foreign]++Vs++[0=0]++(vC x)++(VM x)++[x.lost=x.lost,x.foreign=x.foreign]++(QMB f' g' many'))):=by kernel_rfl
def ZB(m:Int)(l f:List QB):List QB:=match m==1 with
 | true=>l
 | false=>f
def Zg(m:Int)(l g:List QB):List QB:=match m==1 with
 | true=>g
 | false=>match m==2 with
  | true=>l
  | false=>g
abbrev TrS:=Int×List QB×List QB
def trY(s:TrS)(l:List QB):TrS×Bool:=((i64.wrap (s.1+1),ZB (i64.wrap (s.1+1)) l s.2.1,Zg (i64.wrap (s.1+1)) l s.2.2),!(i64.wrap (s.1+1)==100))
def YZ(C:List (List QB))(ac body:Code)(l:List QB)(has:Int→Bool)(s:TrS):Res TrS→UC
 | .go s' h'=>trU x C ac body l has s.1 s.2.1 s.2.2 h' s'.1 s'.2.1 s'.2.2
 | .stop s' h'=>trV x C ac body l has s.1 s.2.1 s.2.2 h' s'.1 s'.2.1 s'.2.2
abbrev TrK:=Nat×TrS×(Int→Bool)
def VR(C:List (List QB))(d:Nat)(l:List QB)(s:TrS)(h:Int→Bool)(c:QB):Res TrS:=onT x C trY d (l++[c]) s h
noncomputable def WA(P:Program)(x:QE)(C:List (List QB))(ac body:Code)(d:Nat)(cs l:List QB)(t:TrK):Env:=
 mkC P (Zm (kPb cs t.1) (kPb cs t.1) x C (l++[cs.getD t.1 ⟨0,0⟩]) (YZ x C ac body (l++[cs.getD t.1 ⟨0,0⟩]) (Ql (cs.getD t.1 ⟨0,0⟩).cell true t.2.2) t.2.1 (VR x C d l t.2.1 (Ql (cs.getD t.1 ⟨0,0⟩).cell true t.2.2) (cs.getD t.1 ⟨0,0⟩))))
def Vb(C:List (List QB))(ac body:Code)(d:Nat)(cs l:List QB)(t:TrK)(e:Ex)(J:JSt):Prop:=match Jt (JG x l (VR x C d l)) (cs.drop t.1) t.2.1 t.2.2 with
 | .go s h=>e = .exit 0∧J=trE x ac body l h s.1 s.2.1 s.2.2
 | .stop s h=>e = .ret∧J=trF x ac body l h s.1 s.2.1 s.2.2
set_option maxHeartbeats 3200000 in
theorem QRD(C:List (List QB))(ac body:Code)(d:Nat)(cs l:List QB)(hcs:cs.length≤1000)(hl:l.length≤1000):zJ (fun t:TrK=>trJ x C ac body cs l t.2.2 t.2.1.1 t.2.1.2.1 t.2.1.2.2 t.1) (fun t=>t.1≤cs.length) (fun t=>cs.length-t.1) (Vb x C ac body d cs l) 272 ju WW (WA Try.prog x C ac body d cs l) (fun t=>hnd (WA Try.prog x C ac body d cs l t) 0) (Qa Try.f77 0):=by
 refine⟨fun t g0 hk => ?_⟩;obtain⟨k,⟨many,f,g⟩,has⟩:=t;have hk:k≤cs.length:=hk;unfold WA;simp only;cases hrec:VR x C d l (many,f,g) (Ql (cs.getD k ⟨0,0⟩).cell true has) (cs.getD k ⟨0,0⟩)with
 | go s' h'=>
  refine KB (QPv (kPb cs k) (kPb cs k) x C ac body cs l (l++[cs.getD k ⟨0,0⟩]) has (Ql (cs.getD k ⟨0,0⟩).cell true has) many f g k h' s'.1 s'.2.1 s'.2.2 g0) ?_;refine QI (fun h => ?_) (fun h => ?_)
  ·have h:k<cs.length:=by have:=qdt h;omega
   have hw:=JO h hcs;have hpb:kPb cs k=Qn:=by unfold kPb;rw[decide_eq_true h]
   rw[hpb];have step:=QD3 (f:=JG x l (VR x C d l)) h (many,f,g) has
   have next:∀{s2:TrS} {h2:Int→Bool},JG x l (VR x C d l) (many,f,g) has (cs.getD k ⟨0,0⟩) = .go s2 h2→∀ e J,Vb x C ac body d cs l (k+1,s2,h2) e J→Vb x C ac body d cs l (k,(many,f,g),has) e J:=by
    intro s2 h2 he e J hr;unfold Vb at hr ⊢;simp only at hr ⊢;rw[step,he];exact hr
   have one:∀ b,JX x l (cs.getD k ⟨0,0⟩)=b→JG x l (VR x C d l) (many,f,g) has (cs.getD k ⟨0,0⟩)=match b with
     | true => .go (many,f,g) has
     | false=>match Ku x (l++[cs.getD k ⟨0,0⟩])with
      | false => .go (many,f,g) (Ql (cs.getD k ⟨0,0⟩).cell true (Ql (cs.getD k ⟨0,0⟩).cell true has))
      | true => .go s' (Ql (cs.getD k ⟨0,0⟩).cell true h'):=by
    intro b hb;unfold JG;rw[hb,hrec];cases b
    ·cases Ku x (l++[cs.getD k ⟨0,0⟩])<;>rfl
    ·rfl
   refine QF (by simp;omega) (QF (by simp;omega) (KX fun _ => ?_))
   refine QF rfl (QI (fun hf => ?_) (fun hf=>QF (by simp;omega) (QF rfl (QF (JB.2 ?_) (QI (fun hq => ?_) (fun hq => ?_))))))
   ·have hf:JX x l (cs.getD k ⟨0,0⟩)=true:=Yr.trans hf;refine⟨(k+1,(many,f,g),has),h,by show cs.length-(k+1)<cs.length-k;omega,next (one _ hf),rfl,rfl,_,QG0 x C ac body cs l has many f g k (k+1),?_⟩
    repeat' first|with_reducible refine QO ?_ ?_|exact trivial|with_reducible rfl|exact qlr _|exact qRr|exact Qh _ _ _ _|exact Jf _ _ _|exact hw|refine And.intro ?_ ?_
   ·repeat' first|with_reducible refine QO ?_ ?_|exact trivial|with_reducible rfl|exact qlr _|exact qRr|exact Qh _ _ _ _|exact jT _ _|exact qS _ _|exact jK _ _ _ rfl|refine And.intro ?_ ?_
   ·have hf:JX x l (cs.getD k ⟨0,0⟩)=false:=Yr.trans hf;have hq:Ku x (l++[cs.getD k ⟨0,0⟩])=false:=by simpa using hq
    have hp:=QEj l hl;have hp1:i64.wrap (((l.length+1:Nat):Int)-1)=l.length:=(w64 (by omega) (by omega)).trans (by omega)
    have ho:=one _ hf;rw[hq]at ho;refine QF (by simp[isI]) (QF (by rw[hp1];simp) ?_)
    refine⟨(k+1,(many,f,g),Ql (cs.getD k ⟨0,0⟩).cell true (Ql (cs.getD k ⟨0,0⟩).cell true has)),h,by show cs.length-(k+1)<cs.length-k;omega,next ho,rfl,rfl,_,QL1 x C ac body cs l has (Ql (cs.getD k ⟨0,0⟩).cell true (Ql (cs.getD k ⟨0,0⟩).cell true has)) many f g k (k+1),?_⟩
    repeat' first|with_reducible refine QO ?_ ?_|exact trivial|with_reducible rfl|exact qlr _|exact qRr|exact Qh _ _ _ _|exact hw|exact hp|exact Nat.le_succ _|exact QDG _ _|exact QBL _ _ _ hl (by simp[toI];rfl) _|refine And.intro ?_ ?_
   ·have hf:JX x l (cs.getD k ⟨0,0⟩)=false:=Yr.trans hf;have hq:Ku x (l++[cs.getD k ⟨0,0⟩])=true:=by simpa using hq
    have hp:=QD9 l (cs.getD k ⟨0,0⟩) hl
    have hp1:i64.wrap (((l++[cs.getD k ⟨0,0⟩]).length:Int)-1)=l.length:=by
     rw[List.length_append,List.length_singleton];exact(w64 (by omega) (by omega)).trans (by omega)
    have ho:=one _ hf;rw[hq]at ho;refine QF (JB.2 ?_) (QF rfl (QF (by rw[hp1];simp) (QI (fun q=>by cases q) (fun _ => ?_))))
    ·repeat' first|with_reducible refine QO ?_ ?_|exact trivial|with_reducible rfl|exact qlr _|exact qRr|exact Qh _ _ _ _|exact jT _ _|exact qS _ _|exact jK _ _ _ rfl|exact QCx _ _ hl rfl _|refine And.intro ?_ ?_
    refine⟨(k+1,s',Ql (cs.getD k ⟨0,0⟩).cell true h'),h,by show cs.length-(k+1)<cs.length-k;omega,next ho,rfl,rfl,_,QTz x C ac body cs l (l++[cs.getD k ⟨0,0⟩]) k h' (Ql (cs.getD k ⟨0,0⟩).cell true h') s'.1 s'.2.1 s'.2.2 (k+1),?_⟩
    repeat' first|with_reducible refine QO ?_ ?_|exact trivial|with_reducible rfl|exact qlr _|exact qRr|exact Qh _ _ _ _|exact hw|exact hp|exact(by simp:l.length≤(l++[cs.getD k ⟨0,0⟩]).length)|exact QD5 _ _|exact QDP _ _ hl rfl _|refine And.intro ?_ ?_
  ·have h:cs.length≤k:=by have:=of_decide_eq_false h;omega
   have he:=QEn (f:=JG x l (VR x C d l)) h (many,f,g) has;refine⟨trE x ac body l has many f g,by unfold Vb;simp only[he,and_self],rfl,rfl,_,QFT x C ac body l has many f g,?_⟩
   repeat' first|with_reducible refine QO ?_ ?_|exact trivial|with_reducible rfl|exact qlr _|exact qRr|exact Qh _ _ _ _|exact Jf _ _ _|refine And.intro ?_ ?_
 | stop s' h'=>
  refine KB (QRg (kPb cs k) (kPb cs k) x C ac body cs l (l++[cs.getD k ⟨0,0⟩]) has (Ql (cs.getD k ⟨0,0⟩).cell true has) many f g k h' s'.1 s'.2.1 s'.2.2 g0) ?_;refine QI (fun h => ?_) (fun h => ?_)
  ·have h:k<cs.length:=by have:=qdt h;omega
   have hw:=JO h hcs;have hpb:kPb cs k=Qn:=by unfold kPb;rw[decide_eq_true h]
   rw[hpb];have step:=QD3 (f:=JG x l (VR x C d l)) h (many,f,g) has
   have next:∀{s2:TrS} {h2:Int→Bool},JG x l (VR x C d l) (many,f,g) has (cs.getD k ⟨0,0⟩) = .go s2 h2→∀ e J,Vb x C ac body d cs l (k+1,s2,h2) e J→Vb x C ac body d cs l (k,(many,f,g),has) e J:=by
    intro s2 h2 he e J hr;unfold Vb at hr ⊢;simp only at hr ⊢;rw[step,he];exact hr
   have one:∀ b,JX x l (cs.getD k ⟨0,0⟩)=b→JG x l (VR x C d l) (many,f,g) has (cs.getD k ⟨0,0⟩)=match b with
     | true => .go (many,f,g) has
     | false=>match Ku x (l++[cs.getD k ⟨0,0⟩])with
      | false => .go (many,f,g) (Ql (cs.getD k ⟨0,0⟩).cell true (Ql (cs.getD k ⟨0,0⟩).cell true has))
      | true => .stop s' (Ql (cs.getD k ⟨0,0⟩).cell true h'):=by
    intro b hb;unfold JG;rw[hb,hrec];cases b
    ·cases Ku x (l++[cs.getD k ⟨0,0⟩])<;>rfl
    ·rfl
   refine QF (by simp;omega) (QF (by simp;omega) (KX fun _ => ?_))
   refine QF rfl (QI (fun hf => ?_) (fun hf=>QF (by simp;omega) (QF rfl (QF (JB.2 ?_) (QI (fun hq => ?_) (fun hq => ?_))))))
   ·have hf:JX x l (cs.getD k ⟨0,0⟩)=true:=Yr.trans hf;refine⟨(k+1,(many,f,g),has),h,by show cs.length-(k+1)<cs.length-k;omega,next (one _ hf),rfl,rfl,_,QG0 x C ac body cs l has many f g k (k+1),?_⟩
    repeat' first|with_reducible refine QO ?_ ?_|exact trivial|with_reducible rfl|exact qlr _|exact qRr|exact Qh _ _ _ _|exact Jf _ _ _|exact hw|refine And.intro ?_ ?_
   ·repeat' first|with_reducible refine QO ?_ ?_|exact trivial|with_reducible rfl|exact qlr _|exact qRr|exact Qh _ _ _ _|exact jT _ _|exact qS _ _|exact jK _ _ _ rfl|refine And.intro ?_ ?_
   ·have hf:JX x l (cs.getD k ⟨0,0⟩)=false:=Yr.trans hf;have hq:Ku x (l++[cs.getD k ⟨0,0⟩])=false:=by simpa using hq
    have hp:=QEj l hl;have hp1:i64.wrap (((l.length+1:Nat):Int)-1)=l.length:=(w64 (by omega) (by omega)).trans (by omega)
    have ho:=one _ hf;rw[hq]at ho;refine QF (by simp[isI]) (QF (by rw[hp1];simp) ?_)
    refine⟨(k+1,(many,f,g),Ql (cs.getD k ⟨0,0⟩).cell true (Ql (cs.getD k ⟨0,0⟩).cell true has)),h,by show cs.length-(k+1)<cs.length-k;omega,next ho,rfl,rfl,_,QL1 x C ac body cs l has (Ql (cs.getD k ⟨0,0⟩).cell true (Ql (cs.getD k ⟨0,0⟩).cell true has)) many f g k (k+1),?_⟩
    repeat' first|with_reducible refine QO ?_ ?_|exact trivial|with_reducible rfl|exact qlr _|exact qRr|exact Qh _ _ _ _|exact hw|exact hp|exact Nat.le_succ _|exact QDG _ _|exact QBL _ _ _ hl (by simp[toI];rfl) _|refine And.intro ?_ ?_
   ·have hf:JX x l (cs.getD k ⟨0,0⟩)=false:=Yr.trans hf;have hq:Ku x (l++[cs.getD k ⟨0,0⟩])=true:=by simpa using hq
    have hp:=QD9 l (cs.getD k ⟨0,0⟩) hl
    have hp1:i64.wrap (((l++[cs.getD k ⟨0,0⟩]).length:Int)-1)=l.length:=by
     rw[List.length_append,List.length_singleton];exact(w64 (by omega) (by omega)).trans (by omega)
    have ho:=one _ hf;rw[hq]at ho;refine QF (JB.2 ?_) (QF rfl (QF (by rw[hp1];simp) (QI (fun _ => ?_) (fun q=>by cases q))))
    ·repeat' first|with_reducible refine QO ?_ ?_|exact trivial|with_reducible rfl|exact qlr _|exact qRr|exact Qh _ _ _ _|exact jT _ _|exact qS _ _|exact jK _ _ _ rfl|exact QCx _ _ hl rfl _|refine And.intro ?_ ?_
    have rel:Vb x C ac body d cs l (k,(many,f,g),has) .ret (trF x ac body l (Ql (cs.getD k ⟨0,0⟩).cell true h') s'.1 s'.2.1 s'.2.2):=by
     unfold Vb;simp only[step,ho,and_self]
    refine⟨_,rel,rfl,rfl,_,QSy x C ac body cs l (l++[cs.getD k ⟨0,0⟩]) k h' (Ql (cs.getD k ⟨0,0⟩).cell true h') s'.1 s'.2.1 s'.2.2,?_⟩
    repeat' first|with_reducible refine QO ?_ ?_|exact trivial|with_reducible rfl|exact qlr _|exact qRr|exact Qh _ _ _ _|exact hw|exact hp|exact(by simp:l.length≤(l++[cs.getD k ⟨0,0⟩]).length)|exact QD5 _ _|exact QDP _ _ hl rfl _|refine And.intro ?_ ?_
  ·have h:cs.length≤k:=by have:=of_decide_eq_false h;omega
   have he:=QEn (f:=JG x l (VR x C d l)) h (many,f,g) has;refine⟨trE x ac body l has many f g,by unfold Vb;simp only[he,and_self],rfl,rfl,_,QFT x C ac body l has many f g,?_⟩
   repeat' first|with_reducible refine QO ?_ ?_|exact trivial|with_reducible rfl|exact qlr _|exact qRr|exact Qh _ _ _ _|exact Jf _ _ _|refine And.intro ?_ ?_
end Go.Proofs.Ytbpffdkemeoajaa
