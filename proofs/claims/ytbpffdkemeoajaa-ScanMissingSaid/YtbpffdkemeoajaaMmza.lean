/- Missing: the search, its states (layer 7). -/
import Derived.Test.YtbpffdkemeoajaaMmz
set_option maxRecDepth 100000
namespace Go.Proofs.Ytbpffdkemeoajaa
open Go.SX
def QQ (fn:Func) (k:Nat):Code×Code:=match (Ke (Qm fn))[k]? with
 | some (.rangeFunc _ _ ac body)=>(ac,body)
 | _=>(.skip,.skip)
def srK (c:Nat) (x:QE) (C:List (List QA)):List AV:=JG 0 x++[.slz c 0 C.length (.of 0)]
def msT:List AV:=[.ptr 48 0 0,.int true .i64 0,.fn (.func 54) [.ptr 16 0 0,.ptr 24 0 0,.ptr 160 0 0],.tup [],.ptr 208 0 0,.ptr 216 0 0,.int true .i64 0,.bool true false,.ptr 240 0 0,.tup [],.ptr 48 0 0,.fn (.func 76) [.ptr 264 0 0],.tup [],.tup [],.tup [],.tup [],.tup [],.tup [],.tup [],.tup [],.tup [],.tup []]
def QAX:List AV:=[.ptr 336 0 0,.ptr 264 0 0,.ptr 320 0 0,.ptr 304 0 0,.ptr 344 0 0]
def msR (x:QE) (C:List (List QA)) (all:Int):List (Nat×Blk):=
 [(344,.cellsR 0 34 [.fn (.func 77) QAX]),(320,.cellsR 0 63 [.map 312]),(304,.cellsR 0 123 [.yld 297]),(264,.cellsR 0 89 [.ptr 48 0 0]),(216,.cellsR 0 101 [.fn (.func 54) [.ptr 16 0 0,.ptr 24 0 0,.ptr 160 0 0]]),(160,.cellsR 0 3 [.int false .i64 all]),(48,.cellsR 0 125 (srK 49 x C)),Yl false 49 C]++K9 0 x
def msW (ac body:Code) (l:List QA) (a:Nat) (has:Int→Bool) (many sure may:Int):List (Nat×Blk):=
 [(336,.cells 0 38 [.slz a 0 l.length (.of 0)]),rwL a l,(312,.mpf .i64 (.int true .i64 0) has fun i => .int false .i64 (QI l i)),(297,.lp .ready none msT #[12] ac body),(240,.cells 0 3 [.int false .i64 many]),(208,.cells 0 3 [.int false .i64 0]),(16,.cells 0 3 [.int false .i64 sure]),(24,.cells 0 3 [.int false .i64 may])]
def Hb (x:QE) (C:List (List QA)) (all:Int) (ac body:Code) (l:List QA) (has:Int→Bool) (many sure may:Int):JSt:=
 ⟨5,[(0,.ptr 336 0 0),(1,.ptr 264 0 0),(2,.ptr 320 0 0),(3,.ptr 304 0 0),(4,.ptr 344 0 0)],msW ac body l 384 has many sure may++msR x C all,392⟩
def Wn (pb:List Prop→Bool) (U:UC):Tab:=QX Qu 54 (Ji pb U)
def msU (x:QE) (C:List (List QA)) (all:Int) (ac body:Code) (l:List QA) (has:Int→Bool) (many sure may:Int) (has':Int→Bool) (many' sure' may':Int):UC:=
 ⟨376,Hb x C all ac body l has many sure may,fun _ => .bool false true,fun m=>msW ac body l m has' many' sure' may'⟩
def qO (pb1 pb2:List Prop→Bool) (x:QE) (C:List (List QA)) (l:List QA) (U:UC):Tab:=QX (QX Qu 78 (Ji pb1 (ftU x C l))) 77 (Ji pb2 U)
def msJ (x:QE) (C:List (List QA)) (all:Int) (ac body:Code) (cs l:List QA) (has:Int→Bool) (many sure may:Int) (k:Nat):JSt:=
 ⟨98,[(0,.ptr 336 0 0),(1,.ptr 264 0 0),(2,.ptr 320 0 0),(3,.ptr 304 0 0),(4,.ptr 344 0 0),(48,.slz 408 0 cs.length (.of 0)),(49,.int false .i64 cs.length),(50,.int false .i64 k)],
  (408,.frz [.int .i64,.int .i64] cs.length fun i=>QB.enc (cs.getD i ⟨0,0⟩))::msW ac body l 400 has many sure may++msR x C all,424⟩
def msE (ac body:Code) (l:List QA) (has:Int→Bool) (many sure may:Int):JSt:=⟨98,[],msW ac body l 400 has many sure may,424⟩
def Hz:Ex→List Nat
 | .normal=>[0,1,2,3,4,48,49,50]
 | .exit _=>[]
 | .ret=>[5]
def j9:List Nat:=[336,312,297,240,208,16,24]
abbrev qV (cs:List QA) (k:Nat):List AV:=
  [.nilp,.ptr 98 0 0,.ptr 336 0 0,.ptr 264 0 0,.ptr 320 0 0,.ptr 304 0 0,.ptr 344 0 0,.slz 408 0 cs.length (Cap.of 0),.int false .i64 (↑cs.length:Int),.int false .i64
  (IntKind.i64.wrap ((↑k:Int) + (1:Int)))]
abbrev YH (ac:Code) (body:Code):Nat×Blk:=
  (297,.lp LoopState.ready none msT (Array.mk [12]) ac body)
abbrev zH (many:Int):Nat×Blk:=
  (240,.cells 0 3 [.int false .i64 many])
abbrev YB:Nat×Blk:=
  (208,.cells 0 3 [.int false .i64 (0:Int)])
abbrev zD (sure:Int):Nat×Blk:=
  (16,.cells 0 3 [.int false .i64 sure])
abbrev Hn (may:Int):Nat×Blk:=
  (24,.cells 0 3 [.int false .i64 may])
abbrev Yk:Nat×Blk:=
  (264,.cellsR 0 89 [.ptr 48 0 0])
abbrev vM:Nat×Blk:=
  (344,.cellsR 0 34 [.fn (Fn.func 77) [.ptr 336 0 0,.ptr 264 0 0,.ptr 320 0 0,.ptr 304 0 0,.ptr 344 0 0]])
abbrev qn (cs:List QA):Nat×Blk:=
  (408,.frz [.int .i64,.int .i64] cs.length fun i=>QB.enc (cs.getD i (QA.mk (0:Int) (0:Int))))
abbrev YM (C:List (List QA)) (x:QE):Nat×Blk:=
  (48,.cellsR 0 125 [.int false .i64 x.d.play.length,.int false .i64 x.d.play.slack,.int false .i64 x.d.play.loose,.int false .i64 x.d.play.damp.lo,.int false .i64
  x.d.play.damp.hi,.int false .i64 x.d.wide,.int false .i64 x.d.high,.bool false x.d.turn,.slz 0 0 x.d.ps.n (Cap.of 0),.slz 1 0 x.scans.n (Cap.of 0),.slz 2 0 x.hang.n (Cap.of
  0),.int false .i64 x.lost,.int false .i64 x.foreign,.slz 49 0 C.length (Cap.of 0)])
abbrev YG (all:Int):Nat×Blk:=
  (160,.cellsR 0 3 [.int false .i64 all])
abbrev Yb:Nat×Blk:=
  (216,.cellsR 0 101 [.fn (Fn.func 54) [.ptr 16 0 0,.ptr 24 0 0,.ptr 160 0 0]])
abbrev Ju:List CK:=
  [.int .i64,.int .i64,.int .i64,.int .i64,.int .i64,.int .i64,.int .i64,.int .i64,.int .i64,.int .i64,.int .i64,.int .i64,.int .i64,.int .i64,.int .i64,.int .i64,.int
  .i64,.int .i64,.int .i64,.int .i64,.int .i64,.int .i64,.int .i64,.int .i64,.int .i64,.int .i64,.int .i64,.int .i64]
abbrev YQ (x:QE):Nat×Blk:=
  (2,.frz [.int .i64,.int .i64,.int .i64,.int .i64] x.hang.n fun i=>QB.enc (x.hang.get i))
abbrev Yd (C:List (List QA)):Nat×Blk:=
  (49,.frz2 false 38 [.int .i64,.int .i64] C.length (fun i=>(QJ C i).length) fun i j=>QB.enc ((QJ C i).getD j (QA.mk (0:Int) (0:Int))))
abbrev QA9 (C:List (List QA)) (ac:Code) (all:Int) (body:Code) (cs:List QA) (has:Int→Bool) (l:List QA) (many:Int) (may:Int) (sure:Int) (x:QE):List (Nat×Blk):=
  [(336,.cells 0 38 [.slz 400 0 l.length (Cap.of 0)]),(312,.mpf IntKind.i64 (.int true .i64 (0:Int)) has fun i => .int false .i64 (QI l i)),(YH ac body),(zH many),
  YB,(zD sure),(Hn may),Yk,(320,.cellsR 0 63 [.map 312]),(304,.cellsR 0 123 [.yld 297]),vM,(qn cs),(400,.rowz true 56 [.int .i64,.int .i64] l.length fun i
  => QB.enc (l.getD i (QA.mk (0:Int) (0:Int)))),(YM C x),(YG all),Yb,(0,.frz Ju x.d.ps.n fun i=>QB.enc (x.d.ps.get i)),(1,.frz Ju x.scans.n fun i=>
  QB.enc (x.scans.get i)),(YQ x),(Yd C)]
abbrev jq (cs:List QA) (k:Nat):List AV:=
  [.int false .i64 (cs.getD k (QA.mk (0:Int) (0:Int))).cell,.int false .i64 (cs.getD k (QA.mk (0:Int) (0:Int))).turn]
abbrev QDl (C:List (List QA)) (cs:List QA) (k:Nat) (l:List QA) (l2:List QA) (x:QE):List Prop:=
  [0=0,0=0,0=0,l.length + 1=l2.length,Cap.of 0=Cap.of 0,l2.length≤l.length + 1,QD 2 l2.length (Q1 l.length (fun i=>QB.enc (l.getD i (QA.mk (0:Int) (0
  : Int)))) (Qb [(jq cs k)] 0)) fun i=>QB.enc (l2.getD i (QA.mk (0:Int) (0:Int))),x.d.play.length=x.d.play.length,x.d.play.slack=x.d.play.slack,x.d.play.loose =
  x.d.play.loose,x.d.play.damp.lo=x.d.play.damp.lo,x.d.play.damp.hi=x.d.play.damp.hi,x.d.wide=x.d.wide,x.d.high=x.d.high,x.d.turn=x.d.turn,0=0,x.d.ps.n=x.d.ps.n,
  Cap.of 0=Cap.of 0,0=0,x.scans.n=x.scans.n,Cap.of 0=Cap.of 0,0=0,x.hang.n=x.hang.n,Cap.of 0=Cap.of 0,x.lost=x.lost,x.foreign=x.foreign,0=0,C.length =
  C.length,Cap.of 0=Cap.of 0,C.length=C.length,Kd 2 C.length (fun i=>(QJ C i).length) (fun i=>(QJ C i).length) (fun i j=>QB.enc ((QJ C i).getD j (QA.mk (0
  : Int) (0:Int)))) fun i j=>QB.enc ((QJ C i).getD j (QA.mk (0:Int) (0:Int))),x.d.ps.n≤x.d.ps.n,QD 28 x.d.ps.n (fun i=>QB.enc (x.d.ps.get i)) fun i=>
  QB.enc (x.d.ps.get i),x.scans.n≤x.scans.n,QD 28 x.scans.n (fun i=>QB.enc (x.scans.get i)) fun i=>QB.enc (x.scans.get i),x.hang.n≤x.hang.n,QD 4 x.hang.n
  (fun i=>QB.enc (x.hang.get i)) fun i=>QB.enc (x.hang.get i)]
noncomputable abbrev QJG (cs:List QA) (has:Int→Bool) (k:Nat) (l:List QA):Nat×Blk:=
  (312,.mpf IntKind.i64 (.int true .i64 (0:Int)) (Qh (cs.getD k (QA.mk (0:Int) (0:Int))).cell true (Qh (cs.getD k (QA.mk (0:Int) (0:Int))).cell true has)) (KI
  (cs.getD k (QA.mk (0:Int) (0:Int))).cell (.int false .i64 (IntKind.i64.wrap (toI (Bool.rec ((fun _=>(fun i => .int false .i64 (QI l i)) ((fun i=>QB.enc (cs.getD i
  (QA.mk (0:Int) (0:Int)))) ((↑k:Int).toNat + 0) 0)) ()) ((fun _ => .int false .i64 (IntKind.i64.wrap (toI ((fun i => .int false .i64 (QI l i)) ((fun i=>QB.enc (cs.getD
  i (QA.mk (0:Int) (0:Int)))) ((↑k:Int).toNat + 0) 0)) + (1:Int)))) ()) (decide ((fun i=>QB.enc (cs.getD i (QA.mk (0:Int) (0:Int)))) ((↑k:Int).toNat + 0) 0 =
  (fun i=>QB.enc (cs.getD i (QA.mk (0:Int) (0:Int)))) ((↑k:Int).toNat + 0) 0))) - (1:Int)))) (KI (cs.getD k (QA.mk (0:Int) (0:Int))).cell (.int false .i64
  (IntKind.i64.wrap (toI (.int false .i64 (QI l (cs.getD k (QA.mk (0:Int) (0:Int))).cell)) + (1:Int)))) fun i => .int false .i64 (QI l i))))
noncomputable abbrev QJP (C:List (List QA)) (ac:Code) (all:Int) (body:Code) (cs:List QA) (has:Int→Bool) (k:Nat) (l:List QA) (many:Int) (may:Int) (sure:Int) (x:QE):List (Nat×Blk):=
  [(336,.cells 0 38 [.slz 616 0 (IntKind.i64.wrap ((↑(l.length + 1):Int) - (1:Int))).toNat (Cap.of 0)]),(QJG cs has k l),(YH ac body),(zH many),YB,(zD sure),
  (Hn may),Yk,(320,.cellsR 0 63 [.map 312]),(304,.cellsR 0 123 [.yld 297]),vM,(qn cs),(616,.rowz true 56 [.int .i64,.int .i64] (l.length + 1) (Q1 l.length (fun
  i=>QB.enc (l.getD i (QA.mk (0:Int) (0:Int)))) (Qb [(jq cs k)] 0))),(YM C x),(YG all),Yb,(0,.frz Ju x.d.ps.n fun i=>QB.enc (x.d.ps.get i)),(1,.frz
  Ju x.scans.n fun i=>QB.enc (x.scans.get i)),(YQ x),(Yd C)]
abbrev QEz (C:List (List QA)) (ac:Code) (all:Int) (body:Code) (cs:List QA) (has:Int→Bool) (has2:Int→Bool) (k:Nat) (l:List QA) (l2:List QA) (many:Int) (may:Int) (sure:Int) (x:QE):List Prop:=
  [0=0,0=0,0=0,0=0,0=0,0=0,0=0,0=0,0=0,0=0,0=0,l.length + 1=l2.length,Cap.of 0=Cap.of 0,l2.length≤l.length + 1,QD 2 l2.length (Q1
  l.length (fun i=>QB.enc (l.getD i (QA.mk (0:Int) (0:Int)))) (Qb [(jq cs k)] 0)) fun i=>QB.enc (l2.getD i (QA.mk (0:Int) (0:Int))),Kn (.int true .i64 (0
  : Int)) (.int true .i64 (0:Int)) (Qh (cs.getD k (QA.mk (0:Int) (0:Int))).cell true has) has2 (KI (cs.getD k (QA.mk (0:Int) (0:Int))).cell (.int false .i64
  (IntKind.i64.wrap (toI (.int false .i64 (QI l (cs.getD k (QA.mk (0:Int) (0:Int))).cell)) + (1:Int)))) fun i => .int false .i64 (QI l i)) fun i => .int false .i64 (QI
  l2 i),LoopState.ready=LoopState.ready,(none:Option Code)=none,Array.mk [12]=Array.mk [12],ac=ac,body=body,0=0,0=0,(0:Int)=(0:Int),Fn.func 54=Fn.func
  54,0=0,0=0,0=0,0=0,0=0,0=0,0=0,0=0,0=0,0=0,(0:Int)=(0:Int),false=false,0=0,0=0,0=0,0=0,Fn.func 76=Fn.func 76,0=0,0=0,
  many=many,(0:Int)=(0:Int),sure=sure,may=may,Fn.func 77=Fn.func 77,0=0,0=0,0=0,0=0,0=0,0=0,0=0,0=0,0=0,0=0,0=0,0=0,Fn.func 54 =
  Fn.func 54,0=0,0=0,0=0,0=0,0=0,0=0,all=all,x.d.play.length=x.d.play.length,x.d.play.slack=x.d.play.slack,x.d.play.loose=x.d.play.loose,
  x.d.play.damp.lo=x.d.play.damp.lo,x.d.play.damp.hi=x.d.play.damp.hi,x.d.wide=x.d.wide,x.d.high=x.d.high,x.d.turn=x.d.turn,0=0,x.d.ps.n=x.d.ps.n,Cap.of 0 =
  Cap.of 0,0=0,x.scans.n=x.scans.n,Cap.of 0=Cap.of 0,0=0,x.hang.n=x.hang.n,Cap.of 0=Cap.of 0,x.lost=x.lost,x.foreign=x.foreign,0=0,C.length=C.length,
  Cap.of 0=Cap.of 0,C.length=C.length,Kd 2 C.length (fun i=>(QJ C i).length) (fun i=>(QJ C i).length) (fun i j=>QB.enc ((QJ C i).getD j (QA.mk (0:Int) (0
  : Int)))) fun i j=>QB.enc ((QJ C i).getD j (QA.mk (0:Int) (0:Int))),x.d.ps.n≤x.d.ps.n,QD 28 x.d.ps.n (fun i=>QB.enc (x.d.ps.get i)) fun i=>QB.enc
  (x.d.ps.get i),x.scans.n≤x.scans.n,QD 28 x.scans.n (fun i=>QB.enc (x.scans.get i)) fun i=>QB.enc (x.scans.get i),x.hang.n≤x.hang.n,QD 4 x.hang.n (fun i=>
  QB.enc (x.hang.get i)) fun i=>QB.enc (x.hang.get i)]
abbrev Gf (cs:List QA) (has':Int→Bool) (k:Nat) (l2:List QA):Nat×Blk:=
  (312,.mpf IntKind.i64 (.int true .i64 (0:Int)) (Qh (cs.getD k (QA.mk (0:Int) (0:Int))).cell true has') (KI (cs.getD k (QA.mk (0:Int) (0:Int))).cell (.int false
  .i64 (IntKind.i64.wrap (toI (.int false .i64 (QI l2 (cs.getD k (QA.mk (0:Int) (0:Int))).cell)) - (1:Int)))) fun i => .int false .i64 (QI l2 i)))
abbrev Gd (many':Int):Nat×Blk:=
  (240,.cells 0 3 [.int false .i64 many'])
abbrev vy (sure':Int):Nat×Blk:=
  (16,.cells 0 3 [.int false .i64 sure'])
abbrev zU (may':Int):Nat×Blk:=
  (24,.cells 0 3 [.int false .i64 may'])
abbrev QDU (C:List (List QA)) (ac:Code) (all:Int) (body:Code) (cs:List QA) (has':Int→Bool) (k:Nat) (l2:List QA) (many':Int) (may':Int) (sure':Int) (x:QE):List (Nat×Blk):=
  [(336,.cells 0 38 [.slz 728 0 (IntKind.i64.wrap ((↑l2.length:Int) - (1:Int))).toNat (Cap.of 0)]),(Gf cs has' k l2),(YH ac body),(Gd many'),YB,(vy sure'),
  (zU may'),Yk,(320,.cellsR 0 63 [.map 312]),(304,.cellsR 0 123 [.yld 297]),vM,(qn cs),(728,.rowz true 56 [.int .i64,.int .i64] l2.length fun i=>QB.enc
  (l2.getD i (QA.mk (0:Int) (0:Int)))),(YM C x),(YG all),Yb,(0,.frz Ju x.d.ps.n fun i=>QB.enc (x.d.ps.get i)),(1,.frz Ju x.scans.n fun i=>QB.enc
  (x.scans.get i)),(YQ x),(Yd C)]
noncomputable abbrev QJi (C:List (List QA)) (ac:Code) (all:Int) (body:Code) (cs:List QA) (has:Int→Bool) (k:Nat) (l:List QA) (many:Int) (may:Int) (sure:Int) (x:QE):List (Nat×Blk):=
  [(336,.cells 0 38 [.slz 568 0 (IntKind.i64.wrap ((↑(l.length + 1):Int) - (1:Int))).toNat (Cap.of 0)]),(QJG cs has k l),(YH ac body),(zH many),YB,(zD sure),
  (Hn may),Yk,(320,.cellsR 0 63 [.map 312]),(304,.cellsR 0 123 [.yld 297]),vM,(qn cs),(568,.rowz true 56 [.int .i64,.int .i64] (l.length + 1) (Q1 l.length (fun
  i=>QB.enc (l.getD i (QA.mk (0:Int) (0:Int)))) (Qb [(jq cs k)] 0))),(YM C x),(YG all),Yb,(0,.frz Ju x.d.ps.n fun i=>QB.enc (x.d.ps.get i)),(1,.frz
  Ju x.scans.n fun i=>QB.enc (x.scans.get i)),(YQ x),(Yd C)]
abbrev QIT (C:List (List QA)) (ac:Code) (all:Int) (body:Code) (cs:List QA) (has':Int→Bool) (k:Nat) (l2:List QA) (many':Int) (may':Int) (sure':Int) (x:QE):List (Nat×Blk):=
  [(336,.cells 0 38 [.slz 680 0 (IntKind.i64.wrap ((↑l2.length:Int) - (1:Int))).toNat (Cap.of 0)]),(Gf cs has' k l2),(YH ac body),(Gd many'),YB,(vy sure'),
  (zU may'),Yk,(320,.cellsR 0 63 [.map 312]),(304,.cellsR 0 123 [.yld 297]),vM,(qn cs),(680,.rowz true 56 [.int .i64,.int .i64] l2.length fun i=>QB.enc
  (l2.getD i (QA.mk (0:Int) (0:Int)))),(YM C x),(YG all),Yb,(0,.frz Ju x.d.ps.n fun i=>QB.enc (x.d.ps.get i)),(1,.frz Ju x.scans.n fun i=>QB.enc
  (x.scans.get i)),(YQ x),(Yd C)]
abbrev QG1 (C:List (List QA)) (ac:Code) (all:Int) (body:Code) (has:Int→Bool) (l:List QA) (many:Int) (may:Int) (sure:Int) (x:QE):List (Nat×Blk):=
  [(336,.cells 0 38 [.slz 400 0 l.length (Cap.of 0)]),(312,.mpf IntKind.i64 (.int true .i64 (0:Int)) has fun i => .int false .i64 (QI l i)),(YH ac body),(zH many),
  YB,(zD sure),(Hn may),(400,.rowz true 56 [.int .i64,.int .i64] l.length fun i=>QB.enc (l.getD i (QA.mk (0:Int) (0:Int)))),(YM C x),(YG all),Yb,
  Yk,(0,.frz Ju x.d.ps.n fun i=>QB.enc (x.d.ps.get i)),(1,.frz Ju x.scans.n fun i=>QB.enc (x.scans.get i)),(YQ x),(Yd C)]
theorem QPP (pb1 pb2:List Prop→Bool) (x:QE) (C:List (List QA)) (all:Int) (ac body:Code) (cs l l2:List QA) (has has2:Int→Bool) (many sure may:Int) (k:Nat) (has':Int→Bool) (many' sure' may':Int) (g:Nat→Value) :exec (mkE Try.prog (qO pb1 pb2 x C l2 (msU x C all ac body l2 has2 many sure may has' many' sure' may'))) (hnd (mkE Try.prog (qO pb1 pb2 x C l2 (msU x C all ac body l2 has2
  many sure may has' many' sure' may'))) 0) (Qf Try.f77 0) (JSt.inst (msJ x C all ac body cs l has many sure may k) g) (KT j9 Hz) = .br (decide ((↑k:Int) < (↑cs.length :
  Int))) (.need (decide ((0:Int)≤(↑k:Int)∧(↑k:Int) < (↑cs.length:Int))&&decide (cs.length≤cs.length)) (.need (decide (k < cs.length)) (.br ((cs.getD k (QA.mk (0 :
  Int) (0:Int))).cell == (-2:Int)) (.need (isI IntKind.i64 (.int false .i64 (QI l (cs.getD k (QA.mk (0:Int) (0:Int))).cell))) (.br (decide (toI (.int false .i64 (QI l
  (cs.getD k (QA.mk (0:Int) (0:Int))).cell))≥x.foreign)) (.leaf (.tup (qV cs k)) ((QA9 C ac all body cs has l many may sure x))) (.need (decide (l.length≤l.length) &&
  (true&&decide ((l.length + 1 + (l.length + 1) / 4 + 192) * 16≤281474976710656∧l.length + 1≤9223372036854775807))) (.need (isI IntKind.i64 (.int false .i64 (QI l (cs.getD k
  (QA.mk (0:Int) (0:Int))).cell))) (.need (pb1 ((QDl C cs k l l2 x))) (.br (!Kk x l2) (.need (isI IntKind.i64 (Bool.rec ((fun _=>(fun i => .int false .i64 (QI l i))
  ((fun i=>QB.enc (cs.getD i (QA.mk (0:Int) (0:Int)))) ((↑k:Int).toNat + 0) 0)) ()) ((fun _ => .int false .i64 (IntKind.i64.wrap (toI ((fun i => .int false .i64 (QI l
  i)) ((fun i=>QB.enc (cs.getD i (QA.mk (0:Int) (0:Int)))) ((↑k:Int).toNat + 0) 0)) + (1:Int)))) ()) (decide ((fun i=>QB.enc (cs.getD i (QA.mk (0:Int) (0 :
  Int)))) ((↑k:Int).toNat + 0) 0=(fun i=>QB.enc (cs.getD i (QA.mk (0:Int) (0:Int)))) ((↑k:Int).toNat + 0) 0)))) (.need (decide ((0:Int)≤IntKind.i64.wrap
  ((↑(l.length + 1):Int) - (1:Int))∧(IntKind.i64.wrap ((↑(l.length + 1):Int) - (1:Int))).toNat≤l.length + 1 - 0)) (.leaf (.tup (qV cs k)) ((QJP C ac all body cs has k
  l many may sure x))))) (.need (pb2 ((QEz C ac all body cs has has2 k l l2 many may sure x))) (.need (isI IntKind.i64 (.int false .i64 (QI l2 (cs.getD k (QA.mk (0:Int) (0 :
  Int))).cell))) (.need (decide ((0:Int)≤IntKind.i64.wrap ((↑l2.length:Int) - (1:Int))∧(IntKind.i64.wrap ((↑l2.length:Int) - (1:Int))).toNat≤l2.length - 0)) (.br
  (false) (.leaf (.tup [.nili,.ptr 98 0 0,.bool true false]) ([(336,.cells 0 38 [.slz 728 0 (IntKind.i64.wrap ((↑l2.length:Int) - (1:Int))).toNat (Cap.of 0)]),(Gf cs has' k
  l2),(YH ac body),(Gd many'),YB,(vy sure'),(zU may'),(728,.rowz true 56 [.int .i64,.int .i64] l2.length fun i=>QB.enc (l2.getD i (QA.mk (0:Int) (0 :
  Int)))),(YM C x),(YG all),Yb,Yk,(0,.frz Ju x.d.ps.n fun i=>QB.enc (x.d.ps.get i)),(1,.frz Ju x.scans.n fun i=>QB.enc (x.scans.get i)),(YQ x),(Yd
  C)])) (.leaf (.tup (qV cs k)) ((QDU C ac all body cs has' k l2 many' may' sure' x))))))))))))) (.need (isI IntKind.i64 (.int false .i64 (QI l (cs.getD k (QA.mk (0:Int) (0
  : Int))).cell))) (.br (decide (toI (.int false .i64 (QI l (cs.getD k (QA.mk (0:Int) (0:Int))).cell))≥(1:Int))) (.leaf (.tup (qV cs k)) ((QA9 C ac all body cs has l
  many may sure x))) (.need (decide (l.length≤l.length)&&(true&&decide ((l.length + 1 + (l.length + 1) / 4 + 192) * 16≤281474976710656∧l.length + 1≤9223372036854775807)))
  (.need (isI IntKind.i64 (.int false .i64 (QI l (cs.getD k (QA.mk (0:Int) (0:Int))).cell))) (.need (pb1 ((QDl C cs k l l2 x))) (.br (!Kk x l2) (.need (isI IntKind.i64
  (Bool.rec ((fun _=>(fun i => .int false .i64 (QI l i)) ((fun i=>QB.enc (cs.getD i (QA.mk (0:Int) (0:Int)))) ((↑k:Int).toNat + 0) 0)) ()) ((fun _ => .int false .i64
  (IntKind.i64.wrap (toI ((fun i => .int false .i64 (QI l i)) ((fun i=>QB.enc (cs.getD i (QA.mk (0:Int) (0:Int)))) ((↑k:Int).toNat + 0) 0)) + (1:Int)))) ()) (decide
  ((fun i=>QB.enc (cs.getD i (QA.mk (0:Int) (0:Int)))) ((↑k:Int).toNat + 0) 0=(fun i=>QB.enc (cs.getD i (QA.mk (0:Int) (0:Int)))) ((↑k:Int).toNat + 0) 0))))
  (.need (decide ((0:Int)≤IntKind.i64.wrap ((↑(l.length + 1):Int) - (1:Int))∧(IntKind.i64.wrap ((↑(l.length + 1):Int) - (1:Int))).toNat≤l.length + 1 - 0)) (.leaf (.tup
  (qV cs k)) ((QJi C ac all body cs has k l many may sure x))))) (.need (pb2 ((QEz C ac all body cs has has2 k l l2 many may sure x))) (.need (isI IntKind.i64 (.int false .i64
  (QI l2 (cs.getD k (QA.mk (0:Int) (0:Int))).cell))) (.need (decide ((0:Int)≤IntKind.i64.wrap ((↑l2.length:Int) - (1:Int))∧(IntKind.i64.wrap ((↑l2.length:Int) - (1
  : Int))).toNat≤l2.length - 0)) (.br (false) (.leaf (.tup [.nili,.ptr 98 0 0,.bool true false]) ([(336,.cells 0 38 [.slz 680 0 (IntKind.i64.wrap ((↑l2.length:Int) - (1 :
  Int))).toNat (Cap.of 0)]),(Gf cs has' k l2),(YH ac body),(Gd many'),YB,(vy sure'),(zU may'),(680,.rowz true 56 [.int .i64,.int .i64] l2.length fun i=>
  QB.enc (l2.getD i (QA.mk (0:Int) (0:Int)))),(YM C x),(YG all),Yb,Yk,(0,.frz Ju x.d.ps.n fun i=>QB.enc (x.d.ps.get i)),(1,.frz Ju x.scans.n fun i=>
  QB.enc (x.scans.get i)),(YQ x),(Yd C)])) (.leaf (.tup (qV cs k)) ((QIT C ac all body cs has' k l2 many' may' sure' x)))))))))))))))) (.leaf (.tup [.ptr 0 0 0,.ptr 98
  0 0]) ((QG1 C ac all body has l many may sure x))):=by kernel_rfl
abbrev vJ (cs:List QA) (k:Nat):List AV:=
  [.ptr 336 0 0,.ptr 264 0 0,.ptr 320 0 0,.ptr 304 0 0,.ptr 344 0 0,.slz 408 0 cs.length (Cap.of 0),.int false .i64 (↑cs.length:Int),.int false .i64 (IntKind.i64.wrap ((↑k :
  Int) + (1:Int)))]
theorem QHR (x:QE) (C:List (List QA)) (all:Int) (ac body:Code) (cs l:List QA) (has:Int→Bool) (many sure may:Int) (k k':Nat) :QO 392 (vJ cs k) ((QA9 C ac all body cs has l many may sure x)) (msJ x C all ac body cs l has many sure may k')=( some [0=0,0=0,0=0,0=0,0=0,0=0,0=0,0 =
  0,0=0,0=0,0=0,cs.length=cs.length,Cap.of 0=Cap.of 0,(↑cs.length:Int)=(↑cs.length:Int),IntKind.i64.wrap ((↑k:Int) + (1:Int))=(↑k':Int),cs.length ≤
  cs.length,QD 2 cs.length (fun i=>QB.enc (cs.getD i (QA.mk (0:Int) (0:Int)))) fun i=>QB.enc (cs.getD i (QA.mk (0:Int) (0:Int))),0=0,l.length=l.length,
  Cap.of 0=Cap.of 0,l.length≤l.length,QD 2 l.length (fun i=>QB.enc (l.getD i (QA.mk (0:Int) (0:Int)))) fun i=>QB.enc (l.getD i (QA.mk (0:Int) (0:Int))),
  Kn (.int true .i64 (0:Int)) (.int true .i64 (0:Int)) has has (fun i => .int false .i64 (QI l i)) fun i => .int false .i64 (QI l i),LoopState.ready=LoopState.ready,
  (none:Option Code)=none,Array.mk [12]=Array.mk [(12:Tmp)],ac=ac,body=body,0=0,0=0,(0:Int)=(0:Int),Fn.func (54:FuncId)=Fn.func (54:FuncId),0=0,
  0=0,0=0,0=0,0=0,0=0,0=0,0=0,0=0,0=0,(0:Int)=(0:Int),false=false,0=0,0=0,0=0,0=0,Fn.func (76:FuncId)=Fn.func (76:FuncId),0 =
  0,0=0,many=many,(0:Int)=(0:Int),sure=sure,may=may,Fn.func 77=Fn.func (77:FuncId),0=0,0=0,0=0,0=0,0=0,0=0,0=0,0=0,0=0,0=0,0 =
  0,0=0,Fn.func 54=Fn.func (54:FuncId),0=0,0=0,0=0,0=0,0=0,0=0,all=all,x.d.play.length=x.d.play.length,x.d.play.slack=x.d.play.slack,x.d.play.loose
  = x.d.play.loose,x.d.play.damp.lo=x.d.play.damp.lo,x.d.play.damp.hi=x.d.play.damp.hi,x.d.wide=x.d.wide,x.d.high=x.d.high,x.d.turn=x.d.turn,0=0,x.d.ps.n =
  x.d.ps.n,Cap.of 0=Cap.of 0,0=0,x.scans.n=x.scans.n,Cap.of 0=Cap.of 0,0=0,x.hang.n=x.hang.n,Cap.of 0=Cap.of 0,x.lost=x.lost,x.foreign=x.foreign,0=0,
  C.length=C.length,Cap.of 0=Cap.of 0,C.length=C.length,Kd 2 C.length (fun i=>(QJ C i).length) (fun i=>(QJ C i).length) (fun i j=>QB.enc ((QJ C i).getD j
  (QA.mk (0:Int) (0:Int)))) fun i j=>QB.enc ((QJ C i).getD j (QA.mk (0:Int) (0:Int))),x.d.ps.n≤x.d.ps.n,QD 28 x.d.ps.n (fun i=>QB.enc (x.d.ps.get i)) fun
  i=>QB.enc (x.d.ps.get i),x.scans.n≤x.scans.n,QD 28 x.scans.n (fun i=>QB.enc (x.scans.get i)) fun i=>QB.enc (x.scans.get i),x.hang.n≤x.hang.n,QD 4
  x.hang.n (fun i=>QB.enc (x.hang.get i)) fun i=>QB.enc (x.hang.get i)]):=by kernel_rfl
noncomputable abbrev QID (C:List (List QA)) (ac:Code) (all:Int) (body:Code) (cs:List QA) (h':Int→Bool) (has:Int→Bool) (k:Nat) (k':Nat) (l:List QA) (many:Int) (may:Int) (sure:Int) (x:QE):List Prop:=
  [0=0,0=0,0=0,0=0,0=0,0=0,0=0,0=0,0=0,0=0,0=0,cs.length=cs.length,Cap.of 0=Cap.of 0,(↑cs.length:Int)=(↑cs.length:Int),IntKind.i64.wrap
  ((↑k:Int) + (1:Int))=(↑k':Int),cs.length≤cs.length,QD 2 cs.length (fun i=>QB.enc (cs.getD i (QA.mk (0:Int) (0:Int)))) fun i=>QB.enc (cs.getD i (QA.mk
  (0:Int) (0:Int))),0=0,(IntKind.i64.wrap ((↑(l.length + 1):Int) - (1:Int))).toNat=l.length,Cap.of 0=Cap.of 0,l.length≤l.length + 1,QD 2 l.length (Q1
  l.length (fun i=>QB.enc (l.getD i (QA.mk (0:Int) (0:Int)))) (Qb [(jq cs k)] 0)) fun i=>QB.enc (l.getD i (QA.mk (0:Int) (0:Int))),Kn (.int true .i64 (0 :
  Int)) (.int true .i64 (0:Int)) (Qh (cs.getD k (QA.mk (0:Int) (0:Int))).cell true (Qh (cs.getD k (QA.mk (0:Int) (0:Int))).cell true has)) h' (KI (cs.getD k
  (QA.mk (0:Int) (0:Int))).cell (.int false .i64 (IntKind.i64.wrap (toI (Bool.rec ((fun x=>(fun i => .int false .i64 (QI l i)) ((fun i=>QB.enc (cs.getD i (QA.mk (0 :
  Int) (0:Int)))) ((↑k:Int).toNat + 0) 0)) ()) ((fun x => .int false .i64 (IntKind.i64.wrap (toI ((fun i => .int false .i64 (QI l i)) ((fun i=>QB.enc (cs.getD i (QA.mk (0
  : Int) (0:Int)))) ((↑k:Int).toNat + 0) 0)) + (1:Int)))) ()) (decide ((fun i=>QB.enc (cs.getD i (QA.mk (0:Int) (0:Int)))) ((↑k:Int).toNat + 0) 0=(fun i=>
  QB.enc (cs.getD i (QA.mk (0:Int) (0:Int)))) ((↑k:Int).toNat + 0) 0))) - (1:Int)))) (KI (cs.getD k (QA.mk (0:Int) (0:Int))).cell (.int false .i64
  (IntKind.i64.wrap (toI (.int false .i64 (QI l (cs.getD k (QA.mk (0:Int) (0:Int))).cell)) + (1:Int)))) fun i => .int false .i64 (QI l i))) fun i => .int false .i64 (QI
  l i),LoopState.ready=LoopState.ready,(none:Option Code)=none,Array.mk [12]=Array.mk [(12:Tmp)],ac=ac,body=body,0=0,0=0,(0:Int)=(0:Int),Fn.func (54 :
  FuncId)=Fn.func (54:FuncId),0=0,0=0,0=0,0=0,0=0,0=0,0=0,0=0,0=0,0=0,(0:Int)=(0:Int),false=false,0=0,0=0,0=0,0=0,Fn.func (76
  : FuncId)=Fn.func (76:FuncId),0=0,0=0,many=many,(0:Int)=(0:Int),sure=sure,may=may,Fn.func 77=Fn.func (77:FuncId),0=0,0=0,0=0,0=0,0=0,0
  = 0,0=0,0=0,0=0,0=0,0=0,0=0,Fn.func 54=Fn.func (54:FuncId),0=0,0=0,0=0,0=0,0=0,0=0,all=all,x.d.play.length=x.d.play.length,
  x.d.play.slack=x.d.play.slack,x.d.play.loose=x.d.play.loose,x.d.play.damp.lo=x.d.play.damp.lo,x.d.play.damp.hi=x.d.play.damp.hi,x.d.wide=x.d.wide,x.d.high=x.d.high,
  x.d.turn=x.d.turn,0=0,x.d.ps.n=x.d.ps.n,Cap.of 0=Cap.of 0,0=0,x.scans.n=x.scans.n,Cap.of 0=Cap.of 0,0=0,x.hang.n=x.hang.n,Cap.of 0=Cap.of 0,x.lost =
  x.lost,x.foreign=x.foreign,0=0,C.length=C.length,Cap.of 0=Cap.of 0,C.length=C.length,Kd 2 C.length (fun i=>(QJ C i).length) (fun i=>(QJ C i).length)
  (fun i j=>QB.enc ((QJ C i).getD j (QA.mk (0:Int) (0:Int)))) fun i j=>QB.enc ((QJ C i).getD j (QA.mk (0:Int) (0:Int))),x.d.ps.n≤x.d.ps.n,QD 28
  x.d.ps.n (fun i=>QB.enc (x.d.ps.get i)) fun i=>QB.enc (x.d.ps.get i),x.scans.n≤x.scans.n,QD 28 x.scans.n (fun i=>QB.enc (x.scans.get i)) fun i=>QB.enc
  (x.scans.get i),x.hang.n≤x.hang.n,QD 4 x.hang.n (fun i=>QB.enc (x.hang.get i)) fun i=>QB.enc (x.hang.get i)]
theorem QN4 (x:QE) (C:List (List QA)) (all:Int) (ac body:Code) (cs l:List QA) (has h':Int→Bool) (many sure may:Int) (k k':Nat) :QO 392 (vJ cs k) ((QJP C ac all body cs has k l many may sure x)) (msJ x C all ac body cs l h' many sure may k')=( some (QID C ac all body cs h' has k k' l many may sure
  x)):=by kernel_rfl
theorem QSW (x:QE) (C:List (List QA)) (all:Int) (ac body:Code) (cs l:List QA) (has h':Int→Bool) (many sure may:Int) (k k':Nat) :QO 392 (vJ cs k) ((QJi C ac all body cs has k l many may sure x)) (msJ x C all ac body cs l h' many sure may k')=( some (QID C ac all body cs h' has k k' l many may sure
  x)):=by kernel_rfl
abbrev QEf (C:List (List QA)) (ac:Code) (all:Int) (body:Code) (cs:List QA) (h':Int→Bool) (has':Int→Bool) (k:Nat) (k':Nat) (l:List QA) (l2:List QA) (many':Int) (may':Int) (sure':Int) (x:QE):List Prop:=
  [0=0,0=0,0=0,0=0,0=0,0=0,0=0,0=0,0=0,0=0,0=0,cs.length=cs.length,Cap.of 0=Cap.of 0,(↑cs.length:Int)=(↑cs.length:Int),IntKind.i64.wrap
  ((↑k:Int) + (1:Int))=(↑k':Int),cs.length≤cs.length,QD 2 cs.length (fun i=>QB.enc (cs.getD i (QA.mk (0:Int) (0:Int)))) fun i=>QB.enc (cs.getD i (QA.mk
  (0:Int) (0:Int))),0=0,(IntKind.i64.wrap ((↑l2.length:Int) - (1:Int))).toNat=l.length,Cap.of 0=Cap.of 0,l.length≤l2.length,QD 2 l.length (fun i=>QB.enc
  (l2.getD i (QA.mk (0:Int) (0:Int)))) fun i=>QB.enc (l.getD i (QA.mk (0:Int) (0:Int))),Kn (.int true .i64 (0:Int)) (.int true .i64 (0:Int)) (Qh (cs.getD k
  (QA.mk (0:Int) (0:Int))).cell true has') h' (KI (cs.getD k (QA.mk (0:Int) (0:Int))).cell (.int false .i64 (IntKind.i64.wrap (toI (.int false .i64 (QI l2 (cs.getD k
  (QA.mk (0:Int) (0:Int))).cell)) - (1:Int)))) fun i => .int false .i64 (QI l2 i)) fun i => .int false .i64 (QI l i),LoopState.ready=LoopState.ready,(none:Option
  Code)=none,Array.mk [12]=Array.mk [(12:Tmp)],ac=ac,body=body,0=0,0=0,(0:Int)=(0:Int),Fn.func (54:FuncId)=Fn.func (54:FuncId),0=0,0=0,0=0,0
  = 0,0=0,0=0,0=0,0=0,0=0,0=0,(0:Int)=(0:Int),false=false,0=0,0=0,0=0,0=0,Fn.func (76:FuncId)=Fn.func (76:FuncId),0=0,0=0,many' =
  many',(0:Int)=(0:Int),sure'=sure',may'=may',Fn.func 77=Fn.func (77:FuncId),0=0,0=0,0=0,0=0,0=0,0=0,0=0,0=0,0=0,0=0,0=0,0=0,
  Fn.func 54=Fn.func (54:FuncId),0=0,0=0,0=0,0=0,0=0,0=0,all=all,x.d.play.length=x.d.play.length,x.d.play.slack=x.d.play.slack,x.d.play.loose =
  x.d.play.loose,x.d.play.damp.lo=x.d.play.damp.lo,x.d.play.damp.hi=x.d.play.damp.hi,x.d.wide=x.d.wide,x.d.high=x.d.high,x.d.turn=x.d.turn,0=0,x.d.ps.n=x.d.ps.n,
  Cap.of 0=Cap.of 0,0=0,x.scans.n=x.scans.n,Cap.of 0=Cap.of 0,0=0,x.hang.n=x.hang.n,Cap.of 0=Cap.of 0,x.lost=x.lost,x.foreign=x.foreign,0=0,C.length =
  C.length,Cap.of 0=Cap.of 0,C.length=C.length,Kd 2 C.length (fun i=>(QJ C i).length) (fun i=>(QJ C i).length) (fun i j=>QB.enc ((QJ C i).getD j (QA.mk (0
  : Int) (0:Int)))) fun i j=>QB.enc ((QJ C i).getD j (QA.mk (0:Int) (0:Int))),x.d.ps.n≤x.d.ps.n,QD 28 x.d.ps.n (fun i=>QB.enc (x.d.ps.get i)) fun i=>
  QB.enc (x.d.ps.get i),x.scans.n≤x.scans.n,QD 28 x.scans.n (fun i=>QB.enc (x.scans.get i)) fun i=>QB.enc (x.scans.get i),x.hang.n≤x.hang.n,QD 4 x.hang.n
  (fun i=>QB.enc (x.hang.get i)) fun i=>QB.enc (x.hang.get i)]
theorem QTm (x:QE) (C:List (List QA)) (all:Int) (ac body:Code) (cs l l2:List QA) (k:Nat) (has' h':Int→Bool) (many' sure' may':Int) (k':Nat) :QO 392 (vJ cs k) ((QDU C ac all body cs has' k l2 many' may' sure' x)) (msJ x C all ac body cs l h' many' sure' may' k')=( some (QEf C ac all body cs h' has' k k' l l2
  many' may' sure' x)):=by kernel_rfl
theorem QPG (x:QE) (C:List (List QA)) (all:Int) (ac body:Code) (cs l l2:List QA) (k:Nat) (has' h':Int→Bool) (many' sure' may':Int) (k':Nat) :QO 392 (vJ cs k) ((QIT C ac all body cs has' k l2 many' may' sure' x)) (msJ x C all ac body cs l h' many' sure' may' k')=( some (QEf C ac all body cs h' has' k k' l l2
  many' may' sure' x)):=by kernel_rfl
theorem QQ6 (x:QE) (C:List (List QA)) (all:Int) (ac body:Code) (l:List QA) (has:Int→Bool) (many sure may:Int) :QO 392 [] ((QG1 C ac all body has l many may sure x)) (msE ac body l has many sure may)=( some [0=0,l.length=l.length,Cap.of 0=Cap.of 0,l.length≤l.length,QD 2
  l.length (fun i=>QB.enc (l.getD i (QA.mk (0:Int) (0:Int)))) fun i=>QB.enc (l.getD i (QA.mk (0:Int) (0:Int))),Kn (.int true .i64 (0:Int)) (.int true .i64 (0
  : Int)) has has (fun i => .int false .i64 (QI l i)) fun i => .int false .i64 (QI l i),LoopState.ready=LoopState.ready,(none:Option Code)=none,Array.mk [12]=Array.mk
  [(12:Tmp)],ac=ac,body=body,0=0,0=0,(0:Int)=(0:Int),Fn.func (54:FuncId)=Fn.func (54:FuncId),0=0,0=0,0=0,0=0,0=0,0=0,0=0,0=0,0 =
  0,0=0,(0:Int)=(0:Int),false=false,0=0,0=0,0=0,0=0,Fn.func (76:FuncId)=Fn.func (76:FuncId),0=0,0=0,many=many,(0:Int)=(0:Int),sure =
  sure,may=may]):=by kernel_rfl
end Go.Proofs.Ytbpffdkemeoajaa
namespace Go.Proofs.Ytbpffdkemeoajaa
open Go.SX
abbrev MsS:=Int×Int×Int
def msY (all:Int) (s:MsS) (l:List QA):MsS×Bool:=((IntKind.i64.wrap (s.1 + 1),K0 s.2.1 (KJ l l.length),orN s.2.2 (K0 all (KJ l l.length))),true)
def Xg (x:QE) (C:List (List QA)) (all:Int) (ac body:Code) (l:List QA) (has:Int→Bool) (s:MsS):Res MsS→UC
 | .go s' h'=>msU x C all ac body l has s.1 s.2.1 s.2.2 h' s'.1 s'.2.1 s'.2.2
 | .stop s' h'=>msU x C all ac body l has s.1 s.2.1 s.2.2 h' s'.1 s'.2.1 s'.2.2
abbrev MsK:=Nat×MsS×(Int→Bool)
noncomputable def kPb (cs:List QA) (k:Nat):List Prop→Bool:=match decide (k < cs.length) with
 | true=>Qo
 | false=>fun _=>false
def V0 (x:QE) (C:List (List QA)) (all:Int) (d:Nat) (l:List QA) (s:MsS) (h:Int→Bool) (c:QA):Res MsS:=onT x C (msY all) d (l++[c]) s h
noncomputable def ZX (P:Program) (x:QE) (C:List (List QA)) (all:Int) (ac body:Code) (d:Nat) (cs l:List QA) (t:MsK):Env:=
 mkE P (qO (kPb cs t.1) (kPb cs t.1) x C (l++[cs.getD t.1 ⟨0,0⟩]) (Xg x C all ac body (l++[cs.getD t.1 ⟨0,0⟩]) (Qh (cs.getD t.1 ⟨0,0⟩).cell true t.2.2) t.2.1 (V0 x C all d l t.2.1 (Qh (cs.getD t.1 ⟨0,0⟩).cell true t.2.2) (cs.getD t.1 ⟨0,0⟩))))
def YA (x:QE) (C:List (List QA)) (all:Int) (ac body:Code) (d:Nat) (cs l:List QA) (t:MsK) (e:Ex) (J:JSt):Prop:=match Jd (JN x l (V0 x C all d l)) (cs.drop t.1) t.2.1 t.2.2 with
 | .go s h=>e = .exit 0∧J=msE ac body l h s.1 s.2.1 s.2.2
 | .stop _ _=>False
theorem Xo {k n:Nat} (h:k < n) (hn:n≤1000):IntKind.i64.wrap ((k:Int) + 1)=((k + 1:Nat):Int):=(w64 (by omega) (by omega)).trans (by omega)
theorem QQD (x:QE) (C:List (List QA)) (all:Int) (ac body:Code) (d:Nat) (cs l:List QA) (hcs:cs.length≤1000) (hl:l.length≤1000):vF (fun t:MsK=>msJ x C all ac body cs l t.2.2 t.2.1.1 t.2.1.2.1 t.2.1.2.2 t.1) (fun t=>t.1≤cs.length) (fun t=>cs.length - t.1) (YA x C all ac body d cs l) 392 Hz j9 (ZX Try.prog x C all ac body d cs l) (fun t=>hnd (ZX Try.prog x C all ac body d cs l t) 0) (Qf Try.f77 0):=by
 refine ⟨fun t g hk => ?_⟩
 obtain ⟨k,⟨many,sure,may⟩,has⟩:=t
 have hk:k≤cs.length:=hk
 obtain ⟨s',h',hrec⟩:=Za (C:=C) (x:=x) (Y:=msY all) (fun _ _=>rfl) d (l++[cs.getD k ⟨0,0⟩]) (many,sure,may) (Qh (cs.getD k ⟨0,0⟩).cell true has)
 unfold ZX
 simp only
 have hrec:V0 x C all d l (many,sure,may) (Qh (cs.getD k ⟨0,0⟩).cell true has) (cs.getD k ⟨0,0⟩) = .go s' h':=hrec
 rw [hrec]
 refine KF (QPP (kPb cs k) (kPb cs k) x C all ac body cs l (l++[cs.getD k ⟨0,0⟩]) has (Qh (cs.getD k ⟨0,0⟩).cell true has) many sure may k h' s'.1 s'.2.1 s'.2.2 g) ?_
 refine QL (fun h => ?_) (fun h => ?_)
 ·have h:k < cs.length:=by have:=of_decide_eq_true h;omega
  have hw:=Xo h hcs
  have hpb:kPb cs k=Qo:=by unfold kPb;rw [decide_eq_true h]
  rw [hpb]
  have step:=QIj (f:=JN x l (V0 x C all d l)) h (many,sure,may) has
  have next:∀ {s2:MsS} {h2:Int→Bool},JN x l (V0 x C all d l) (many,sure,may) has (cs.getD k ⟨0,0⟩) = .go s2 h2→∀ e J,YA x C all ac body d cs l (k + 1,s2,h2) e J→YA x C all ac body d cs l (k,(many,sure,may),has) e J:=by
   intro s2 h2 he e J hr
   unfold YA at hr ⊢
   simp only at hr ⊢
   rw [step,he];exact hr
  have one:∀ b,KN x l (cs.getD k ⟨0,0⟩)=b→JN x l (V0 x C all d l) (many,sure,may) has (cs.getD k ⟨0,0⟩)=match b with
    | true => .go (many,sure,may) has
    | false=>match Kk x (l++[cs.getD k ⟨0,0⟩]) with
     | false => .go (many,sure,may) (Qh (cs.getD k ⟨0,0⟩).cell true (Qh (cs.getD k ⟨0,0⟩).cell true has))
     | true => .go s' (Qh (cs.getD k ⟨0,0⟩).cell true h'):=by
   intro b hb
   unfold JN
   rw [hb,hrec]
   cases b
   ·cases Kk x (l++[cs.getD k ⟨0,0⟩])<;>rfl
   ·rfl
  refine QF (by simp;omega) (QF (by simp;omega) (QL (fun ha => ?_) (fun ha => ?_)))
  ·refine QF rfl (QL (fun hf => ?_) (fun hf=>QF (by simp;omega) (QF rfl (QF (Kr.2 ?_) (QL (fun hq => ?_) (fun hq => ?_))))))
   ·have hf:KN x l (cs.getD k ⟨0,0⟩)=true:=by simp only [KN,ha];exact hf
    refine ⟨(k + 1,(many,sure,may),has),h,by show cs.length - (k + 1) < cs.length - k;omega,next (one _ hf),rfl,rfl,_,QHR x C all ac body cs l has many sure may k (k + 1),?_⟩
    repeat' first|exact trivial|with_reducible rfl|exact Nat.le_refl _|exact QD.refl _ _ _|exact Qp _ _ _ _|exact VN _ _ _|exact hw|refine And.intro ?_ ?_
   ·repeat' first|exact trivial|with_reducible rfl|exact Nat.le_refl _|exact QD.refl _ _ _|exact Qp _ _ _ _|exact YK _ _|exact YP _ _|exact Yv _ _ _ rfl|refine And.intro ?_ ?_
   ·have hf:KN x l (cs.getD k ⟨0,0⟩)=false:=by simp only [KN,ha];exact hf
    have hq:Kk x (l++[cs.getD k ⟨0,0⟩])=false:=by simpa using hq
    have hp:=Ht l hl
    have hp1:IntKind.i64.wrap (((l.length + 1:Nat):Int) - 1)=l.length:=(w64 (by omega) (by omega)).trans (by omega)
    have ho:=one _ hf
    rw [hq] at ho
    refine QF (by simp [isI]) (QF (by rw [hp1];simp) ?_)
    refine ⟨(k + 1,(many,sure,may),Qh (cs.getD k ⟨0,0⟩).cell true (Qh (cs.getD k ⟨0,0⟩).cell true has)),h,by show cs.length - (k + 1) < cs.length - k;omega,next ho,rfl,rfl,_,QN4 x C all ac body cs l has (Qh (cs.getD k ⟨0,0⟩).cell true (Qh (cs.getD k ⟨0,0⟩).cell true has)) many sure may k (k + 1),?_⟩
    repeat' first|exact trivial|with_reducible rfl|exact Nat.le_refl _|exact QD.refl _ _ _|exact Qp _ _ _ _|exact hw|exact hp|exact Nat.le_succ _|exact H9 _ _|exact zw _ _ _ hl (by simp [toI];rfl) _|refine And.intro ?_ ?_
   ·have hf:KN x l (cs.getD k ⟨0,0⟩)=false:=by simp only [KN,ha];exact hf
    have hq:Kk x (l++[cs.getD k ⟨0,0⟩])=true:=by simpa using hq
    have hp:=GA l (cs.getD k ⟨0,0⟩) hl
    have hp1:IntKind.i64.wrap (((l++[cs.getD k ⟨0,0⟩]).length:Int) - 1)=l.length:=by
     rw [List.length_append,List.length_singleton]
     exact (w64 (by omega) (by omega)).trans (by omega)
    have ho:=one _ hf
    rw [hq] at ho
    refine QF (Kr.2 ?_) (QF rfl (QF (by rw [hp1];simp) (QL (fun q=>by cases q) (fun _ => ?_))))
    ·repeat' first|exact trivial|with_reducible rfl|exact Nat.le_refl _|exact QD.refl _ _ _|exact Qp _ _ _ _|exact YK _ _|exact YP _ _|exact Yv _ _ _ rfl|exact Hi _ _ hl rfl _|refine And.intro ?_ ?_
    refine ⟨(k + 1,s',Qh (cs.getD k ⟨0,0⟩).cell true h'),h,by show cs.length - (k + 1) < cs.length - k;omega,next ho,rfl,rfl,_,QTm x C all ac body cs l (l++[cs.getD k ⟨0,0⟩]) k h' (Qh (cs.getD k ⟨0,0⟩).cell true h') s'.1 s'.2.1 s'.2.2 (k + 1),?_⟩
    repeat' first|exact trivial|with_reducible rfl|exact Nat.le_refl _|exact QD.refl _ _ _|exact Qp _ _ _ _|exact hw|exact hp|exact (by simp:l.length≤(l++[cs.getD k ⟨0,0⟩]).length)|exact HK _ _|exact Gc _ _ hl rfl _|refine And.intro ?_ ?_
  ·refine QF rfl (QL (fun hf => ?_) (fun hf=>QF (by simp;omega) (QF rfl (QF (Kr.2 ?_) (QL (fun hq => ?_) (fun hq => ?_))))))
   ·have hf:KN x l (cs.getD k ⟨0,0⟩)=true:=by simp only [KN,ha];exact hf
    refine ⟨(k + 1,(many,sure,may),has),h,by show cs.length - (k + 1) < cs.length - k;omega,next (one _ hf),rfl,rfl,_,QHR x C all ac body cs l has many sure may k (k + 1),?_⟩
    repeat' first|exact trivial|with_reducible rfl|exact Nat.le_refl _|exact QD.refl _ _ _|exact Qp _ _ _ _|exact VN _ _ _|exact hw|refine And.intro ?_ ?_
   ·repeat' first|exact trivial|with_reducible rfl|exact Nat.le_refl _|exact QD.refl _ _ _|exact Qp _ _ _ _|exact YK _ _|exact YP _ _|exact Yv _ _ _ rfl|refine And.intro ?_ ?_
   ·have hf:KN x l (cs.getD k ⟨0,0⟩)=false:=by simp only [KN,ha];exact hf
    have hq:Kk x (l++[cs.getD k ⟨0,0⟩])=false:=by simpa using hq
    have hp:=Ht l hl
    have hp1:IntKind.i64.wrap (((l.length + 1:Nat):Int) - 1)=l.length:=(w64 (by omega) (by omega)).trans (by omega)
    have ho:=one _ hf
    rw [hq] at ho
    refine QF (by simp [isI]) (QF (by rw [hp1];simp) ?_)
    refine ⟨(k + 1,(many,sure,may),Qh (cs.getD k ⟨0,0⟩).cell true (Qh (cs.getD k ⟨0,0⟩).cell true has)),h,by show cs.length - (k + 1) < cs.length - k;omega,next ho,rfl,rfl,_,QSW x C all ac body cs l has (Qh (cs.getD k ⟨0,0⟩).cell true (Qh (cs.getD k ⟨0,0⟩).cell true has)) many sure may k (k + 1),?_⟩
    repeat' first|exact trivial|with_reducible rfl|exact Nat.le_refl _|exact QD.refl _ _ _|exact Qp _ _ _ _|exact hw|exact hp|exact Nat.le_succ _|exact H9 _ _|exact zw _ _ _ hl (by simp [toI];rfl) _|refine And.intro ?_ ?_
   ·have hf:KN x l (cs.getD k ⟨0,0⟩)=false:=by simp only [KN,ha];exact hf
    have hq:Kk x (l++[cs.getD k ⟨0,0⟩])=true:=by simpa using hq
    have hp:=GA l (cs.getD k ⟨0,0⟩) hl
    have hp1:IntKind.i64.wrap (((l++[cs.getD k ⟨0,0⟩]).length:Int) - 1)=l.length:=by
     rw [List.length_append,List.length_singleton]
     exact (w64 (by omega) (by omega)).trans (by omega)
    have ho:=one _ hf
    rw [hq] at ho
    refine QF (Kr.2 ?_) (QF rfl (QF (by rw [hp1];simp) (QL (fun q=>by cases q) (fun _ => ?_))))
    ·repeat' first|exact trivial|with_reducible rfl|exact Nat.le_refl _|exact QD.refl _ _ _|exact Qp _ _ _ _|exact YK _ _|exact YP _ _|exact Yv _ _ _ rfl|exact Hi _ _ hl rfl _|refine And.intro ?_ ?_
    refine ⟨(k + 1,s',Qh (cs.getD k ⟨0,0⟩).cell true h'),h,by show cs.length - (k + 1) < cs.length - k;omega,next ho,rfl,rfl,_,QPG x C all ac body cs l (l++[cs.getD k ⟨0,0⟩]) k h' (Qh (cs.getD k ⟨0,0⟩).cell true h') s'.1 s'.2.1 s'.2.2 (k + 1),?_⟩
    repeat' first|exact trivial|with_reducible rfl|exact Nat.le_refl _|exact QD.refl _ _ _|exact Qp _ _ _ _|exact hw|exact hp|exact (by simp:l.length≤(l++[cs.getD k ⟨0,0⟩]).length)|exact HK _ _|exact Gc _ _ hl rfl _|refine And.intro ?_ ?_
 ·have h:cs.length≤k:=by have:=of_decide_eq_false h;omega
  have he:=QIp (f:=JN x l (V0 x C all d l)) h (many,sure,may) has
  refine ⟨msE ac body l has many sure may,by unfold YA;simp only [he,and_self],rfl,rfl,_,QQ6 x C all ac body l has many sure may,?_⟩
  repeat' first|exact trivial|with_reducible rfl|exact Nat.le_refl _|exact QD.refl _ _ _|exact Qp _ _ _ _|exact VN _ _ _|refine And.intro ?_ ?_
end Go.Proofs.Ytbpffdkemeoajaa
