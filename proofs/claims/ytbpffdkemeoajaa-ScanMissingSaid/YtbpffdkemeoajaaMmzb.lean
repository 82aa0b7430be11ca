/- Missing: the search, its body told ahead (layer 7). -/
import Derived.Test.YtbpffdkemeoajaaMmza
set_option maxRecDepth 100000
namespace Go.Proofs.Ytbpffdkemeoajaa
open Go.SX
abbrev msX (P:Program) (J:JSt) (X:List (Prop×Ex×JSt)):Hnd:={ hnd (mkE P Qu) 2 with loop:=fun _=>KC 392 j9 J X }
abbrev msN (P : Program) (T : Tab) : Hnd := { hnd (mkE P T) 2 with loop := fun _ _ _ => .fail "a loop" }
theorem QJX (pb:List Prop→Bool) (x:QE) (C:List (List QA)) (all:Int) (l:List QA) (has:Int→Bool) (many sure may hs:Int):(Vr (mkE Try.prog (Wn pb (mmU l 0 sure may all hs))) (msN Try.prog (Wn pb (mmU l 0 sure may all hs))) Try.f77 QAX (Hb x C all (QQ Try.f53 0).1 (QQ Try.f53 0).2 l has many sure may).hp 392 fun v h _=>qR j9 v h) =
  QC.br ((↑l.length : Int) == (↑x.scans.n : Int)) (QC.need (isI IntKind.i64 (AV.int false IntKind.i64 (QI l (-2 : Int)))) (QC.br (decide (IntKind.i64.wrap ((↑x.d.ps.n : Int) - IntKind.i64.wrap ((↑l.length : Int) - toI (AV.int false IntKind.i64 (QI l (-2 : Int))))) > x.lost)) (QC.leaf (AV.bool true true) ([((336 : Nat), Blk.cells (0 : Nat) (38 : Nat) [AV.slz (384 : Nat) (0 : Nat) l.length (Cap.of (0 : Nat))]), ((312 : Nat), Blk.mpf IntKind.i64 (AV.int true IntKind.i64 (0 : Int)) has fun i => AV.int false IntKind.i64 (QI l i)), ((297 : Nat), Blk.lp LoopState.ready none msT (Array.mk [(12 : Nat)]) (QQ Try.f53 0).1 (QQ Try.f53 0).2), ((240 : Nat), Blk.cells (0 : Nat) (3 : Nat) [AV.int false IntKind.i64 many]), ((208 : Nat), Blk.cells (0 : Nat) (3 : Nat) [AV.int false IntKind.i64 (0 : Int)]), ((16 : Nat), Blk.cells (0 : Nat) (3 : Nat) [AV.int false IntKind.i64 sure]), ((24 : Nat), Blk.cells (0 : Nat) (3 : Nat) [AV.int false IntKind.i64 may]), ((384 : Nat), Blk.rowz true (56 : Nat) [CK.int IntKind.i64, CK.int IntKind.i64] l.length fun i => QB.enc (l.getD i (QA.mk (0 : Int) (0 : Int)))), ((48 : Nat), Blk.cellsR (0 : Nat) (125 : Nat) [AV.int false IntKind.i64 x.d.play.length, AV.int false IntKind.i64 x.d.play.slack, AV.int false IntKind.i64 x.d.play.loose, AV.int false IntKind.i64 x.d.play.damp.lo, AV.int false IntKind.i64 x.d.play.damp.hi, AV.int false IntKind.i64 x.d.wide, AV.int false IntKind.i64 x.d.high, AV.bool false x.d.turn, AV.slz (0 : Nat) (0 : Nat) x.d.ps.n (Cap.of (0 : Nat)), AV.slz (1 : Nat) (0 : Nat) x.scans.n (Cap.of (0 : Nat)), AV.slz (2 : Nat) (0 : Nat) x.hang.n (Cap.of (0 : Nat)), AV.int false IntKind.i64 x.lost, AV.int false IntKind.i64 x.foreign, AV.slz (49 : Nat) (0 : Nat) C.length (Cap.of (0 : Nat))]), ((160 : Nat), Blk.cellsR (0 : Nat) (3 : Nat) [AV.int false IntKind.i64 all]), ((216 : Nat), Blk.cellsR (0 : Nat) (101 : Nat) [AV.fn (Fn.func (54 : Nat)) [AV.ptr (16 : Nat) (0 : Nat) (0 : Nat), AV.ptr (24 : Nat) (0 : Nat) (0 : Nat), AV.ptr (160 : Nat) (0 : Nat) (0 : Nat)]]), ((264 : Nat), Blk.cellsR (0 : Nat) (89 : Nat) [AV.ptr (48 : Nat) (0 : Nat) (0 : Nat)]), ((0 : Nat), Blk.frz [CK.int IntKind.i64, CK.int IntKind.i64, CK.int IntKind.i64, CK.int IntKind.i64, CK.int IntKind.i64, CK.int IntKind.i64, CK.int IntKind.i64, CK.int IntKind.i64, CK.int IntKind.i64, CK.int IntKind.i64, CK.int IntKind.i64, CK.int IntKind.i64, CK.int IntKind.i64, CK.int IntKind.i64, CK.int IntKind.i64, CK.int IntKind.i64, CK.int IntKind.i64, CK.int IntKind.i64, CK.int IntKind.i64, CK.int IntKind.i64, CK.int IntKind.i64, CK.int IntKind.i64, CK.int IntKind.i64, CK.int IntKind.i64, CK.int IntKind.i64, CK.int IntKind.i64, CK.int IntKind.i64, CK.int IntKind.i64] x.d.ps.n fun i => QB.enc (x.d.ps.get i)), ((1 : Nat), Blk.frz [CK.int IntKind.i64, CK.int IntKind.i64, CK.int IntKind.i64, CK.int IntKind.i64, CK.int IntKind.i64, CK.int IntKind.i64, CK.int IntKind.i64, CK.int IntKind.i64, CK.int IntKind.i64, CK.int IntKind.i64, CK.int IntKind.i64, CK.int IntKind.i64, CK.int IntKind.i64, CK.int IntKind.i64, CK.int IntKind.i64, CK.int IntKind.i64, CK.int IntKind.i64, CK.int IntKind.i64, CK.int IntKind.i64, CK.int IntKind.i64, CK.int IntKind.i64, CK.int IntKind.i64, CK.int IntKind.i64, CK.int IntKind.i64, CK.int IntKind.i64, CK.int IntKind.i64, CK.int IntKind.i64, CK.int IntKind.i64] x.scans.n fun i => QB.enc (x.scans.get i)), ((2 : Nat), Blk.frz [CK.int IntKind.i64, CK.int IntKind.i64, CK.int IntKind.i64, CK.int IntKind.i64] x.hang.n fun i => QB.enc (x.hang.get i)), ((49 : Nat), Blk.frz2 false (38 : Nat) [CK.int IntKind.i64, CK.int IntKind.i64] C.length (fun i => (QJ C i).length) fun i j => QB.enc ((QJ C i).getD j (QA.mk (0 : Int) (0 : Int))))])) (QC.need (pb ([(0 : Int) = (0 : Int), (0 : Nat) = (0 : Nat), l.length = l.length, Cap.of (0 : Nat) = Cap.of (0 : Nat), (0 : Nat) = (0 : Nat), (0 : Nat) = (0 : Nat), (0 : Nat) = (0 : Nat), (0 : Nat) = (0 : Nat), (0 : Nat) = (0 : Nat), (0 : Nat) = (0 : Nat), l.length ≤ l.length, QD (2 : Nat) l.length (fun i => QB.enc (l.getD i (QA.mk (0 : Int) (0 : Int)))) fun i => QB.enc (l.getD i (QA.mk (0 : Int) (0 : Int))), sure = sure, may = may, all = all])) (QC.leaf (AV.bool true true) ([((336 : Nat), Blk.cells (0 : Nat) (38 : Nat) [AV.slz (384 : Nat) (0 : Nat) l.length (Cap.of (0 : Nat))]), ((312 : Nat), Blk.mpf IntKind.i64 (AV.int true IntKind.i64 (0 : Int)) has fun i => AV.int false IntKind.i64 (QI l i)), ((297 : Nat), Blk.lp LoopState.ready none msT (Array.mk [(12 : Nat)]) (QQ Try.f53 0).1 (QQ Try.f53 0).2), ((240 : Nat), Blk.cells (0 : Nat) (3 : Nat) [AV.int false IntKind.i64 (IntKind.i64.wrap (many + (1 : Int)))]), ((208 : Nat), Blk.cells (0 : Nat) (3 : Nat) [AV.int false IntKind.i64 (0 : Int)]), ((16 : Nat), Blk.cells (0 : Nat) (3 : Nat) [AV.int false IntKind.i64 (K0 sure hs)]), ((24 : Nat), Blk.cells (0 : Nat) (3 : Nat) [AV.int false IntKind.i64 (orN may (K0 all hs))]), ((384 : Nat), Blk.rowz true (56 : Nat) [CK.int IntKind.i64, CK.int IntKind.i64] l.length fun i => QB.enc (l.getD i (QA.mk (0 : Int) (0 : Int)))), ((48 : Nat), Blk.cellsR (0 : Nat) (125 : Nat) [AV.int false IntKind.i64 x.d.play.length, AV.int false IntKind.i64 x.d.play.slack, AV.int false IntKind.i64 x.d.play.loose, AV.int false IntKind.i64 x.d.play.damp.lo, AV.int false IntKind.i64 x.d.play.damp.hi, AV.int false IntKind.i64 x.d.wide, AV.int false IntKind.i64 x.d.high, AV.bool false x.d.turn, AV.slz (0 : Nat) (0 : Nat) x.d.ps.n (Cap.of (0 : Nat)), AV.slz (1 : Nat) (0 : Nat) x.scans.n (Cap.of (0 : Nat)), AV.slz (2 : Nat) (0 : Nat) x.hang.n (Cap.of (0 : Nat)), AV.int false IntKind.i64 x.lost, AV.int false IntKind.i64 x.foreign, AV.slz (49 : Nat) (0 : Nat) C.length (Cap.of (0 : Nat))]), ((160 : Nat), Blk.cellsR (0 : Nat) (3 : Nat) [AV.int false IntKind.i64 all]), ((216 : Nat), Blk.cellsR (0 : Nat) (101 : Nat) [AV.fn (Fn.func (54 : Nat)) [AV.ptr (16 : Nat) (0 : Nat) (0 : Nat), AV.ptr (24 : Nat) (0 : Nat) (0 : Nat), AV.ptr (160 : Nat) (0 : Nat) (0 : Nat)]]), ((264 : Nat), Blk.cellsR (0 : Nat) (89 : Nat) [AV.ptr (48 : Nat) (0 : Nat) (0 : Nat)]), ((0 : Nat), Blk.frz [CK.int IntKind.i64, CK.int IntKind.i64, CK.int IntKind.i64, CK.int IntKind.i64, CK.int IntKind.i64, CK.int IntKind.i64, CK.int IntKind.i64, CK.int IntKind.i64, CK.int IntKind.i64, CK.int IntKind.i64, CK.int IntKind.i64, CK.int IntKind.i64, CK.int IntKind.i64, CK.int IntKind.i64, CK.int IntKind.i64, CK.int IntKind.i64, CK.int IntKind.i64, CK.int IntKind.i64, CK.int IntKind.i64, CK.int IntKind.i64, CK.int IntKind.i64, CK.int IntKind.i64, CK.int IntKind.i64, CK.int IntKind.i64, CK.int IntKind.i64, CK.int IntKind.i64, CK.int IntKind.i64, CK.int IntKind.i64] x.d.ps.n fun i => QB.enc (x.d.ps.get i)), ((1 : Nat), Blk.frz [CK.int IntKind.i64, CK.int IntKind.i64, CK.int IntKind.i64, CK.int IntKind.i64, CK.int IntKind.i64, CK.int IntKind.i64, CK.int IntKind.i64, CK.int IntKind.i64, CK.int IntKind.i64, CK.int IntKind.i64, CK.int IntKind.i64, CK.int IntKind.i64, CK.int IntKind.i64, CK.int IntKind.i64, CK.int IntKind.i64, CK.int IntKind.i64, CK.int IntKind.i64, CK.int IntKind.i64, CK.int IntKind.i64, CK.int IntKind.i64, CK.int IntKind.i64, CK.int IntKind.i64, CK.int IntKind.i64, CK.int IntKind.i64, CK.int IntKind.i64, CK.int IntKind.i64, CK.int IntKind.i64, CK.int IntKind.i64] x.scans.n fun i => QB.enc (x.scans.get i)), ((2 : Nat), Blk.frz [CK.int IntKind.i64, CK.int IntKind.i64, CK.int IntKind.i64, CK.int IntKind.i64] x.hang.n fun i => QB.enc (x.hang.get i)), ((49 : Nat), Blk.frz2 false (38 : Nat) [CK.int IntKind.i64, CK.int IntKind.i64] C.length (fun i => (QJ C i).length) fun i j => QB.enc ((QJ C i).getD j (QA.mk (0 : Int) (0 : Int))))]))))) (QC.need (decide ((0 : Int) ≤ (↑l.length : Int) ∧ (↑l.length : Int) < (↑C.length : Int)) && decide (C.length ≤ C.length)) (QC.need (decide (l.length < C.length)) (QC.fail ("a loop")))) := by kernel_rfl
noncomputable abbrev QBr:Nat×Blk:=
  (297,.lp LoopState.ready none msT (Array.mk [12]) (QQ Try.f53 0).1 (QQ Try.f53 0).2)
noncomputable abbrev QCN:Nat×Blk:=
  (208,.cells 0 3 [.int false .i64 (0:Int)])
noncomputable abbrev QKd (C:List (List QA)) (x:QE):Nat×Blk:=
  (48,.cellsR 0 125 [.int false .i64 x.d.play.length,.int false .i64 x.d.play.slack,.int false .i64 x.d.play.loose,.int false .i64 x.d.play.damp.lo,.int false .i64
  x.d.play.damp.hi,.int false .i64 x.d.wide,.int false .i64 x.d.high,.bool false x.d.turn,.slz 0 0 x.d.ps.n (Cap.of 0),.slz 1 0 x.scans.n (Cap.of 0),.slz 2 0 x.hang.n (Cap.of
  0),.int false .i64 x.lost,.int false .i64 x.foreign,.slz 49 0 C.length (Cap.of 0)])
noncomputable abbrev QIC:Nat×Blk:=
  (216,.cellsR 0 101 [.fn (Fn.func 54) [.ptr 16 0 0,.ptr 24 0 0,.ptr 160 0 0]])
noncomputable abbrev G3:List CK:=
  [.int .i64,.int .i64,.int .i64,.int .i64,.int .i64,.int .i64,.int .i64,.int .i64,.int .i64,.int .i64,.int .i64,.int .i64,.int .i64,.int .i64,.int .i64,.int .i64,.int
  .i64,.int .i64,.int .i64,.int .i64,.int .i64,.int .i64,.int .i64,.int .i64,.int .i64,.int .i64,.int .i64,.int .i64]
noncomputable abbrev QHz (C:List (List QA)):Nat×Blk:=
  (49,.frz2 false 38 [.int .i64,.int .i64] C.length (fun i=>(QJ C i).length) fun i j=>QB.enc ((QJ C i).getD j (QA.mk (0:Int) (0:Int))))
theorem QKy (x:QE) (C:List (List QA)) (all:Int) (l:List QA) (has:Int→Bool) (many sure may:Int) :QO 392 [(.bool true true)] ([(336,.cells 0 38 [.slz 384 0 l.length (Cap.of 0)]),(312,.mpf IntKind.i64 (.int true .i64 (0:Int)) has fun i => .int false .i64 (QI l i)),QBr,
  (240,.cells 0 3 [.int false .i64 many]),QCN,(16,.cells 0 3 [.int false .i64 sure]),(24,.cells 0 3 [.int false .i64 may]),(384,.rowz true 56 [.int .i64,.int .i64] l.length
  fun i=>QB.enc (l.getD i (QA.mk (0:Int) (0:Int)))),(QKd C x),(160,.cellsR 0 3 [.int false .i64 all]),QIC,(264,.cellsR 0 89 [.ptr 48 0 0]),(0,.frz G3 x.d.ps.n
  fun i=>QB.enc (x.d.ps.get i)),(1,.frz G3 x.scans.n fun i=>QB.enc (x.scans.get i)),(2,.frz [.int .i64,.int .i64,.int .i64,.int .i64] x.hang.n fun i=>QB.enc
  (x.hang.get i)),(QHz C)]) (K2 (msU x C all (QQ Try.f53 0).1 (QQ Try.f53 0).2 l has many sure may has many sure may))=( some [true=true,0=0,l.length=l.length,
  Cap.of 0=Cap.of 0,l.length≤l.length,QD 2 l.length (fun i=>QB.enc (l.getD i (QA.mk (0:Int) (0:Int)))) fun i=>QB.enc (l.getD i (QA.mk (0:Int) (0:Int))),
  Kn (.int true .i64 (0:Int)) (.int true .i64 (0:Int)) has has (fun i => .int false .i64 (QI l i)) fun i => .int false .i64 (QI l i),LoopState.ready=LoopState.ready,
  (none:Option Code)=none,Array.mk [12]=Array.mk [(12:Tmp)],(QQ Try.f53 0).1=(QQ Try.f53 0).1,(QQ Try.f53 0).2=(QQ Try.f53 0).2,0=0,0=0,(0:Int)
  = (0:Int),Fn.func (54:FuncId)=Fn.func (54:FuncId),0=0,0=0,0=0,0=0,0=0,0=0,0=0,0=0,0=0,0=0,(0:Int)=(0:Int),false=false,0=0,0=0,
  0=0,0=0,Fn.func (76:FuncId)=Fn.func (76:FuncId),0=0,0=0,many=many,(0:Int)=(0:Int),sure=sure,may=may]):=by kernel_rfl
theorem QLC (x:QE) (C:List (List QA)) (all:Int) (l:List QA) (has:Int→Bool) (many sure may hs many' sure' may':Int) :QO 392 [(.bool true true)] ([(336,.cells 0 38 [.slz 384 0 l.length (Cap.of 0)]),(312,.mpf IntKind.i64 (.int true .i64 (0:Int)) has fun i => .int false .i64 (QI l i)),QBr,
  (240,.cells 0 3 [.int false .i64 (IntKind.i64.wrap (many + (1:Int)))]),QCN,(16,.cells 0 3 [.int false .i64 (K0 sure hs)]),(24,.cells 0 3 [.int false .i64 (orN may (K0
  all hs))]),(384,.rowz true 56 [.int .i64,.int .i64] l.length fun i=>QB.enc (l.getD i (QA.mk (0:Int) (0:Int)))),(QKd C x),(160,.cellsR 0 3 [.int false .i64 all]),
  QIC,(264,.cellsR 0 89 [.ptr 48 0 0]),(0,.frz G3 x.d.ps.n fun i=>QB.enc (x.d.ps.get i)),(1,.frz G3 x.scans.n fun i=>QB.enc (x.scans.get i)),(2,.frz [.int .i64,
  .int .i64,.int .i64,.int .i64] x.hang.n fun i=>QB.enc (x.hang.get i)),(QHz C)]) (K2 (msU x C all (QQ Try.f53 0).1 (QQ Try.f53 0).2 l has many sure may has many'
  sure' may'))=( some [true=true,0=0,l.length=l.length,Cap.of 0=Cap.of 0,l.length≤l.length,QD 2 l.length (fun i=>QB.enc (l.getD i (QA.mk (0:Int) (0 :
  Int)))) fun i=>QB.enc (l.getD i (QA.mk (0:Int) (0:Int))),Kn (.int true .i64 (0:Int)) (.int true .i64 (0:Int)) has has (fun i => .int false .i64 (QI l i)) fun i
  => .int false .i64 (QI l i),LoopState.ready=LoopState.ready,(none:Option Code)=none,Array.mk [12]=Array.mk [(12:Tmp)],(QQ Try.f53 0).1=(QQ Try.f53 0).1,
  (QQ Try.f53 0).2=(QQ Try.f53 0).2,0=0,0=0,(0:Int)=(0:Int),Fn.func (54:FuncId)=Fn.func (54:FuncId),0=0,0=0,0=0,0=0,0=0,0=0,0=0,0 =
  0,0=0,0=0,(0:Int)=(0:Int),false=false,0=0,0=0,0=0,0=0,Fn.func (76:FuncId)=Fn.func (76:FuncId),0=0,0=0,IntKind.i64.wrap (many + (1:Int)) =
  many',(0:Int)=(0:Int),K0 sure hs=sure',orN may (K0 all hs)=may']):=by kernel_rfl
theorem QOL (x:QE) (C:List (List QA)) (all:Int) (cs l:List QA) (has:Int→Bool) (many sure may:Int) (has':Int→Bool) (many' sure' may':Int):(Vr (mkE Try.prog Qu) (msX Try.prog (msJ x C all (QQ Try.f53 0).1 (QQ Try.f53 0).2 cs l has many sure may 0) [(True,.exit 0,msE (QQ Try.f53 0).1 (QQ Try.f53 0).2 l has' many' sure' may')]) Try.f77 QAX (Hb x C all (QQ Try.f53 0).1 (QQ Try.f53 0).2 l has many sure may).hp 392 fun v h _=>qR j9 v h) =
  QC.br ((↑l.length : Int) == (↑x.scans.n : Int)) (QC.need (isI IntKind.i64 (AV.int false IntKind.i64 (QI l (-2 : Int)))) (QC.br (decide (IntKind.i64.wrap ((↑x.d.ps.n : Int) - IntKind.i64.wrap ((↑l.length : Int) - toI (AV.int false IntKind.i64 (QI l (-2 : Int))))) > x.lost)) (QC.leaf (AV.bool true true) ([((336 : Nat), Blk.cells (0 : Nat) (38 : Nat) [AV.slz (384 : Nat) (0 : Nat) l.length (Cap.of (0 : Nat))]), ((312 : Nat), Blk.mpf IntKind.i64 (AV.int true IntKind.i64 (0 : Int)) has fun i => AV.int false IntKind.i64 (QI l i)), ((297 : Nat), Blk.lp LoopState.ready none msT (Array.mk [(12 : Nat)]) (QQ Try.f53 0).1 (QQ Try.f53 0).2), ((240 : Nat), Blk.cells (0 : Nat) (3 : Nat) [AV.int false IntKind.i64 many]), ((208 : Nat), Blk.cells (0 : Nat) (3 : Nat) [AV.int false IntKind.i64 (0 : Int)]), ((16 : Nat), Blk.cells (0 : Nat) (3 : Nat) [AV.int false IntKind.i64 sure]), ((24 : Nat), Blk.cells (0 : Nat) (3 : Nat) [AV.int false IntKind.i64 may]), ((384 : Nat), Blk.rowz true (56 : Nat) [CK.int IntKind.i64, CK.int IntKind.i64] l.length fun i => QB.enc (l.getD i (QA.mk (0 : Int) (0 : Int)))), ((48 : Nat), Blk.cellsR (0 : Nat) (125 : Nat) [AV.int false IntKind.i64 x.d.play.length, AV.int false IntKind.i64 x.d.play.slack, AV.int false IntKind.i64 x.d.play.loose, AV.int false IntKind.i64 x.d.play.damp.lo, AV.int false IntKind.i64 x.d.play.damp.hi, AV.int false IntKind.i64 x.d.wide, AV.int false IntKind.i64 x.d.high, AV.bool false x.d.turn, AV.slz (0 : Nat) (0 : Nat) x.d.ps.n (Cap.of (0 : Nat)), AV.slz (1 : Nat) (0 : Nat) x.scans.n (Cap.of (0 : Nat)), AV.slz (2 : Nat) (0 : Nat) x.hang.n (Cap.of (0 : Nat)), AV.int false IntKind.i64 x.lost, AV.int false IntKind.i64 x.foreign, AV.slz (49 : Nat) (0 : Nat) C.length (Cap.of (0 : Nat))]), ((160 : Nat), Blk.cellsR (0 : Nat) (3 : Nat) [AV.int false IntKind.i64 all]), ((216 : Nat), Blk.cellsR (0 : Nat) (101 : Nat) [AV.fn (Fn.func (54 : Nat)) [AV.ptr (16 : Nat) (0 : Nat) (0 : Nat), AV.ptr (24 : Nat) (0 : Nat) (0 : Nat), AV.ptr (160 : Nat) (0 : Nat) (0 : Nat)]]), ((264 : Nat), Blk.cellsR (0 : Nat) (89 : Nat) [AV.ptr (48 : Nat) (0 : Nat) (0 : Nat)]), ((0 : Nat), Blk.frz [CK.int IntKind.i64, CK.int IntKind.i64, CK.int IntKind.i64, CK.int IntKind.i64, CK.int IntKind.i64, CK.int IntKind.i64, CK.int IntKind.i64, CK.int IntKind.i64, CK.int IntKind.i64, CK.int IntKind.i64, CK.int IntKind.i64, CK.int IntKind.i64, CK.int IntKind.i64, CK.int IntKind.i64, CK.int IntKind.i64, CK.int IntKind.i64, CK.int IntKind.i64, CK.int IntKind.i64, CK.int IntKind.i64, CK.int IntKind.i64, CK.int IntKind.i64, CK.int IntKind.i64, CK.int IntKind.i64, CK.int IntKind.i64, CK.int IntKind.i64, CK.int IntKind.i64, CK.int IntKind.i64, CK.int IntKind.i64] x.d.ps.n fun i => QB.enc (x.d.ps.get i)), ((1 : Nat), Blk.frz [CK.int IntKind.i64, CK.int IntKind.i64, CK.int IntKind.i64, CK.int IntKind.i64, CK.int IntKind.i64, CK.int IntKind.i64, CK.int IntKind.i64, CK.int IntKind.i64, CK.int IntKind.i64, CK.int IntKind.i64, CK.int IntKind.i64, CK.int IntKind.i64, CK.int IntKind.i64, CK.int IntKind.i64, CK.int IntKind.i64, CK.int IntKind.i64, CK.int IntKind.i64, CK.int IntKind.i64, CK.int IntKind.i64, CK.int IntKind.i64, CK.int IntKind.i64, CK.int IntKind.i64, CK.int IntKind.i64, CK.int IntKind.i64, CK.int IntKind.i64, CK.int IntKind.i64, CK.int IntKind.i64, CK.int IntKind.i64] x.scans.n fun i => QB.enc (x.scans.get i)), ((2 : Nat), Blk.frz [CK.int IntKind.i64, CK.int IntKind.i64, CK.int IntKind.i64, CK.int IntKind.i64] x.hang.n fun i => QB.enc (x.hang.get i)), ((49 : Nat), Blk.frz2 false (38 : Nat) [CK.int IntKind.i64, CK.int IntKind.i64] C.length (fun i => (QJ C i).length) fun i j => QB.enc ((QJ C i).getD j (QA.mk (0 : Int) (0 : Int))))])) (QC.fail ("a loop")))) (QC.need (decide ((0 : Int) ≤ (↑l.length : Int) ∧ (↑l.length : Int) < (↑C.length : Int)) && decide (C.length ≤ C.length)) (QC.need (decide (l.length < C.length)) (QC.ask ((0 : Nat) = (0 : Nat)) (QC.ask ((0 : Nat) = (0 : Nat)) (QC.ask ((0 : Nat) = (0 : Nat)) (QC.ask ((0 : Nat) = (0 : Nat)) (QC.ask ((0 : Nat) = (0 : Nat)) (QC.ask ((0 : Nat) = (0 : Nat)) (QC.ask ((0 : Nat) = (0 : Nat)) (QC.ask ((0 : Nat) = (0 : Nat)) (QC.ask ((0 : Nat) = (0 : Nat)) (QC.ask ((0 : Nat) = (0 : Nat)) (QC.ask ((0 : Nat) = (0 : Nat)) (QC.ask ((QJ C l.length).length = cs.length) (QC.ask (Cap.of (0 : Nat) = Cap.of (0 : Nat)) (QC.ask ((↑(QJ C l.length).length : Int) = (↑cs.length : Int)) (QC.ask ((0 : Int) = (0 : Int)) (QC.ask (cs.length ≤ (QJ C l.length).length) (QC.ask (QD (2 : Nat) cs.length (fun j => QB.enc ((QJ C l.length).getD j (QA.mk (0 : Int) (0 : Int)))) fun i => QB.enc (cs.getD i (QA.mk (0 : Int) (0 : Int)))) (QC.ask ((0 : Nat) = (0 : Nat)) (QC.ask (l.length = l.length) (QC.ask (Cap.of (0 : Nat) = Cap.of (0 : Nat)) (QC.ask (l.length ≤ l.length) (QC.ask (QD (2 : Nat) l.length (fun i => QB.enc (l.getD i (QA.mk (0 : Int) (0 : Int)))) fun i => QB.enc (l.getD i (QA.mk (0 : Int) (0 : Int)))) (QC.ask (Kn (AV.int true IntKind.i64 (0 : Int)) (AV.int true IntKind.i64 (0 : Int)) has has (fun i => AV.int false IntKind.i64 (QI l i)) fun i => AV.int false IntKind.i64 (QI l i)) (QC.ask (LoopState.ready = LoopState.ready) (QC.ask ((none : Option Code) = none) (QC.ask (Array.mk [(12 : Tmp)] = Array.mk [(12 : Tmp)]) (QC.ask ((QQ Try.f53 0).1 = (QQ Try.f53 0).1) (QC.ask ((QQ Try.f53 0).2 = (QQ Try.f53 0).2) (QC.ask ((0 : Nat) = (0 : Nat)) (QC.ask ((0 : Nat) = (0 : Nat)) (QC.ask ((0 : Int) = (0 : Int)) (QC.ask (Fn.func (54 : FuncId) = Fn.func (54 : FuncId)) (QC.ask ((0 : Nat) = (0 : Nat)) (QC.ask ((0 : Nat) = (0 : Nat)) (QC.ask ((0 : Nat) = (0 : Nat)) (QC.ask ((0 : Nat) = (0 : Nat)) (QC.ask ((0 : Nat) = (0 : Nat)) (QC.ask ((0 : Nat) = (0 : Nat)) (QC.ask ((0 : Nat) = (0 : Nat)) (QC.ask ((0 : Nat) = (0 : Nat)) (QC.ask ((0 : Nat) = (0 : Nat)) (QC.ask ((0 : Nat) = (0 : Nat)) (QC.ask ((0 : Int) = (0 : Int)) (QC.ask (false = false) (QC.ask ((0 : Nat) = (0 : Nat)) (QC.ask ((0 : Nat) = (0 : Nat)) (QC.ask ((0 : Nat) = (0 : Nat)) (QC.ask ((0 : Nat) = (0 : Nat)) (QC.ask (Fn.func (76 : FuncId) = Fn.func (76 : FuncId)) (QC.ask ((0 : Nat) = (0 : Nat)) (QC.ask ((0 : Nat) = (0 : Nat)) (QC.ask (many = many) (QC.ask ((0 : Int) = (0 : Int)) (QC.ask (sure = sure) (QC.ask (may = may) (QC.ask (Fn.func (77 : FuncId) = Fn.func (77 : FuncId)) (QC.ask ((0 : Nat) = (0 : Nat)) (QC.ask ((0 : Nat) = (0 : Nat)) (QC.ask ((0 : Nat) = (0 : Nat)) (QC.ask ((0 : Nat) = (0 : Nat)) (QC.ask ((0 : Nat) = (0 : Nat)) (QC.ask ((0 : Nat) = (0 : Nat)) (QC.ask ((0 : Nat) = (0 : Nat)) (QC.ask ((0 : Nat) = (0 : Nat)) (QC.ask ((0 : Nat) = (0 : Nat)) (QC.ask ((0 : Nat) = (0 : Nat)) (QC.ask ((0 : Nat) = (0 : Nat)) (QC.ask ((0 : Nat) = (0 : Nat)) (QC.ask (Fn.func (54 : FuncId) = Fn.func (54 : FuncId)) (QC.ask ((0 : Nat) = (0 : Nat)) (QC.ask ((0 : Nat) = (0 : Nat)) (QC.ask ((0 : Nat) = (0 : Nat)) (QC.ask ((0 : Nat) = (0 : Nat)) (QC.ask ((0 : Nat) = (0 : Nat)) (QC.ask ((0 : Nat) = (0 : Nat)) (QC.ask (all = all) (QC.ask (x.d.play.length = x.d.play.length) (QC.ask (x.d.play.slack = x.d.play.slack) (QC.ask (x.d.play.loose = x.d.play.loose) (QC.ask (x.d.play.damp.lo = x.d.play.damp.lo) (QC.ask (x.d.play.damp.hi = x.d.play.damp.hi) (QC.ask (x.d.wide = x.d.wide) (QC.ask (x.d.high = x.d.high) (QC.ask (x.d.turn = x.d.turn) (QC.ask ((0 : Nat) = (0 : Nat)) (QC.ask (x.d.ps.n = x.d.ps.n) (QC.ask (Cap.of (0 : Nat) = Cap.of (0 : Nat)) (QC.ask ((0 : Nat) = (0 : Nat)) (QC.ask (x.scans.n = x.scans.n) (QC.ask (Cap.of (0 : Nat) = Cap.of (0 : Nat)) (QC.ask ((0 : Nat) = (0 : Nat)) (QC.ask (x.hang.n = x.hang.n) (QC.ask (Cap.of (0 : Nat) = Cap.of (0 : Nat)) (QC.ask (x.lost = x.lost) (QC.ask (x.foreign = x.foreign) (QC.ask ((0 : Nat) = (0 : Nat)) (QC.ask (C.length = C.length) (QC.ask (Cap.of (0 : Nat) = Cap.of (0 : Nat)) (QC.ask (C.length = C.length) (QC.ask (Kd (2 : Nat) C.length (fun i => (QJ C i).length) (fun i => (QJ C i).length) (fun i j => QB.enc ((QJ C i).getD j (QA.mk (0 : Int) (0 : Int)))) fun i j => QB.enc ((QJ C i).getD j (QA.mk (0 : Int) (0 : Int)))) (QC.ask (x.d.ps.n ≤ x.d.ps.n) (QC.ask (QD (28 : Nat) x.d.ps.n (fun i => QB.enc (x.d.ps.get i)) fun i => QB.enc (x.d.ps.get i)) (QC.ask (x.scans.n ≤ x.scans.n) (QC.ask (QD (28 : Nat) x.scans.n (fun i => QB.enc (x.scans.get i)) fun i => QB.enc (x.scans.get i)) (QC.ask (x.hang.n ≤ x.hang.n) (QC.ask (QD (4 : Nat) x.hang.n (fun i => QB.enc (x.hang.get i)) fun i => QB.enc (x.hang.get i)) (QC.asm (True) (QC.all (fun (g0 : Nat → Value) => QC.leaf (AV.bool true true) ([((336 : Nat), Blk.cells (0 : Nat) (38 : Nat) [AV.slz (400 : Nat) (0 : Nat) l.length (Cap.of (0 : Nat))]), ((312 : Nat), Blk.mpf IntKind.i64 (AV.int true IntKind.i64 (0 : Int)) has' fun i => AV.int false IntKind.i64 (QI l i)), ((297 : Nat), Blk.lp LoopState.ready none msT (Array.mk [(12 : Nat)]) (QQ Try.f53 0).1 (QQ Try.f53 0).2), ((240 : Nat), Blk.cells (0 : Nat) (3 : Nat) [AV.int false IntKind.i64 many']), ((208 : Nat), Blk.cells (0 : Nat) (3 : Nat) [AV.int false IntKind.i64 (0 : Int)]), ((16 : Nat), Blk.cells (0 : Nat) (3 : Nat) [AV.int false IntKind.i64 sure']), ((24 : Nat), Blk.cells (0 : Nat) (3 : Nat) [AV.int false IntKind.i64 may']), ((400 : Nat), Blk.rowz true (56 : Nat) [CK.int IntKind.i64, CK.int IntKind.i64] l.length fun i => QB.enc (l.getD i (QA.mk (0 : Int) (0 : Int))))])))))))))))))))))))))))))))))))))))))))))))))))))))))))))))))))))))))))))))))))))))))))))))))))))))))))))))))))) := by kernel_rfl
theorem QMf (x:QE) (C:List (List QA)) (all:Int) (l:List QA) (has:Int→Bool) (many sure may:Int) (has':Int→Bool) (many' sure' may':Int) :QO 392 [(.bool true true)] ([(336,.cells 0 38 [.slz 400 0 l.length (Cap.of 0)]),(312,.mpf IntKind.i64 (.int true .i64 (0:Int)) has' fun i => .int false .i64 (QI l i)),
  QBr,(240,.cells 0 3 [.int false .i64 many']),QCN,(16,.cells 0 3 [.int false .i64 sure']),(24,.cells 0 3 [.int false .i64 may']),(400,.rowz true 56 [.int .i64,.int .i64]
  l.length fun i=>QB.enc (l.getD i (QA.mk (0:Int) (0:Int))))]) (K2 (msU x C all (QQ Try.f53 0).1 (QQ Try.f53 0).2 l has many sure may has' many' sure' may'))=(
  some [true=true,0=0,l.length=l.length,Cap.of 0=Cap.of 0,l.length≤l.length,QD 2 l.length (fun i=>QB.enc (l.getD i (QA.mk (0:Int) (0:Int)))) fun i=>
  QB.enc (l.getD i (QA.mk (0:Int) (0:Int))),Kn (.int true .i64 (0:Int)) (.int true .i64 (0:Int)) has' has' (fun i => .int false .i64 (QI l i)) fun i => .int false
  .i64 (QI l i),LoopState.ready=LoopState.ready,(none:Option Code)=none,Array.mk [12]=Array.mk [(12:Tmp)],(QQ Try.f53 0).1=(QQ Try.f53 0).1,(QQ Try.f53
  0).2=(QQ Try.f53 0).2,0=0,0=0,(0:Int)=(0:Int),Fn.func (54:FuncId)=Fn.func (54:FuncId),0=0,0=0,0=0,0=0,0=0,0=0,0=0,0=0,0=0,0 =
  0,(0:Int)=(0:Int),false=false,0=0,0=0,0=0,0=0,Fn.func (76:FuncId)=Fn.func (76:FuncId),0=0,0=0,many'=many',(0:Int)=(0:Int),sure' =
  sure',may'=may']):=by kernel_rfl
end Go.Proofs.Ytbpffdkemeoajaa
namespace Go.Proofs.Ytbpffdkemeoajaa
open Go.SX
noncomputable abbrev V2:Code:=(QQ Try.f53 0).1
noncomputable abbrev V5:Code:=(QQ Try.f53 0).2
theorem qT (N M k nid:Nat) (h:N≤M + k):K4 N M nid (M + k)=nid + k:=by
 have:Nat.blt (M + k) N=false:=WD (by omega)
 simp only [K4,this];omega
structure ZO (x:QE) (C:List (List QA)):Prop where
 n:C.length=x.scans.n
 le:∀ i,(QJ C i).length≤1000
 s:∀ i,∀ c∈QJ C i,JF c
theorem zk {α:Type} {l:List α} {i:Nat} {z:α} (h:i < l.length):l.getD i z∈l:=by
 rw [List.getD_eq_getElem?_getD,List.getElem?_eq_getElem h];exact List.getElem_mem h
theorem QHW {l:List QA} (hp:0 < l.length) (hl:l.length≤1000) (h:∀ c∈l,JF c):Z8 l:=⟨hp,hl,fun i hi=>h _ (zk hi)⟩
theorem QOX {l:List QA} (hl:l.length≤1000) (h:∀ c∈l,JF c):zx l:=⟨hl,fun i hi=>by
 have:=(h _ (zk (z:=⟨0,0⟩) hi)).cell
 omega⟩
theorem QKM {x:QE} {l:List QA} (h1:x.d.ps.n≤1000) (h2:l.length≤1000):decide (IntKind.i64.wrap ((x.d.ps.n:Int) - IntKind.i64.wrap ((l.length:Int) - QI l (-2))) > x.lost)=X4 x l:=by
 have a1:=WL l (-2)
 have a2:=zY l (-2)
 rw [show IntKind.i64.wrap ((l.length:Int) - QI l (-2))=(l.length:Int) - QI l (-2) from w64 (by omega) (by omega),show IntKind.i64.wrap ((x.d.ps.n:Int) - ((l.length:Int) - QI l (-2)))=(x.d.ps.n:Int) - ((l.length:Int) - QI l (-2)) from w64 (by omega) (by omega)]
 rfl
theorem QI9 (x:QE) (C:List (List QA)) (all:Int) (ac body:Code) (l:List QA) (has:Int→Bool) (many sure may:Int) (has':Int→Bool) (many' sure' may':Int):(msU x C all ac body l has many sure may has' many' sure' may').Ok:=by
 refine ⟨(by decide:376≤392),rfl,rfl,?_,rfl,fun _ _=>rfl,fun nid h => ?_⟩
 ·intro q hq
  simp only [UC.po,msU,msW,rwL,List.mem_cons,List.not_mem_nil,or_false] at hq
  rcases hq with rfl|rfl|rfl|rfl|rfl|rfl|rfl|rfl<;>refine ⟨rfl,rfl,rfl,?_⟩<;>first|exact fun _=>rfl|exact fun h=>absurd (show 392 < 376 from h) (by decide)
 ·have e0:=qT 376 392 0 nid (by decide)
  simp only [UC.po,msU,msW,rwL,Hb,msT,List.map_cons,List.map_nil,Blk.mapId,AV.mapId,AV.mapIdL,Nat.add_zero] at e0 ⊢
  rw [e0]
  rfl
theorem QH4 (T:Tab) (hT:QU T) (G:Ctx) (hrd:G.rd=none):Q4 (mkE Try.prog T) G (msN Try.prog T) (Qm Try.f77):=
 JR (body:=Qf Try.f77 0) (QN hT) hrd (by kernel_rfl) (fun _ _ _ _ _ _ _ h _ _=>h.elim)
theorem QTG {x:QE} (hx:JI x) (C:List (List QA)) (all:Int) {l:List QA} (hn:l.length=x.scans.n) (hl:∀ c∈l,JF c) (s:MsS) (h:Int→Bool):QM Try.prog 77 (uFC (Xg x C all V2 V5 l h s (V9 x (msY all) l s h))):=by
 obtain ⟨many,sure,may⟩:=s
 have hs:=hx.s
 have hd:=hx.d.n9
 have hT:QU (Wn Qo (mmU l 0 sure may all (KJ l l.length))):=KD.add (QKs l 0 sure may all (QOX (by omega) hl))
 have fin:∀ (s':MsS),Xe (zd (msU x C all V2 V5 l h many sure may h s'.1 s'.2.1 s'.2.2)) (VG (mkE Try.prog (Wn Qo (mmU l 0 sure may all (KJ l l.length)))) (msN Try.prog (Wn Qo (mmU l 0 sure may all (KJ l l.length)))) Try.f77 (msU x C all V2 V5 l h many sure may h s'.1 s'.2.1 s'.2.2))→QM Try.prog 77 (uFC (msU x C all V2 V5 l h many sure may h s'.1 s'.2.1 s'.2.2)):=fun s' hd=>
  Jz (E:=mkE Try.prog (Wn Qo (mmU l 0 sure may all (KJ l l.length)))) (QN hT) Try.func77 (by kernel_rfl) (by kernel_rfl) (QI9 ..) (fun G h1 _=>QH4 _ hT G h1) ⟨hd⟩
 have he:=QKM (x:=x) (l:=l) (by omega) (by omega)
 cases hb:X4 x l with
 | true=>
  rw [hb] at he
  simp only [V9,hb,Xg]
  refine fin (many,sure,may) (KF (QJX Qo x C all l h many sure may (KJ l l.length)) ?_)
  refine QL (fun _=>QF rfl (QL (fun _ => ?_) (fun q=>Bool.noConfusion (show true=false from he.symm.trans q)))) (fun q=>by rw [hn] at q;simp at q)
  refine ⟨rfl,rfl,_,QKy x C all l h many sure may,?_⟩
  repeat' first|exact trivial|with_reducible rfl|exact Nat.le_refl _|exact QD.refl _ _ _|exact Qp _ _ _ _|exact VN _ _ _|refine And.intro ?_ ?_
 | false=>
  rw [hb] at he
  simp only [V9,hb,msY,Xg]
  refine fin (IntKind.i64.wrap (many + 1),K0 sure (KJ l l.length),orN may (K0 all (KJ l l.length))) (KF (QJX Qo x C all l h many sure may (KJ l l.length)) ?_)
  refine QL (fun _=>QF rfl (QL (fun q=>Bool.noConfusion (show true=false from q.symm.trans he)) (fun _=>QF (Kr.2 ?_) ?_))) (fun q=>by rw [hn] at q;simp at q)
  ·repeat' first|exact trivial|with_reducible rfl|exact Nat.le_refl _|exact QD.refl _ _ _|refine And.intro ?_ ?_
  refine ⟨rfl,rfl,_,QLC x C all l h many sure may (KJ l l.length) _ _ _,?_⟩
  repeat' first|exact trivial|with_reducible rfl|exact Nat.le_refl _|exact QD.refl _ _ _|exact Qp _ _ _ _|exact VN _ _ _|exact (show _=K0 _ _ from rfl)|exact (show _=orN _ _ from rfl)|refine And.intro ?_ ?_
theorem QMF {x:QE} (hx:JI x) {C:List (List QA)} {all:Int} {ac body:Code} {d:Nat} {cs l:List QA} (hl:l.length < 1000) (hls:∀ c∈l,JF c) (hcs:∀ c∈cs,JF c) (IH:∀ c∈cs,∀ s h,QM Try.prog 77 (uFC (Xg x C all ac body (l++[c]) h s (V0 x C all d l s h c)))) (t:MsK):(ZX Try.prog x C all ac body d cs l t).Sound:=by
 unfold ZX kPb
 split
 ·rename_i hk
  have hk:=of_decide_eq_true hk
  have hm:=zk (z:=(⟨0,0⟩:QA)) hk
  refine QN ((KD.add (QKY x C _ hx (QHW (by simp) (by simp;omega) ?_))).add (IH _ hm _ _))
  intro c hc
  rcases List.mem_append.1 hc with h|h
  ·exact hls c h
  ·rw [List.mem_singleton.1 h];exact hcs _ hm
 ·exact QN ((KD.add (qq (by kernel_rfl) _)).add (qq (by kernel_rfl) _))
theorem QQW {x:QE} (hx:JI x) {C:List (List QA)} (hC:ZO x C) {all:Int} {ac body:Code} {d:Nat} {l:List QA} (hl:l.length + (d + 1)=x.scans.n) (hls:∀ c∈l,JF c) (IH:∀ c∈QJ C l.length,∀ s h,QM Try.prog 77 (uFC (Xg x C all ac body (l++[c]) h s (V0 x C all d l s h c))))
  (s:MsS) (h:Int→Bool) {X:List (Prop×Ex×JSt)} (hX:∀ e J,YA x C all ac body d (QJ C l.length) l (0,s,h) e J→∃ y∈X,y.1∧y.2.1=e∧y.2.2=J) (G:Ctx) (hrd:G.rd=none) (hG:G.n=392) :
  Q4 (mkE Try.prog Qu) G (msX Try.prog (msJ x C all ac body (QJ C l.length) l h s.1 s.2.1 s.2.2 0) X) (Qm Try.f77):=by
 have hs:=hx.s
 refine JR (body:=Qf Try.f77 0) (QN KD) hrd (by kernel_rfl) ?_
 have hE:=fun t=>QMF hx (C:=C) (all:=all) (ac:=ac) (body:=body) (d:=d) (cs:=QJ C l.length) (l:=l) (by omega) hls (hC.s _) IH t
 refine QCI (E0:=mkE Try.prog Qu) (E:=ZX Try.prog x C all ac body d (QJ C l.length) l) (H:=fun t=>hnd (ZX Try.prog x C all ac body d (QJ C l.length) l t) 0) (n0:=392) (s0:=(0,s,h)) (fun _=>rfl) hE (by omega) (fun t _=>Qt (hE t) 0 G _ hrd) (fun t _=>(by decide:392≤424)) ?_ (QQD x C all ac body d (QJ C l.length) l (hC.le _) (by omega)) (Nat.zero_le _) hX
 intro t e J hr
 unfold YA at hr
 split at hr
 ·rw [hr.2];exact (by decide:392≤424)
 ·exact hr.elim
theorem QMv {x:QE} (hx:JI x) {C:List (List QA)} (hC:ZO x C) {all:Int} {d:Nat} {l:List QA} (hl:l.length + (d + 1)=x.scans.n) (hls:∀ c∈l,JF c) (IH:∀ c∈QJ C l.length,∀ s h,QM Try.prog 77 (uFC (Xg x C all V2 V5 (l++[c]) h s (V0 x C all d l s h c))))
  (s:MsS) (h:Int→Bool):QM Try.prog 77 (uFC (Xg x C all V2 V5 l h s (onT x C (msY all) (d + 1) l s h))):=by
 obtain ⟨s',h',he⟩:=Za (C:=C) (x:=x) (Y:=msY all) (fun _ _=>rfl) (d + 1) l s h
 rw [he]
 have hc:Jd (JN x l (V0 x C all d l)) (QJ C l.length) s h = .go s' h':=he
 have hCn:=hC.n
 refine Jz (E:=mkE Try.prog Qu) (QN KD) Try.func77 (by kernel_rfl) (by kernel_rfl) (QI9 ..) (QQW hx hC hl hls IH s h (X:=[(True,.exit 0,msE V2 V5 l h' s'.1 s'.2.1 s'.2.2)]) ?_) ⟨?_⟩
 ·intro e J hr
  unfold YA at hr
  simp only [List.drop_zero,hc] at hr
  exact ⟨_,List.mem_cons_self,trivial,hr.1.symm,hr.2.symm⟩
 ·refine KF (QOL x C all (QJ C l.length) l h s.1 s.2.1 s.2.2 h' s'.1 s'.2.1 s'.2.2) ?_
  refine QL (fun q=>by simp at q;omega) (fun _=>QF (by simp;omega) (QF (by simp;omega) ?_))
  repeat' first|refine Qc (p:=_=_) rfl ?_|refine Qc (p:=_≤_) (Nat.le_refl _) ?_|refine Qc (p:=QD _ _ _ _) (QD.refl _ _ _) ?_|refine Qc (p:=Kd _ _ _ _ _ _) (Qp _ _ _ _) ?_|refine Qc (p:=Kn _ _ _ _ _ _) (VN _ _ _) ?_
  refine KQ fun _=>KX fun g=>⟨rfl,rfl,_,QMf x C all l h s.1 s.2.1 s.2.2 h' s'.1 s'.2.1 s'.2.2,?_⟩
  repeat' first|exact trivial|with_reducible rfl|exact Nat.le_refl _|exact QD.refl _ _ _|exact Qp _ _ _ _|exact VN _ _ _|refine And.intro ?_ ?_
theorem QG8 {x:QE} (hx:JI x) {C:List (List QA)} (hC:ZO x C) (all:Int):∀ (d:Nat) (l:List QA) (s:MsS) (h:Int→Bool),l.length + d=x.scans.n→(∀ c∈l,JF c)→QM Try.prog 77 (uFC (Xg x C all V2 V5 l h s (onT x C (msY all) d l s h)))
 | 0,l,s,h,hn,hl=>QTG hx C all (by omega) hl s h
 | d + 1,l,s,h,hn,hl=>QMv hx hC (by omega) hl (fun c hc s h=>QG8 hx hC all d (l++[c]) s h (by simp;omega) (fun y hy=>by
   rcases List.mem_append.1 hy with q|q
   ·exact hl y q
   ·rw [List.mem_singleton.1 q];exact hC.s _ c hc)) s h
end Go.Proofs.Ytbpffdkemeoajaa
namespace Go.Proofs.Ytbpffdkemeoajaa
open Go.SX
def noH:Int→Bool:=fun _=>false
def Kq (x:QE):Int:=IntKind.i64.wrap (IntKind.i64.wrap (1 * 2 ^ min x.d.ps.n 64) - 1)
def JX (pb:List Prop→Bool) (U:UC):Tab:=QX Qu 49 (Ji pb U)
def j6 (pb:List Prop→Bool) (x:QE) (C:List (List QA)) (U:UC):Tab:=QX (JX pb (opO x C)) 77 (Ji pb U)
theorem QQw (pb:List Prop→Bool) (x:QE) (e:Int):KY (mkE Try.prog (JX pb (opE x e))) (hnd (mkE Try.prog (JX pb (opE x e))) 1) Try.f23 (QS.vals 0 ((x,()):QE×Unit)) (QS.blks 0 ((x,()):QE×Unit)) 8 =
  QC.need (pb ([x.d.play.length = x.d.play.length, x.d.play.slack = x.d.play.slack, x.d.play.loose = x.d.play.loose, x.d.play.damp.lo = x.d.play.damp.lo, x.d.play.damp.hi = x.d.play.damp.hi, x.d.wide = x.d.wide, x.d.high = x.d.high, x.d.turn = x.d.turn, (0 : Nat) = (0 : Nat), x.d.ps.n = x.d.ps.n, Cap.of (0 : Nat) = Cap.of (0 : Nat), (0 : Nat) = (0 : Nat), x.scans.n = x.scans.n, Cap.of (0 : Nat) = Cap.of (0 : Nat), (0 : Nat) = (0 : Nat), x.hang.n = x.hang.n, Cap.of (0 : Nat) = Cap.of (0 : Nat), x.lost = x.lost, x.foreign = x.foreign, x.d.ps.n ≤ x.d.ps.n, QD (28 : Nat) x.d.ps.n (fun i => QB.enc (x.d.ps.get i)) fun i => QB.enc (x.d.ps.get i), x.scans.n ≤ x.scans.n, QD (28 : Nat) x.scans.n (fun i => QB.enc (x.scans.get i)) fun i => QB.enc (x.scans.get i), x.hang.n ≤ x.hang.n, QD (4 : Nat) x.hang.n (fun i => QB.enc (x.hang.get i)) fun i => QB.enc (x.hang.get i)])) (QC.br (e != (0 : Int)) (QC.leaf (AV.tup [AV.int true IntKind.i64 (0 : Int), AV.int true IntKind.i64 (0 : Int), AV.int false IntKind.i64 e]) ([])) (QC.need (decide ((0 : Int) ≤ (↑x.d.ps.n : Int))) (QC.fail ("a call without a contract")))) := by kernel_rfl
theorem QPW (pb:List Prop→Bool) (x:QE) (C:List (List QA)) (has':Int→Bool) (many' sure' may':Int) :KY (mkE Try.prog (j6 pb x C (msU x C (Kq x) (QQ Try.f53 0).1 (QQ Try.f53 0).2 [] noH 0 (Kq x) 0 has' many' sure' may'))) (hnd (mkE Try.prog (j6 pb x C (msU x
  C (Kq x) (QQ Try.f53 0).1 (QQ Try.f53 0).2 [] noH 0 (Kq x) 0 has' many' sure' may'))) 8) Try.f23 (QS.vals 0 ((x,()):QE×Unit)) (QS.blks 0 ((x,()):QE ×
  Unit)) 8 = .need (pb ([x.d.play.length=x.d.play.length,x.d.play.slack=x.d.play.slack,x.d.play.loose=x.d.play.loose,x.d.play.damp.lo=x.d.play.damp.lo,x.d.play.damp.hi =
  x.d.play.damp.hi,x.d.wide=x.d.wide,x.d.high=x.d.high,x.d.turn=x.d.turn,0=0,x.d.ps.n=x.d.ps.n,Cap.of 0=Cap.of 0,0=0,x.scans.n=x.scans.n,Cap.of 0=Cap.of 0,
  0=0,x.hang.n=x.hang.n,Cap.of 0=Cap.of 0,x.lost=x.lost,x.foreign=x.foreign,x.d.ps.n≤x.d.ps.n,QD 28 x.d.ps.n (fun i=>QB.enc (x.d.ps.get i)) fun i=>QB.enc
  (x.d.ps.get i),x.scans.n≤x.scans.n,QD 28 x.scans.n (fun i=>QB.enc (x.scans.get i)) fun i=>QB.enc (x.scans.get i),x.hang.n≤x.hang.n,QD 4 x.hang.n (fun i=>
  QB.enc (x.hang.get i)) fun i=>QB.enc (x.hang.get i)])) (.need (decide ((0:Int)≤(↑x.d.ps.n:Int))) (.need (pb ([0=0,0=0,0=0,0=0,0=0,0=0,0=0,0=0,0 =
  0,0=0,0=0,0=0,([]:List MapEntry)=[],G2 (.int true .i64 (0:Int)) noH fun i => .int false .i64 (QI [] i),LoopState.ready=LoopState.ready,(none:Option
  Code)=none,Array.mk [12]=Array.mk [12],(QQ Try.f53 0).1=(QQ Try.f53 0).1,(QQ Try.f53 0).2=(QQ Try.f53 0).2,0=0,0=0,(0:Int)=(0:Int),Fn.func
  54=Fn.func 54,0=0,0=0,0=0,0=0,0=0,0=0,0=0,0=0,0=0,0=0,(0:Int)=(0:Int),false=false,0=0,0=0,0=0,0=0,Fn.func 76=Fn.func 76,0 =
  0,0=0,(0:Int)=(0:Int),(0:Int)=(0:Int),IntKind.i64.wrap (IntKind.i64.wrap ((1:Int) * (2:Int) ^ min x.d.ps.n 64) - (1:Int))=Kq x,(0:Int)=(0:Int),
  Fn.func 77=Fn.func 77,0=0,0=0,0=0,0=0,0=0,0=0,0=0,0=0,0=0,0=0,0=0,0=0,Fn.func 54=Fn.func 54,0=0,0=0,0=0,0=0,0=0,0=0,
  IntKind.i64.wrap (IntKind.i64.wrap ((1:Int) * (2:Int) ^ min x.d.ps.n 64) - (1:Int))=Kq x,x.d.play.length=x.d.play.length,x.d.play.slack=x.d.play.slack,
  x.d.play.loose=x.d.play.loose,x.d.play.damp.lo=x.d.play.damp.lo,x.d.play.damp.hi=x.d.play.damp.hi,x.d.wide=x.d.wide,x.d.high=x.d.high,x.d.turn=x.d.turn,0=0,
  x.d.ps.n=x.d.ps.n,Cap.of 0=Cap.of 0,0=0,x.scans.n=x.scans.n,Cap.of 0=Cap.of 0,0=0,x.hang.n=x.hang.n,Cap.of 0=Cap.of 0,x.lost=x.lost,x.foreign=x.foreign,
  0=0,C.length=C.length,Cap.of 0=Cap.of 0,C.length=C.length,Kd 2 C.length (fun i=>(QJ C i).length) (fun i=>(QJ C i).length) (fun i j=>QB.enc ((QJ C
  i).getD j (QA.mk (0:Int) (0:Int)))) fun i j=>QB.enc ((QJ C i).getD j (QA.mk (0:Int) (0:Int))),x.d.ps.n≤x.d.ps.n,QD 28 x.d.ps.n (fun i=>QB.enc
  (x.d.ps.get i)) fun i=>QB.enc (x.d.ps.get i),x.scans.n≤x.scans.n,QD 28 x.scans.n (fun i=>QB.enc (x.scans.get i)) fun i=>QB.enc (x.scans.get i),x.hang.n ≤
  x.hang.n,QD 4 x.hang.n (fun i=>QB.enc (x.hang.get i)) fun i=>QB.enc (x.hang.get i)])) (.br (!decide (many' > (0:Int))) (.leaf (.tup [.int true .i64 (0:Int),.int
  true .i64 (0:Int),.int true .i64 (6:Int)]) ([])) (.leaf (.tup [.int false .i64 sure',.int false .i64 may',.int true .i64 (0:Int)]) ([]))))):=by kernel_rfl
theorem QMh (e a b c:Int):QO 8 [(AV.tup [AV.int true IntKind.i64 (0:Int),AV.int true IntKind.i64 (0:Int),AV.int false IntKind.i64 e])] ([]) (Ks 8 (.tup [.int false .i64 a,.int false .i64 b,.int false .i64 c]) [])=(
  some [(0:Int)=a,(0:Int)=b,e=c]):=by kernel_rfl
theorem QQS (a b c:Int):QO 8 [(AV.tup [AV.int true IntKind.i64 (0:Int),AV.int true IntKind.i64 (0:Int),AV.int true IntKind.i64 (6:Int)])] ([]) (Ks 8 (.tup [.int false .i64 a,.int false .i64 b,.int false .i64 c]) [])=(
  some [(0:Int)=a,(0:Int)=b,(6:Int)=c]):=by kernel_rfl
theorem QKp (sure' may' a b c:Int):QO 8 [(AV.tup [AV.int false IntKind.i64 sure',AV.int false IntKind.i64 may',AV.int true IntKind.i64 (0:Int)])] ([]) (Ks 8 (.tup [.int false .i64 a,.int false .i64 b,.int false .i64 c]) [])=(
  some [sure'=a,may'=b,(0:Int)=c]):=by kernel_rfl
theorem QM6 {q:Bool} {l:List QA} {c t:Nat} {y:QA} (h:y∈VU q l c t):y∈l∨y=⟨c,t⟩:=by
 cases q with
 | true=>simpa [VU] using h
 | false=>exact .inl h
theorem QFY {d:Puz} {s:QP} {l:List QA} {c:Nat} {y:QA}:∀ {t:Nat},y∈KG d s l c t→y∈l∨∃ u,u < t∧y=⟨c,(u:Nat)⟩
 | 0,h => .inl h
 | t + 1,h=>by
  simp only [KG] at h
  rcases QM6 h with h|h
  ·rcases QFY h with h|⟨u,h1,h2⟩
   ·exact .inl h
   ·exact .inr ⟨u,by omega,h2⟩
  ·exact .inr ⟨t,by omega,h⟩
theorem QB5 {d:Puz} {s:QP} {y:QA}:∀ {c:Nat},y∈KB d s c→∃ k u:Nat,k < c∧u < 4∧y=⟨(k:Nat),(u:Nat)⟩
 | 0,h=>by cases h
 | c + 1,h=>by
  simp only [KB] at h
  rcases QFY h with h|⟨u,h1,h2⟩
  ·obtain ⟨k,u,a,b,e⟩:=QB5 h
   exact ⟨k,u,by omega,b,e⟩
  ·exact ⟨c,u,by omega,h1,h2⟩
theorem QTb {x:QE} (hn:x.d.ps.n≤9) {k:Nat} {y:QA} (h:y∈Yu x k):JF y:=by
 simp only [Yu,List.mem_cons] at h
 rcases h with rfl|h
 ·exact ⟨.inl rfl,by decide⟩
 ·obtain ⟨c,u,h1,h2,rfl⟩:=QB5 h
  exact ⟨.inr ⟨by simp only;omega,by simp only;omega⟩,by simp only;omega,by simp only;omega⟩
theorem jf {x:QE}:∀ {k i:Nat},i < k→QJ (Qr x k) i=Yu x i
 | k + 1,i,h=>by
  rw [Qr,QAM,Xx]
  by_cases e:i < k
  ·rw [if_pos e];exact jf e
  ·have:i=k:=by omega
   subst this
   rw [if_neg e,if_pos rfl]
theorem QCh {C:List (List QA)} {i:Nat} (h:C.length≤i):QJ C i=[]:=by
 unfold QJ
 rw [List.getD_eq_getElem?_getD,List.getElem?_eq_none h];rfl
theorem QHt {x:QE} (hn:x.d.ps.n≤9):ZO x (Qr x x.scans.n):=by
 refine ⟨Xx _ _,fun i => ?_,fun i c hc => ?_⟩
 ·by_cases h:i < x.scans.n
  ·rw [jf h]
   have:=vY x.d (x.scans.get i) x.d.ps.n
   simp only [Yu,List.length_cons];omega
  ·rw [QCh (by rw [Xx];omega)];simp
 ·by_cases h:i < x.scans.n
  ·rw [jf h] at hc
   exact QTb hn hc
  ·rw [QCh (by rw [Xx];omega)] at hc;cases hc
theorem QD5 (b:Bool):G2 (.int b .i64 0) noH (Vp []):=⟨rfl,fun _=>rfl,fun _=>⟨fun _=>rfl,rfl⟩⟩
def miS (x:QE):Res MsS:=onT x (Qr x x.scans.n) (msY (Kq x)) x.scans.n [] (0,Kq x,0) noH
def miV (x:QE):Int×Int×Int:=match x.ok with
 | false=>(0,0,1)
 | true=>match JZ x with
  | true=>(0,0,11)
  | false=>match miS x with
   | .stop _ _=>(0,0,6)
   | .go s _=>match decide (s.1 > 0) with
    | true=>(s.2.1,s.2.2,0)
    | false=>(0,0,6)
def miF:WF (QE×Unit):=fun|(x,_)=>(decide (x.d.ps.n≤1000∧x.scans.n≤1000∧x.hang.n≤1000),.tup [.int false .i64 (miV x).1,.int false .i64 (miV x).2.1,.int false .i64 (miV x).2.2],[])
def miC:FC:=wFC miF
theorem QKD (x:QE) (e:Int) (ht:QM Try.prog 49 (uFC (opE x e))) (he:e≠0) (hv:miV x=(0,0,e)):QM Try.prog 23 (wFC (VZ miF (x,()))):=by
 have hT:QU (JX Qo (opE x e)):=KD.add ht
 refine Wx (c:=Qm Try.f23) (E:=mkE Try.prog (JX Qo (opE x e))) (H:=hnd (mkE Try.prog (JX Qo (opE x e))) 1) (QN hT) Try.func23 (by kernel_rfl) (by kernel_rfl) (N:=8) (by decide) (x,()) (fun G h1 _=>Qt (QN hT) 1 G _ h1) ⟨rfl,by simp [miF],rfl⟩ ?_
 refine KF (QQw Qo x e) ?_
 refine QF (Kr.2 ?_) (QL (fun _ => ?_) (fun h=>by simp at h;exact absurd h he))
 ·repeat' first|exact trivial|with_reducible rfl|exact Nat.le_refl _|exact QD.refl _ _ _|refine And.intro ?_ ?_
 ·refine ⟨rfl,rfl,_,QMh e (miV x).1 (miV x).2.1 (miV x).2.2,?_⟩
  rw [hv]
  exact ⟨rfl,rfl,rfl,trivial⟩
theorem QOm (x:QE) (hs:YN x) (hx:x.ok=true) (hr:JZ x=false):QM Try.prog 23 (wFC (VZ miF (x,()))):=by
 have hg:=VX hx
 have hC:=QHt (x:=x) hg.d.n9
 obtain ⟨s,h,he⟩:=Za (C:=Qr x x.scans.n) (x:=x) (Y:=msY (Kq x)) (fun _ _=>rfl) x.scans.n [] (0,Kq x,0) noH
 have hon:=QG8 hg hC (Kq x) x.scans.n [] (0,Kq x,0) noH (by simp) (fun c hc=>by cases hc)
 rw [he] at hon
 have hT:QU (j6 Qo x (Qr x x.scans.n) (msU x (Qr x x.scans.n) (Kq x) V2 V5 [] noH 0 (Kq x) 0 h s.1 s.2.1 s.2.2)):=(KD.add (QCg x hs hx hr)).add hon
 have hv:miV x=match decide (s.1 > 0) with
   | true=>(s.2.1,s.2.2,0)
   | false=>(0,0,6):=by
  simp only [miV,hx,hr,miS,he]
 refine Wx (c:=Qm Try.f23) (E:=mkE Try.prog (j6 Qo x (Qr x x.scans.n) (msU x (Qr x x.scans.n) (Kq x) V2 V5 [] noH 0 (Kq x) 0 h s.1 s.2.1 s.2.2))) (H:=hnd (mkE Try.prog (j6 Qo x (Qr x x.scans.n) (msU x (Qr x x.scans.n) (Kq x) V2 V5 [] noH 0 (Kq x) 0 h s.1 s.2.1 s.2.2))) 8) (QN hT) Try.func23 (by kernel_rfl) (by kernel_rfl) (N:=8) (by decide) (x,()) (fun G h1 _=>Qt (QN hT) 8 G _ h1) ⟨rfl,by simp [miF],rfl⟩ ?_
 refine KF (QPW Qo x (Qr x x.scans.n) h s.1 s.2.1 s.2.2) ?_
 refine QF (Kr.2 ?_) (QF (by simp) (QF (Kr.2 ?_) (QL (fun q => ?_) (fun q => ?_))))
 ·repeat' first|exact trivial|with_reducible rfl|exact Nat.le_refl _|exact QD.refl _ _ _|exact Qp _ _ _ _|refine And.intro ?_ ?_
 ·repeat' first|exact trivial|with_reducible rfl|exact Nat.le_refl _|exact QD.refl _ _ _|exact Qp _ _ _ _|exact QD5 _|exact (show _=Kq _ from rfl)|refine And.intro ?_ ?_
 ·have q:decide (s.1 > 0)=false:=by simpa using q
  refine ⟨rfl,rfl,_,QQS (miV x).1 (miV x).2.1 (miV x).2.2,?_⟩
  rw [hv,q]
  exact ⟨rfl,rfl,rfl,trivial⟩
 ·have q:decide (s.1 > 0)=true:=by simpa using q
  refine ⟨rfl,rfl,_,QKp s.2.1 s.2.2 (miV x).1 (miV x).2.1 (miV x).2.2,?_⟩
  rw [hv,q]
  exact ⟨rfl,rfl,rfl,trivial⟩
theorem QPH (x:QE) (hx:(miF (x,())).1=true):QM Try.prog 23 (wFC (VZ miF (x,()))):=by
 obtain ⟨h1,h2,h3⟩:=of_decide_eq_true hx
 have hs:YN x:=⟨h1,h2,h3⟩
 cases ho:x.ok with
 | false=>exact QKD x 1 (QEG x hs ho) (by decide) (by simp only [miV,ho])
 | true=>cases hr:JZ x with
  | true=>exact QKD x 11 (QIl x hs ho hr) (by decide) (by simp only [miV,ho,hr])
  | false=>exact QOm x hs ho hr
theorem QOF:QM Try.prog 23 miC:=QB7 (by kernel_rfl) fun|(x,()),hx=>QPH x hx
end Go.Proofs.Ytbpffdkemeoajaa
namespace Go.Proofs.Ytbpffdkemeoajaa
open Go.SX
theorem QJB {σ:Type} {G:σ→Prop} {f:σ→(Int→Bool)→QA→Res σ} (hf:∀ s h c s' h',G s→f s h c = .go s' h'→G s'):∀ (l:List QA) (s:σ) (h:Int→Bool) {s':σ} {h':Int→Bool},G s→Jd f l s h = .go s' h'→G s'
 | [],s,h,s',h',hg,e=>by cases e;exact hg
 | c::l,s,h,s',h',hg,e=>by
  rw [Jd] at e
  split at e
  ·rename_i s1 h1 e1
   exact QJB hf l s1 h1 (hf _ _ _ _ _ hg e1) e
  ·cases e
theorem QA6 {σ:Type} {x:QE} {C:List (List QA)} {Y:σ→List QA→σ×Bool} {G:σ→Prop} (hY:∀ s l,G s→l.length=x.scans.n→G (Y s l).1):∀ (d:Nat) (l:List QA) (s:σ) (h:Int→Bool) {s':σ} {h':Int→Bool},l.length + d=x.scans.n→G s→onT x C Y d l s h = .go s' h'→G s'
 | 0,l,s,h,s',h',hn,hg,e=>by
  rw [onT,V9] at e
  split at e
  ·cases e;exact hg
  ·have hy:=hY s l hg (by omega)
   split at e
   ·rename_i e1;rw [e1] at hy;cases e;exact hy
   ·cases e
 | d + 1,l,s,h,s',h',hn,hg,e=>by
  rw [onT] at e
  refine QJB (G:=G) (fun s h c s' h' hg e => ?_) _ s h hg e
  unfold JN at e
  split at e
  ·cases e;exact hg
  ·split at e
   ·cases e;exact hg
   ·split at e
    ·rename_i e1
     cases e
     exact QA6 hY d (l++[c]) s _ (by simp;omega) hg e1
    ·cases e
def clU (l:List QA):UC:=⟨0,⟨1,[(0,.slz 5 0 l.length (.of 0))],[frS 5 l],8⟩,fun m => .slz m 0 l.length (.of 0),fun m=>[rwL m l]⟩
theorem QNi (l:List QA):VG (mkE Try.prog Qu) (hnd (mkE Try.prog Qu) 1) Try.f56 (clU l) =
  QC.need (decide ((0:Nat) < l.length∧l.length≤l.length)) (QC.need (true&&(decide (l.length≤l.length)&&decide (((0:Nat) + l.length + ((0:Nat) + l.length) / (4 :
  Nat) + (192:Nat)) * (16:Nat)≤(281474976710656:Nat)∧(0:Nat) + l.length≤(9223372036854775807:Nat)))) (QC.leaf (AV.slz (48:Nat) (0:Nat) ((0:Nat) + l.length)
  (Cap.of (0:Nat))) ([((48:Nat),Blk.rowz true (56:Nat) [CK.int IntKind.i64,CK.int IntKind.i64] ((0:Nat) + l.length) (Q1 (0:Nat) (fun x x_1=>(0:Int)) fun i=>
  QB.enc (l.getD i (QA.mk (0:Int) (0:Int)))))]))):=by kernel_rfl
theorem QMP (n:Nat) (g:Nat→Nat→Int) (l:List QA):QO 8 [.slz 48 0 n (.of 0)] [(48,.rowz true 56 [.int .i64,.int .i64] n g)] (K2 (clU l))=(
  some [(0:Nat)=(0:Nat),n=l.length,Cap.of (0:Nat)=Cap.of (0:Nat),l.length≤n,QD (2:Nat) l.length g fun i=>QB.enc (l.getD i (QA.mk (0:Int) (0:Int)))]):=by kernel_rfl
theorem QTJ (m n:Nat) (f g:Nat→Nat→Int):QD m n (Q1 0 f g) g:=by
 intro i hi
 have:Q1 0 f g i=g i:=by funext j;rw [Xf,if_neg (Nat.not_lt_zero i),Nat.sub_zero]
 rw [this];exact Yp _ _ _
theorem QMm (l:List QA):(clU l).Ok:=by
 refine ⟨(by decide:0≤8),rfl,rfl,?_,rfl,fun nid h => ?_,fun nid h => ?_⟩
 ·intro q hq
  simp only [UC.po,clU,rwL,List.mem_cons,List.not_mem_nil,or_false] at hq
  subst hq
  exact ⟨rfl,rfl,rfl,fun h=>absurd (show 8 < 0 from h) (by decide)⟩
 ·have e0:=qT 0 8 0 nid (by decide)
  simp only [UC.va,clU,AV.mapId,Nat.add_zero] at e0 ⊢
  rw [e0]
 ·have e0:=qT 0 8 0 nid (by decide)
  simp only [UC.po,clU,rwL,List.map_cons,List.map_nil,Blk.mapId,Nat.add_zero] at e0 ⊢
  rw [e0]
theorem QS4 (l:List QA) (hp:0 < l.length) (hl:l.length≤1000):QM Try.prog 56 (uFC (clU l)):=by
 refine Jz (c:=Qm Try.f56) (E:=mkE Try.prog Qu) (QN KD) Try.func56 (by kernel_rfl) (by kernel_rfl) (QMm l) (fun G h1 _=>Qt (QN KD) 1 G _ h1) ⟨?_⟩
 refine KF (QNi l) ?_
 refine QF (by simp;omega) (QF (by simp;omega) ⟨rfl,rfl,_,QMP _ _ l,?_⟩)
 repeat' first|exact trivial|with_reducible rfl|exact Nat.zero_add _|exact QTJ _ _ _ _|omega|refine And.intro ?_ ?_
end Go.Proofs.Ytbpffdkemeoajaa
