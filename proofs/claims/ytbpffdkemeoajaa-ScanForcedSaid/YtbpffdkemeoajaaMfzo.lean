/- - -/
import Derived.Test.YtbpffdkemeoajaaMfzn
set_option maxRecDepth 100000
namespace Go.Proofs.Ytbpffdkemeoajaa
open Go Go.SX
theorem WB{x:QE}{c s:Int}(h:j8 x c s=false):x.d.ps.n≤14∧x.scans.n≤18∧x.hang.n≤18:=by
 simp only[j8,Bool.or_eq_false_iff,decide_eq_false_iff_not]at h;omega
theorem WP{x:QE}(h:x.d.ps.n≤14∧x.scans.n≤18∧x.hang.n≤18):(decide (x.d.ps.n≤x.d.ps.n)&&(decide (x.scans.n≤x.scans.n)&&(decide (x.hang.n≤x.hang.n)&&true))&&decide (x.d.ps.n≤(1000:Nat)∧x.scans.n≤(1000:Nat)∧x.hang.n≤(1000:Nat)))=true:=by
 simp;omega
def QA7:WF (QE×Unit):=fun|(x,_)=>(true,.bool false true,[])
theorem QSf(x:QE):KO (mkS Try.prog Kw) (lfH Try.prog x) Try.f6 (QV.vals 0 ((x,()):QE×Unit)) (QV.blks 0 ((x,()):QE×Unit)) 8 = .need (decide (x.d.ps.n≤x.d.ps.n)&&(decide
  (x.scans.n≤x.scans.n)&&(decide (x.hang.n≤x.hang.n)&&(true&&(true&&true))))&&true) (.br (j8 x (5:Int) (5:Int)) (.leaf (.bool true true) ([])) (.need (decide
  (x.d.ps.n≤x.d.ps.n)&&(decide (x.scans.n≤x.scans.n)&&(decide (x.hang.n≤x.hang.n)&&true))&&decide (x.d.ps.n≤1000∧x.scans.n≤1000∧x.hang.n≤1000)) (.need (decide
  (x.d.ps.n≤x.d.ps.n)&&(decide (x.scans.n≤x.scans.n)&&(decide (x.hang.n≤x.hang.n)&&true))&&decide (x.d.ps.n≤1000∧x.scans.n≤1000∧x.hang.n≤1000)) (.need (decide
  (x.d.ps.n≤x.d.ps.n)&&(decide (x.scans.n≤x.scans.n)&&(decide (x.hang.n≤x.hang.n)&&true))&&decide (x.d.ps.n≤1000∧x.scans.n≤1000∧x.hang.n≤1000)) (.need (!!(QO
  x).2.2.2 != (Q1 x).2.2 || !(QO x).2.2.2 != (Q1 x).2.2 && !(QO x).2.2.2 != (Q1 x).2.2) (.need ((QO x).2.2.2 != (Q1 x).2.2 || !(QO x).2.2.2 != (Q1
  x).2.2) (.bnd ((QO x).2.2.2 != (Q1 x).2.2||(QO x).2.2.2 != (Kd x).2) (fun(x0:Bool) => .br (x0) (.leaf (.bool true false) ([])) (.need (!!(QO x).2.2.2 != 0 ||
  decide (x.d.ps.n≤x.d.ps.n)&&(decide (x.scans.n≤x.scans.n)&&(decide (x.hang.n≤x.hang.n)&&true))&&decide (x.d.ps.n≤1000∧x.scans.n≤1000∧x.hang.n≤1000) && !(QO
  x).2.2.2 != 0) (.need (!!(QO x).2.2.2 != 0 || !(QO x).2.2.2 != 0) (.need ((QO x).2.2.2 != 0 || !(QO x).2.2.2 != 0) (.bnd ((QO x).2.2.2 != 0 || !x.ok) (fun(x1:Bool)=>
  .br (x1) (.need (!(QO x).2.2.2 != 0||(QO x).2.2.2 != 0) (.need (!(QO x).2.2.2 != 0||(QO x).2.2.2 != 0) (.need (!(QO x).2.2.2 != 0||(QO x).2.2.2 != 0) (.bnd ((QO
  x).2.2.2 != 0&&(↑(QO x).1.length:Int)==0) (fun(x2:Bool) => .need (!x2||x2) (.need (!x2||x2) (.need (!x2||x2) (.bnd (x2&&(↑(QO x).2.1.length:Int)==0) (fun
  (x3:Bool) => .need (!x3||x3) (.need (!x3||x3) (.bnd (x3&&(QO x).2.2.1==0) (fun(x4:Bool) => .need (!x4||x4) (.need (!x4||x4) (.need (!x4||x4) (.bnd (x4 &&
  (↑(Q1 x).1.length:Int)==0) (fun(x5:Bool) => .need (!x5||x5) (.need (!x5||x5) (.need (!x5||x5) (.bnd (x5&&(↑(Kd x).1.length:Int)==0) (fun(x6:Bool)=>
  .need (!x6||x6) (.bnd (x6||false) (fun(x7:Bool) => .leaf (.bool false x7) ([]))))))))))))))))))))))) (.need (decide (x.d.ps.n≤x.d.ps.n)&&(decide (x.scans.n≤x.scans.n)
  && (decide (x.hang.n≤x.hang.n)&&(decide ((QO x).1.length≤(QO x).1.length)&&true)))&&x.ok) (.need (!!!KH x (Rw.mk (QO x).1.length fun i=>(QO x).1.getD i ⟨0,
  0⟩) || !!KH x (Rw.mk (QO x).1.length fun i=>(QO x).1.getD i ⟨0,0⟩)) (.need (!!!KH x (Rw.mk (QO x).1.length fun i=>(QO x).1.getD i ⟨0,0⟩) || !!KH x (Rw.mk
  (QO x).1.length fun i=>(QO x).1.getD i ⟨0,0⟩)) (.need (!!!KH x (Rw.mk (QO x).1.length fun i=>(QO x).1.getD i ⟨0,0⟩) || !!KH x (Rw.mk (QO x).1.length fun i=>
  (QO x).1.getD i ⟨0,0⟩)) (.need (!!!KH x (Rw.mk (QO x).1.length fun i=>(QO x).1.getD i ⟨0,0⟩) || !!KH x (Rw.mk (QO x).1.length fun i=>(QO x).1.getD i ⟨0,0⟩))
  (.need (!(!!KH x (Rw.mk (QO x).1.length fun i=>(QO x).1.getD i ⟨0,0⟩)&&(↑(QO x).2.1.length:Int)==0) || !!KH x (Rw.mk (QO x).1.length fun i=>(QO
  x).1.getD i ⟨0,0⟩)&&(↑(QO x).2.1.length:Int)==0) (.need (!!!KH x (Rw.mk (QO x).1.length fun i=>(QO x).1.getD i ⟨0,0⟩) || !!KH x (Rw.mk (QO x).1.length fun
  i=>(QO x).1.getD i ⟨0,0⟩)&&(!(↑(QO x).2.1.length:Int)==0 || !!KH x (Rw.mk (QO x).1.length fun i=>(QO x).1.getD i ⟨0,0⟩)&&(↑(QO x).2.1.length:Int) ==
  0)) (.bnd ((↑(QO x).2.1.length:Int)==0&&decide ((QO x).2.2.1>0)) (fun(x8:Bool) => .need (!!!KH x (Rw.mk (QO x).1.length fun i=>(QO x).1.getD i ⟨0,0⟩) ||
  !!KH x (Rw.mk (QO x).1.length fun i=>(QO x).1.getD i ⟨0,0⟩) && !!KH x (Rw.mk (QO x).1.length fun i=>(QO x).1.getD i ⟨0,0⟩)) (.need (!!!KH x (Rw.mk (QO
  x).1.length fun i=>(QO x).1.getD i ⟨0,0⟩) || !!KH x (Rw.mk (QO x).1.length fun i=>(QO x).1.getD i ⟨0,0⟩)) (.need (!(!!KH x (Rw.mk (QO x).1.length fun i=>
  (QO x).1.getD i ⟨0,0⟩) && !((QO x).2.2.1==1)==x8) || !!KH x (Rw.mk (QO x).1.length fun i=>(QO x).1.getD i ⟨0,0⟩) && !((QO x).2.2.1==1)==x8) (.need
  (!(!!KH x (Rw.mk (QO x).1.length fun i=>(QO x).1.getD i ⟨0,0⟩) && !((QO x).2.2.1==1)==x8) || !!KH x (Rw.mk (QO x).1.length fun i=>(QO x).1.getD i ⟨0,0⟩)
  && !((QO x).2.2.1==1)==x8) (.need (!(!!KH x (Rw.mk (QO x).1.length fun i=>(QO x).1.getD i ⟨0,0⟩) && !((QO x).2.2.1==1)==x8) || !!KH x (Rw.mk (QO
  x).1.length fun i=>(QO x).1.getD i ⟨0,0⟩) && !((QO x).2.2.1==1)==x8) (.need (!!!KH x (Rw.mk (QO x).1.length fun i=>(QO x).1.getD i ⟨0,0⟩) || !!KH x (Rw.mk
  (QO x).1.length fun i=>(QO x).1.getD i ⟨0,0⟩)&&(!!((QO x).2.2.1==1)==x8 || !!KH x (Rw.mk (QO x).1.length fun i=>(QO x).1.getD i ⟨0,0⟩) && !((QO x).2.2.1
  == 1)==x8)) (.bnd (!((QO x).2.2.1==1)==x8&&decide ((x.scans.n:Int)>0)) (fun(x9:Bool) => .need (!KH x (Rw.mk (QO x).1.length fun i=>(QO x).1.getD i ⟨0,0⟩)
  || !!KH x (Rw.mk (QO x).1.length fun i=>(QO x).1.getD i ⟨0,0⟩)) (.bnd (!KH x (Rw.mk (QO x).1.length fun i=>(QO x).1.getD i ⟨0,0⟩)||x9) (fun(x10:Bool)=>
  .need (!!x10 || !x10) (.need (x10 || !x10) (.bnd (x10||decide ((QO x).2.2.1<1)) (fun(x11:Bool) => .need (!!x11 || !x11) (.need (x11 || !x11) (.bnd (x11||decide ((QO
  x).2.2.1>100)) (fun(x12:Bool) => .need (!!x12 || !x12) (.need (!!x12 || !x12) (.need (!!x12 || !x12) (.need (!!x12 || !x12 && !x12) (.need (x12 || !x12) (.bnd (x12 ||
  (↑(Q1 x).1.length:Int) != (x.scans.n:Int)) (fun(x13:Bool) => .need (!!x13 || !x13) (.need (!!x13 || !x13) (.need (!!x13 || !x13) (.need (!!x13 || !x13 && !x13) (.need
  (x13 || !x13) (.bnd (x13||(↑(Kd x).1.length:Int) != (x.scans.n:Int)) (fun(x14:Bool) => .br (x14) (.leaf (.bool true false) ([])) (.br (decide ((QO x).2.2.1>1)) (.ask
  (jX x) (.ask (0=0) (.ask (0=0) (.ask (0=0) (.ask ((QO x).1.length=(QI x).a.length) (.ask (cO=cO) (.ask (0=0) (.ask ((QO x).2.1.length=(QI
  x).b.length) (.ask (cO=cO) (.ask (0=0) (.ask ((Q1 x).1.length=(QI x).cells.length) (.ask (cO=cO) (.ask ((Q1 x).2.1=(QI x).al) (.ask
  (0=0) (.ask ((Kd x).1.length=(QI x).told.length) (.ask (cO=cO) (.ask (0=0) (.ask (2=2) (.ask (cO=cO) (.ask ((0:Int)=0) (.ask (0=0)
  (.ask ((QO x).1.length=(QI x).a.length) (.ask (cO=cO) (.ask (0=0) (.ask ((QO x).2.1.length=(QI x).b.length) (.ask (cO=cO) (.ask ((QI
  x).a.length≤(QO x).1.length) (.ask (QC 2 (QI x).a.length (fun i=>QA.enc ((QO x).1.getD i ⟨0,0⟩)) fun i=>QA.enc ((QI x).a.getD i ⟨0,0⟩)) (.ask ((QI
  x).b.length≤(QO x).2.1.length) (.ask (QC 2 (QI x).b.length (fun i=>QA.enc ((QO x).2.1.getD i ⟨0,0⟩)) fun i=>QA.enc ((QI x).b.getD i ⟨0,0⟩)) (.ask ((QI
  x).cells.length≤(Q1 x).1.length) (.ask (QC 1 (QI x).cells.length (fun i=>QA.enc ((Q1 x).1.getD i 0)) fun i=>QA.enc ((QI x).cells.getD i 0)) (.ask ((QI
  x).told.length≤(Kd x).1.length) (.ask (QC 2 (QI x).told.length (fun i=>QA.enc ((Kd x).1.getD i ⟨0,0⟩)) fun i=>QA.enc ((QI x).told.getD i ⟨0,0⟩)) (.ask
  (x.d.play.length=x.d.play.length) (.ask (x.d.play.slack=x.d.play.slack) (.ask (x.d.play.loose=x.d.play.loose) (.ask (x.d.play.damp.lo=x.d.play.damp.lo) (.ask
  (x.d.play.damp.hi=x.d.play.damp.hi) (.ask (x.d.wide=x.d.wide) (.ask (x.d.high=x.d.high) (.ask (x.d.turn=x.d.turn) (.ask (0=0) (.ask (x.d.ps.n=x.d.ps.n) (.ask (cO =
  cO) (.ask (0=0) (.ask (x.scans.n=x.scans.n) (.ask (cO=cO) (.ask (0=0) (.ask (x.hang.n=x.hang.n) (.ask (cO=cO) (.ask (x.lost=x.lost) (.ask
  (x.foreign=x.foreign) (.ask (x.d.ps.n≤x.d.ps.n) (.ask (QC 28 x.d.ps.n (fun i=>QA.enc (x.d.ps.get i)) fun i=>QA.enc (x.d.ps.get i)) (.ask (x.scans.n≤x.scans.n)
  (.ask (QC 28 x.scans.n (fun i=>QA.enc (x.scans.get i)) fun i=>QA.enc (x.scans.get i)) (.ask (x.hang.n≤x.hang.n) (.ask (QC 4 x.hang.n (fun i=>QA.enc (x.hang.get
  i)) fun i=>QA.enc (x.hang.get i)) (.asm (True) (.all (fun(g15:Nat→Value) => .need (decide (x.d.ps.n≤x.d.ps.n)&&(decide (x.scans.n≤x.scans.n)&&(decide (x.hang.n ≤
  x.hang.n)&&(decide ((QI x).b.length≤(QI x).b.length)&&true)))&&x.ok) (.need (!!!KH x (Rw.mk (QI x).b.length fun i=>(QI x).b.getD i ⟨0,0⟩) || !!KH x (Rw.mk
  (QI x).b.length fun i=>(QI x).b.getD i ⟨0,0⟩)) (.need (!!!KH x (Rw.mk (QI x).b.length fun i=>(QI x).b.getD i ⟨0,0⟩) || !!KH x (Rw.mk (QI x).b.length fun i=>
  (QI x).b.getD i ⟨0,0⟩) && !!KH x (Rw.mk (QI x).b.length fun i=>(QI x).b.getD i ⟨0,0⟩)) (.need (!KH x (Rw.mk (QI x).b.length fun i=>(QI x).b.getD i ⟨0,0⟩) ||
  !!KH x (Rw.mk (QI x).b.length fun i=>(QI x).b.getD i ⟨0,0⟩)) (.bnd (!KH x (Rw.mk (QI x).b.length fun i=>(QI x).b.getD i ⟨0,0⟩)||(↑(Qm x):Int)==(↑(QI
  x).a.length:Int)) (fun(x16:Bool) => .need (!!x16||decide ((0:Int)≤(↑(Qm x):Int)∧(↑(Qm x):Int)<(↑(QI x).a.length:Int))&&decide ((QI x).a.length≤(QI
  x).a.length)&&(!x16 && !x16)) (.need (!!x16 || !x16) (.need (!!x16||decide (Qm x<(QI x).a.length) && !x16) (.need (!!x16||decide ((0:Int)≤(↑(Qm x):Int)∧(↑(Qm
  x):Int)<(↑(QI x).b.length:Int))&&decide ((QI x).b.length≤(QI x).b.length)&&(!x16 && !x16)) (.need (!!x16 || !x16) (.need (!!x16||decide (Qm x<(QI
  x).b.length) && !x16) (.need (!!x16 || !x16 && !x16) (.need (x16 || !x16) (.bnd (x16||decide (((QI x).a.getD (Qm x) ⟨0,0⟩).cell>((QI x).b.getD (Qm x) ⟨0,0⟩).cell))
  (fun(x17:Bool) => .need (!!x17||decide ((0:Int)≤(↑(Qm x):Int)∧(↑(Qm x):Int)<(↑(QI x).a.length:Int))&&decide ((QI x).a.length≤(QI x).a.length) &&
  (!x17 && !x17)) (.need (!!x17 || !x17) (.need (!!x17||decide (Qm x<(QI x).a.length) && !x17) (.need (!!x17||decide ((0:Int)≤(↑(Qm x):Int)∧(↑(Qm x):Int) <
  (↑(QI x).b.length:Int))&&decide ((QI x).b.length≤(QI x).b.length)&&(!x17 && !x17)) (.need (!!x17 || !x17) (.need (!!x17||decide (Qm x<(QI x).b.length) && !x17)
  (.need (!!x17 || !x17 && !x17) (.need (!!x17 || !x17) (.need (!(!x17&&((QI x).a.getD (Qm x) ⟨0,0⟩).cell==((QI x).b.getD (Qm x) ⟨0,0⟩).cell)||decide ((0:Int) ≤
  (↑(Qm x):Int)∧(↑(Qm x):Int)<(↑(QI x).a.length:Int))&&decide ((QI x).a.length≤(QI x).a.length)&&(!x17&&((QI x).a.getD (Qm x) ⟨0,0⟩).cell==((QI
  x).b.getD (Qm x) ⟨0,0⟩).cell&&(!x17&&((QI x).a.getD (Qm x) ⟨0,0⟩).cell==((QI x).b.getD (Qm x) ⟨0,0⟩).cell))) (.need (!(!x17&&((QI x).a.getD (Qm x) ⟨0,
  0⟩).cell==((QI x).b.getD (Qm x) ⟨0,0⟩).cell) || !x17&&((QI x).a.getD (Qm x) ⟨0,0⟩).cell==((QI x).b.getD (Qm x) ⟨0,0⟩).cell) (.need (!(!x17&&((QI x).a.getD
  (Qm x) ⟨0,0⟩).cell==((QI x).b.getD (Qm x) ⟨0,0⟩).cell)||decide (Qm x<(QI x).a.length)&&(!x17&&((QI x).a.getD (Qm x) ⟨0,0⟩).cell==((QI x).b.getD (Qm
  x) ⟨0,0⟩).cell)) (.need (!(!x17&&((QI x).a.getD (Qm x) ⟨0,0⟩).cell==((QI x).b.getD (Qm x) ⟨0,0⟩).cell)||decide ((0:Int)≤(↑(Qm x):Int)∧(↑(Qm x):Int) <
  (↑(QI x).b.length:Int))&&decide ((QI x).b.length≤(QI x).b.length)&&(!x17&&((QI x).a.getD (Qm x) ⟨0,0⟩).cell==((QI x).b.getD (Qm x) ⟨0,0⟩).cell&&(!x17
  && ((QI x).a.getD (Qm x) ⟨0,0⟩).cell==((QI x).b.getD (Qm x) ⟨0,0⟩).cell))) (.need (!(!x17&&((QI x).a.getD (Qm x) ⟨0,0⟩).cell==((QI x).b.getD (Qm x) ⟨0,
  0⟩).cell) || !x17&&((QI x).a.getD (Qm x) ⟨0,0⟩).cell==((QI x).b.getD (Qm x) ⟨0,0⟩).cell) (.need (!(!x17&&((QI x).a.getD (Qm x) ⟨0,0⟩).cell==((QI x).b.getD
  (Qm x) ⟨0,0⟩).cell)||decide (Qm x<(QI x).b.length)&&(!x17&&((QI x).a.getD (Qm x) ⟨0,0⟩).cell==((QI x).b.getD (Qm x) ⟨0,0⟩).cell)) (.need (!(!x17&&((QI
  x).a.getD (Qm x) ⟨0,0⟩).cell==((QI x).b.getD (Qm x) ⟨0,0⟩).cell) || !x17&&((QI x).a.getD (Qm x) ⟨0,0⟩).cell==((QI x).b.getD (Qm x) ⟨0,0⟩).cell&&(!x17 &&
  ((QI x).a.getD (Qm x) ⟨0,0⟩).cell==((QI x).b.getD (Qm x) ⟨0,0⟩).cell)) (.need (!!x17 || !x17&&(!((QI x).a.getD (Qm x) ⟨0,0⟩).cell==((QI x).b.getD (Qm x) ⟨0,
  0⟩).cell || !x17&&((QI x).a.getD (Qm x) ⟨0,0⟩).cell==((QI x).b.getD (Qm x) ⟨0,0⟩).cell)) (.bnd (((QI x).a.getD (Qm x) ⟨0,0⟩).cell==((QI x).b.getD (Qm x) ⟨0,
  0⟩).cell&&decide (((QI x).a.getD (Qm x) ⟨0,0⟩).turn≥((QI x).b.getD (Qm x) ⟨0,0⟩).turn)) (fun(x18:Bool) => .need (x17 || !x17) (.bnd (x17||x18) (fun(x19:Bool)
  => .br (x19) (.leaf (.bool true false) ([])) (.ask (jX x) (.ask (0=0) (.ask (0=0) (.ask (0=0) (.ask ((QI x).cells.length=(QI x).cells.length) (.ask (cO =
  cO) (.ask ((QI x).al=(QI x).al) (.ask (0=0) (.ask (2=2) (.ask (cO=cO) (.ask (0=0) (.ask ((QI x).told.length=(QI x).told.length) (.ask (cO
  = cO) (.ask ((↑(QI x).told.length:Int)=(↑(QI x).told.length:Int)) (.ask ((0:Int)=0) (.ask (0=0) (.ask ((QI x).a.length=(QI x).a.length) (.ask (cO =
  cO) (.ask (0=0) (.ask ((QI x).b.length=(QI x).b.length) (.ask (cO=cO) (.ask ((QI x).a.length≤(QI x).a.length) (.ask (QC 2 (QI x).a.length
  (fun i=>QA.enc ((QI x).a.getD i ⟨0,0⟩)) fun i=>QA.enc ((QI x).a.getD i ⟨0,0⟩)) (.ask ((QI x).b.length≤(QI x).b.length) (.ask (QC 2 (QI x).b.length (fun i
  => QA.enc ((QI x).b.getD i ⟨0,0⟩)) fun i=>QA.enc ((QI x).b.getD i ⟨0,0⟩)) (.ask ((QI x).cells.length≤(QI x).cells.length) (.ask (QC 1 (QI x).cells.length
  (fun i=>QA.enc ((QI x).cells.getD i 0)) fun i=>QA.enc ((QI x).cells.getD i 0)) (.ask ((QI x).told.length≤(QI x).told.length) (.ask (QC 2 (QI x).told.length
  (fun i=>QA.enc ((QI x).told.getD i ⟨0,0⟩)) fun i=>QA.enc ((QI x).told.getD i ⟨0,0⟩)) (.ask (x.d.play.length=x.d.play.length) (.ask (x.d.play.slack=x.d.play.slack)
  (.ask (x.d.play.loose=x.d.play.loose) (.ask (x.d.play.damp.lo=x.d.play.damp.lo) (.ask (x.d.play.damp.hi=x.d.play.damp.hi) (.ask (x.d.wide=x.d.wide) (.ask (x.d.high =
  x.d.high) (.ask (x.d.turn=x.d.turn) (.ask (0=0) (.ask (x.d.ps.n=x.d.ps.n) (.ask (cO=cO) (.ask (0=0) (.ask (x.scans.n=x.scans.n) (.ask (cO=cO)
  (.ask (0=0) (.ask (x.hang.n=x.hang.n) (.ask (cO=cO) (.ask (x.lost=x.lost) (.ask (x.foreign=x.foreign) (.ask (x.d.ps.n≤x.d.ps.n) (.ask (QC 28 x.d.ps.n
  (fun i=>QA.enc (x.d.ps.get i)) fun i=>QA.enc (x.d.ps.get i)) (.ask (x.scans.n≤x.scans.n) (.ask (QC 28 x.scans.n (fun i=>QA.enc (x.scans.get i)) fun i=>QA.enc
  (x.scans.get i)) (.ask (x.hang.n≤x.hang.n) (.ask (QC 4 x.hang.n (fun i=>QA.enc (x.hang.get i)) fun i=>QA.enc (x.hang.get i)) (.asm (True) (.all (fun(g20:Nat →
  Value) => .leaf (.bool true true)
  ([]))))))))))))))))))))))))))))))))))))))))))))))))))))))))))))))))))))))))))))))))))))))))))))))))))))))))))))))))))))))))))))))))))))))))))))))))))))))))) (.ask (Kx x=0) (.ask
  (0=0) (.ask (0=0) (.ask (0=0) (.ask ((Q1 x).1.length=(QI x).cells.length) (.ask (cO=cO) (.ask ((Q1 x).2.1=(QI x).al) (.ask (0=0) (.ask (1 =
  1) (.ask (Cap.lit 1=Cap.lit 1) (.ask (0=0) (.ask ((Kd x).1.length=(QI x).told.length) (.ask (cO=cO) (.ask ((↑(Kd x).1.length:Int)=(↑(QI
  x).told.length:Int)) (.ask ((0:Int)=0) (.ask (0=0) (.ask ((QO x).1.length=(QI x).a.length) (.ask (cO=cO) (.ask ((QI x).a.length≤(QO x).1.length)
  (.ask (QC 2 (QI x).a.length (fun i=>QA.enc ((QO x).1.getD i ⟨0,0⟩)) fun i=>QA.enc ((QI x).a.getD i ⟨0,0⟩)) (.ask ((QI x).cells.length≤(Q1 x).1.length)
  (.ask (QC 1 (QI x).cells.length (fun i=>QA.enc ((Q1 x).1.getD i 0)) fun i=>QA.enc ((QI x).cells.getD i 0)) (.ask ((QI x).told.length≤(Kd x).1.length)
  (.ask (QC 2 (QI x).told.length (fun i=>QA.enc ((Kd x).1.getD i ⟨0,0⟩)) fun i=>QA.enc ((QI x).told.getD i ⟨0,0⟩)) (.ask (x.d.play.length=x.d.play.length) (.ask
  (x.d.play.slack=x.d.play.slack) (.ask (x.d.play.loose=x.d.play.loose) (.ask (x.d.play.damp.lo=x.d.play.damp.lo) (.ask (x.d.play.damp.hi=x.d.play.damp.hi) (.ask (x.d.wide =
  x.d.wide) (.ask (x.d.high=x.d.high) (.ask (x.d.turn=x.d.turn) (.ask (0=0) (.ask (x.d.ps.n=x.d.ps.n) (.ask (cO=cO) (.ask (0=0) (.ask (x.scans.n=x.scans.n)
  (.ask (cO=cO) (.ask (0=0) (.ask (x.hang.n=x.hang.n) (.ask (cO=cO) (.ask (x.lost=x.lost) (.ask (x.foreign=x.foreign) (.ask (x.d.ps.n≤x.d.ps.n)
  (.ask (QC 28 x.d.ps.n (fun i=>QA.enc (x.d.ps.get i)) fun i=>QA.enc (x.d.ps.get i)) (.ask (x.scans.n≤x.scans.n) (.ask (QC 28 x.scans.n (fun i=>QA.enc
  (x.scans.get i)) fun i=>QA.enc (x.scans.get i)) (.ask (x.hang.n≤x.hang.n) (.ask (QC 4 x.hang.n (fun i=>QA.enc (x.hang.get i)) fun i=>QA.enc (x.hang.get i)) (.asm
  (True) (.all (fun(g21:Nat→Value) => .leaf (.bool true true) ([]))))))))))))))))))))))))))))))))))))))))))))))))))))))))))))))))))))))))))))))))))))))))))))))))))))))):=by kernel_rfl
theorem QZr:JN (mkS Try.prog Kw) (Qs Try.f6) 8 QA7 (fun x_=>(lfH Try.prog x_.1)):=by
 refine⟨?_⟩;rintro⟨x,⟨⟩⟩ hp G h1 h2;exact QPy x G h1 h2
theorem QYG:JS (mkS Try.prog Kw) Try.f6 8 QA7 (fun x_=>(lfH Try.prog x_.1)):=by
 refine⟨?_⟩;rintro⟨x,⟨⟩⟩ hp;refine⟨⟨rfl,by simp[QA7],rfl⟩,⟨?_⟩⟩
 rw[QSf x];simp only[QA7]at hp;have er1:((QO x).2.2.2 != (Q1 x).2.2)=false:=by rw[Gr,(H2 x).1];cases h:Kx x==0 with|true=>simp at h;simp[h]|false=>simp
 have er2:((QO x).2.2.2 != (Kd x).2)=false:=by rw[Gr,QCY];cases h:Kx x==0 with|true=>simp at h;simp[h]|false=>simp
 by_cases h0:Kx x=0
 ·obtain⟨hx,hr,hne⟩:=zH h0;have hT:QO x=((Qb x).headD [],(Qb x).getD 1 [],((min (Qb x).length 100:Nat):Int),0):=by rw[Gr,h0];rfl
  have hA:=QDT h0;rw[←qa h0]at hA;have la:(QO x).1.length=x.scans.n:=hA.a;have lc:(Q1 x).1.length=x.scans.n:=hA.c;have lt:(Kd x).1.length=x.scans.n:=hA.t;have e2:((QO x).2.2.2 != 0)=false:=by rw[hT];rfl
  have hlen:1≤(Qb x).length:=by cases e:Qb x with|nil=>exact absurd e hne|cons f L=>simp
  have hm:(QO x).2.2.1=((min (Qb x).length 100:Nat):Int):=by rw[hT]
  have t1:KH x (Rw.mk (QO x).1.length fun i=>(QO x).1.getD i ⟨0,0⟩)=true:=by rw[hT];exact QIk hx (QEZ hne)
  have hb2:2≤(Qb x).length→(QO x).2.1.length=x.scans.n:=fun h2=>by
   have:=(QE1 h0 h2).b;rw[←qa h0]at this;exact this
  have hb1:(Qb x).length<2→(QO x).2.1.length=0:=fun h2=>by
   rw[hT];show((Qb x).getD 1 []).length=0;rw[List.getD_eq_getElem?_getD,List.getElem?_eq_none (by omega)];rfl
  have f9:(!(((QO x).2.2.1==1)==(((QO x).2.1.length:Int)==0&&decide ((QO x).2.2.1>0)))&&decide ((x.scans.n:Int)>0))=false:=by
   rw[hm];rcases Nat.lt_or_ge (Qb x).length 2 with h2|h2
   ·have e:(Qb x).length=1:=by omega
    rw[hb1 h2,e];rfl
   ·rw[hb2 h2];have q1:((((min (Qb x).length 100:Nat):Int))==1)=false:=by rw[beq_eq_false_iff_ne];omega
    rw[q1]
    by_cases z:x.scans.n=0
    ·rw[z];simp
    ·have q2:((x.scans.n:Int)==0)=false:=by rw[beq_eq_false_iff_ne];omega
     rw[q2];rfl
  have f11:decide ((QO x).2.2.1<1)=false:=decide_eq_false (by rw[hm];omega)
  have f12:decide ((QO x).2.2.1>100)=false:=decide_eq_false (by rw[hm];omega)
  have f13:(((Q1 x).1.length:Int) != x.scans.n)=false:=by rw[lc];simp
  have f14:(((Kd x).1.length:Int) != x.scans.n)=false:=by rw[lt];simp
  refine QF (by first|rfl|(simp;done)|(simp;omega)|omega|grind) ?_
  refine QG (fun b0 => ?_) (fun b0 => ?_)
  ·exact Kp rfl rfl
  ·refine QF (by exact WP (WB b0)) ?_
   refine QF (by exact WP (WB b0)) ?_
   refine QF (by exact WP (WB b0)) ?_
   refine Jh ?_;refine Jf ?_;refine Qz fun z0 y0 => ?_;obtain rfl:z0=false:=y0.trans (by rw[er1,er2];rfl)
   refine QG (fun b1 => ?_) (fun b1 => ?_)
   ·cases b1
   ·refine QF (by rw[WP (WB b0),e2];rfl) ?_
    refine Qo ?_;refine Jf ?_;refine Qz fun z1 y1 => ?_;obtain rfl:z1=false:=y1.trans (by rw[e2,hx];rfl)
    refine QG (fun b2 => ?_) (fun b2 => ?_)
    ·cases b2
    ·refine QF (by simp[hx]) ?_
     iterate 5 refine Qo ?_
     refine Xc ?_;refine Qz fun z8 y8 => ?_;refine Jh ?_
     iterate 4 refine Qo ?_
     refine Xc ?_;refine Qz fun z9 y9 => ?_;obtain rfl:z9=false:=y9.trans (by rw[y8];exact f9)
     refine Jf ?_;refine Qz fun z10 y10 => ?_;obtain rfl:z10=false:=y10.trans (by rw[t1];rfl)
     refine Qo ?_;refine Jf ?_;refine Qz fun z11 y11 => ?_;obtain rfl:z11=false:=y11.trans (f11);refine Qo ?_;refine Jf ?_;refine Qz fun z12 y12 => ?_;obtain rfl:z12=false:=y12.trans (f12)
     iterate 3 refine Qo ?_
     refine Jh ?_;refine Jf ?_;refine Qz fun z13 y13 => ?_;obtain rfl:z13=false:=y13.trans (f13)
     iterate 3 refine Qo ?_
     refine Jh ?_;refine Jf ?_;refine Qz fun z14 y14 => ?_;obtain rfl:z14=false:=y14.trans (f14);refine QG (fun b3 => ?_) (fun b3 => ?_)
     ·cases b3
     ·refine QG (fun b4 => ?_) (fun b4 => ?_)
      ·have h2:2≤(Qb x).length:=by have:=qdt b4;rw[hm]at this;omega
       obtain⟨p1,p2,p3,p4⟩:=QJ3 h0 h2;have va:(QI x).a.length=x.scans.n:=hA.a;have vb:(QI x).b.length=x.scans.n:=hb2 h2;refine Qa (by exact⟨h0,h2⟩) ?_
       iterate 58 refine Qa (by first|rfl|exact qlr _|exact qRr|exact trivial) ?_
       refine KJ fun a0 => ?_;refine KF fun g0 => ?_;refine QF (by simp[hx]) ?_
       refine Qo ?_;refine Jh ?_;refine Jf ?_;refine Qz fun z15 y15 => ?_
       obtain rfl:z15=false:=y15.trans (by
         have t2:KH x (Rw.mk (QI x).b.length fun i=>(QI x).b.getD i ⟨0,0⟩)=true:=by
          rw[qa h0];exact QIk hx (QFx h2)
         have q:(((Qm x:Nat):Int)==((QI x).a.length:Int))=false:=by rw[hA.a,beq_eq_false_iff_ne];omega
         rw[t2,q];rfl
      )
       refine Ko (fun q=>by first|(simp;done)|(simp at q ⊢;omega)) ?_
       refine Qo ?_;refine JK (fun q=>by first|(simp;done)|(simp at q ⊢;omega)) ?_
       refine Ko (fun q=>by first|(simp;done)|(simp at q ⊢;omega)) ?_
       refine Qo ?_;refine JK (fun q=>by first|(simp;done)|(simp at q ⊢;omega)) ?_
       refine Jh ?_;refine Jf ?_;refine Qz fun z16 y16 => ?_
       obtain rfl:z16=false:=y16.trans (by
         have q:decide (((QI x).a.getD (Qm x) ⟨0,0⟩).cell>((QI x).b.getD (Qm x) ⟨0,0⟩).cell)=false:=decide_eq_false (by unfold ltS at p4;omega)
         rw[q];rfl
      )
       refine Ko (fun q=>by first|(simp;done)|(simp at q ⊢;omega)) ?_
       refine Qo ?_;refine JK (fun q=>by first|(simp;done)|(simp at q ⊢;omega)) ?_
       refine Ko (fun q=>by first|(simp;done)|(simp at q ⊢;omega)) ?_
       refine Qo ?_;refine JK (fun q=>by first|(simp;done)|(simp at q ⊢;omega)) ?_
       refine Jh ?_;refine Qo ?_;refine Ko (fun q=>by first|(simp;done)|(simp at q ⊢;omega)) ?_
       refine Qo ?_;refine JK (fun q=>by first|(simp;done)|(simp at q ⊢;omega)) ?_
       refine Ko (fun q=>by first|(simp;done)|(simp at q ⊢;omega)) ?_
       refine Qo ?_;refine JK (fun q=>by first|(simp;done)|(simp at q ⊢;omega)) ?_
       refine Jh ?_;refine Xc ?_;refine Qz fun z17 y17 => ?_
       obtain rfl:z17=false:=y17.trans (by
         rw[Bool.and_eq_false_iff];unfold ltS at p4
         by_cases q:((QI x).a.getD (Qm x) ⟨0,0⟩).cell=((QI x).b.getD (Qm x) ⟨0,0⟩).cell
         ·exact .inr (decide_eq_false (by omega))
         ·exact .inl (by rw[beq_eq_false_iff_ne];exact q)
      )
       refine Jf ?_;refine Qz fun z18 y18 => ?_;obtain rfl:z18=false:=y18.trans (rfl);refine QG (fun b5 => ?_) (fun b5 => ?_)
       ·cases b5
       ·refine Qa (by exact⟨h0,h2⟩) ?_
        iterate 53 refine Qa (by first|rfl|exact qlr _|exact qRr|exact trivial) ?_
        refine KJ fun a1 => ?_;refine KF fun g1 => ?_;exact Kp rfl rfl
      ·refine Qa (by exact h0) ?_
       iterate 48 refine Qa (by first|rfl|exact qlr _|exact qRr|exact trivial) ?_
       refine KJ fun a2 => ?_;refine KF fun g2 => ?_;exact Kp rfl rfl
 ·have hT:QO x=([],[],0,Kx x):=by rw[Gr,show(Kx x==0)=false by simpa using h0];rfl
  have hL:(Kd x).1=[]:=by rw[QCY,show(Kx x==0)=false by simpa using h0];rfl
  have hP:=((H2 x).2.1 h0).1;have e2:((QO x).2.2.2 != 0)=true:=by rw[hT];simpa using h0
  refine QF (by first|rfl|(simp;done)|(simp;omega)|omega|grind) ?_
  refine QG (fun b0 => ?_) (fun b0 => ?_)
  ·exact Kp rfl rfl
  ·refine QF (by exact WP (WB b0)) ?_
   refine QF (by exact WP (WB b0)) ?_
   refine QF (by exact WP (WB b0)) ?_
   refine Jh ?_;refine Jf ?_;refine Qz fun z0 y0 => ?_;obtain rfl:z0=false:=y0.trans (by rw[er1,er2];rfl)
   refine QG (fun b1 => ?_) (fun b1 => ?_)
   ·cases b1
   ·refine QF (by rw[WP (WB b0),e2];rfl) ?_
    refine Qo ?_;refine Jf ?_;refine Qz fun z1 y1 => ?_;obtain rfl:z1=true:=y1.trans (by rw[e2];rfl)
    refine QG (fun b2 => ?_) (fun b2 => ?_)
    ·iterate 3 refine Qo ?_
     refine Qz fun z2 y2 => ?_;obtain rfl:z2=true:=y2.trans (by rw[e2,hT];rfl)
     iterate 3 refine Qo ?_
     refine Qz fun z3 y3 => ?_;obtain rfl:z3=true:=y3.trans (by rw[hT];rfl)
     iterate 2 refine Qo ?_
     refine Qz fun z4 y4 => ?_;obtain rfl:z4=true:=y4.trans (by rw[hT];rfl)
     iterate 3 refine Qo ?_
     refine Qz fun z5 y5 => ?_;obtain rfl:z5=true:=y5.trans (by rw[hP];rfl)
     iterate 3 refine Qo ?_
     refine Qz fun z6 y6 => ?_;obtain rfl:z6=true:=y6.trans (by rw[hL];rfl)
     refine Qo ?_;refine Qz fun z7 y7 => ?_;obtain rfl:z7=true:=y7.trans (rfl);exact Kp rfl rfl
    ·cases b2
end Go.Proofs.Ytbpffdkemeoajaa
