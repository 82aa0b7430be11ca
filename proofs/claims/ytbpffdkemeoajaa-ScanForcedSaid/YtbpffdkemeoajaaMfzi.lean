/- - -/
import Derived.Test.YtbpffdkemeoajaaMfzg
import Derived.Test.YtbpffdkemeoajaaMfzh
open Go.IntKind (i64)
set_option maxRecDepth 100000
namespace Go.Proofs.Ytbpffdkemeoajaa
open Go.SX
theorem QOM{d:Puz}(h:d.ok=true):d.play.ok=true:=by
 rw[←Hp]at h;simp only[okR,qbA]at h;exact h.1
theorem QHQ{x:QE}(h:x.d.ok=true):VK x.d.play x.scans=(QM (YD x) x.scans.n 0).isNone:=by
 unfold VK
 have:Kz ⟨x.d.play⟩ x.scans=YD x:=by
  funext k;simp only[Kz,YD,QOM h,Bool.true_and]
 rw[this]
variable (d:Puz)(x:QE)(l:Rw QB)(s:QS)(al tk:Int)(k:Nat)
def okQ:Bool := !(((((!x.d.ok||decide ((x.scans.n:Int)>12))||decide ((x.hang.n:Int)>12)) || !QW x.lost 0 9) || !QW x.foreign 0 3))&&((QM (YD x) x.scans.n 0).isNone&&(QM (JD x) x.hang.n 0).isNone)
theorem QPj:okQ x=x.ok:=by
 unfold okQ QE.ok QE.sz jxO;cases h:x.d.ok with
 | false=>simp
 | true=>
  rw[QHQ h,QC5]
  by_cases h1:(x.scans.n:Int)>12<;>by_cases h2:(x.hang.n:Int)>12<;>cases QW x.lost 0 9<;>cases QW x.foreign 0 3<;>simp_all<;>omega
def qF:WF (QE×Unit):=fun|(x,_)=>(decide (x.d.ps.n≤1000∧x.scans.n≤1000∧x.hang.n≤1000),.bool false x.ok,[])
def QJ8:FC:=wFC qF
theorem QUl :KO (mkS Try.prog VU) (HT Try.prog x) Try.f35 (QV.vals 0 ((x,()):QE×Unit)) (QV.blks 0 ((x,()):QE×Unit)) 8 = .need (decide (x.d.ps.n≤x.d.ps.n)&&true
  && decide (x.d.ps.n≤1000)) (.need (!!!x.d.ok || !!x.d.ok) (.need (!!!x.d.ok || !!x.d.ok) (.need (!!!x.d.ok || !!x.d.ok) (.need (!x.d.ok || !!x.d.ok) (.bnd (!x.d.ok||decide
  ((x.scans.n:Int)>12)) (fun(x0:Bool) => .need (!!x0 || !x0) (.need (!!x0 || !x0) (.need (!!x0 || !x0) (.need (x0 || !x0) (.bnd (x0||decide ((x.hang.n:Int)>12)) (fun(x1
  : Bool) => .need (!!x1 || !x1) (.need (!!x1||true && !x1) (.need (!!x1 || !x1) (.need (x1 || !x1) (.bnd (x1 || !QW x.lost (0:Int) (9:Int)) (fun(x2:Bool) => .need (!!x2
  || !x2) (.need (!!x2||true && !x2) (.need (!!x2 || !x2) (.need (x2 || !x2) (.bnd (x2 || !QW x.foreign (0:Int) (3:Int)) (fun(x3:Bool) => .br (x3) (.leaf (.bool true
  false) ([])) (.ask (0=0) (.ask (0=0) (.ask ((0:Int)=0) (.ask (x.d.play.length=x.d.play.length) (.ask (x.d.play.slack=x.d.play.slack) (.ask (x.d.play.loose =
  x.d.play.loose) (.ask (x.d.play.damp.lo=x.d.play.damp.lo) (.ask (x.d.play.damp.hi=x.d.play.damp.hi) (.ask (x.d.wide=x.d.wide) (.ask (x.d.high=x.d.high) (.ask (x.d.turn =
  x.d.turn) (.ask (0=0) (.ask (x.d.ps.n=x.d.ps.n) (.ask (cO=cO) (.ask (0=0) (.ask (x.scans.n=x.scans.n) (.ask (cO=cO) (.ask (0=0) (.ask (x.hang.n
  = x.hang.n) (.ask (cO=cO) (.ask (x.lost=x.lost) (.ask (x.foreign=x.foreign) (.ask (x.d.ps.n≤x.d.ps.n) (.ask (QC 28 x.d.ps.n (fun i=>QA.enc (x.d.ps.get
  i)) fun i=>QA.enc (x.d.ps.get i)) (.ask (x.scans.n≤x.scans.n) (.ask (QC 28 x.scans.n (fun i=>QA.enc (x.scans.get i)) fun i=>QA.enc (x.scans.get i)) (.ask (x.hang.n
  ≤ x.hang.n) (.ask (QC 4 x.hang.n (fun i=>QA.enc (x.hang.get i)) fun i=>QA.enc (x.hang.get i)) (.both (.asm ((QM (YD x) x.scans.n 0).isNone=false) (.all (fun(g4
  : Nat→Value) => .leaf (.bool false false) ([])))) (.asm ((QM (YD x) x.scans.n 0).isNone=true) (.all (fun(g5:Nat→Value) => .ask (0=0) (.ask (0=0) (.ask ((0:Int)
  = 0) (.ask (x.d.play.length=x.d.play.length) (.ask (x.d.play.slack=x.d.play.slack) (.ask (x.d.play.loose=x.d.play.loose) (.ask (x.d.play.damp.lo=x.d.play.damp.lo) (.ask
  (x.d.play.damp.hi=x.d.play.damp.hi) (.ask (x.d.wide=x.d.wide) (.ask (x.d.high=x.d.high) (.ask (x.d.turn=x.d.turn) (.ask (0=0) (.ask (x.d.ps.n=x.d.ps.n) (.ask (cO =
  cO) (.ask (0=0) (.ask (x.scans.n=x.scans.n) (.ask (cO=cO) (.ask (0=0) (.ask (x.hang.n=x.hang.n) (.ask (cO=cO) (.ask (x.lost=x.lost) (.ask
  (x.foreign=x.foreign) (.ask (x.d.ps.n≤x.d.ps.n) (.ask (QC 28 x.d.ps.n (fun i=>QA.enc (x.d.ps.get i)) fun i=>QA.enc (x.d.ps.get i)) (.ask (x.scans.n≤x.scans.n)
  (.ask (QC 28 x.scans.n (fun i=>QA.enc (x.scans.get i)) fun i=>QA.enc (x.scans.get i)) (.ask (x.hang.n≤x.hang.n) (.ask (QC 4 x.hang.n (fun i=>QA.enc (x.hang.get
  i)) fun i=>QA.enc (x.hang.get i)) (.both (.asm ((QM (JD x) x.hang.n 0).isNone=false) (.all (fun(g6:Nat→Value) => .leaf (.bool false false) ([])))) (.asm ((QM
  (JD x) x.hang.n 0).isNone=true) (.all (fun(g7:Nat→Value) => .leaf (.bool true true) ([]))))))))))))))))))))))))))))))))))))))))))))))))))))))))))))))))))))))))))))))))))))):=by kernel_rfl
theorem QP6:JN (mkS Try.prog VU) (Qs Try.f35) 8 qF (fun x_=>(HT Try.prog x_.1)):=by
 refine⟨?_⟩;rintro⟨x,⟨⟩⟩ hp G h1 h2;exact QSY x (qdt hp).2.1 (qdt hp).2.2 G h1 h2
theorem QY9:JS (mkS Try.prog VU) Try.f35 8 qF (fun x_=>(HT Try.prog x_.1)):=by
 refine⟨?_⟩;rintro⟨x,⟨⟩⟩ hp;refine⟨⟨rfl,by simp[qF],rfl⟩,⟨?_⟩⟩
 rw[QUl x];simp only[qF]at hp;obtain⟨hn,_,_⟩:=qdt hp;have end_:∀{z:Bool} {b:Bool},okQ x=b→(QD.leaf (AV.bool z b) []).den (Vg 8 (qF (x,())).2.1 (qF (x,())).2.2):=fun{z b} h=>Kp (show b=x.ok by rw[←QPj];exact h.symm) rfl
 refine QF (by simp;omega) ?_
 unfold okQ at end_;generalize x.d.ok=b0 at end_ ⊢;generalize decide ((x.scans.n:Int)>12)=b1 at end_ ⊢;generalize decide ((x.hang.n:Int)>12)=b2 at end_ ⊢;generalize QW x.lost 0 9=b3 at end_ ⊢;generalize QW x.foreign 0 3=b4 at end_ ⊢
 repeat' first|refine QF rfl ?_|refine QF (by grind) ?_|refine Qz fun z hz => ?_
 refine QG (fun q=>end_ (by grind)) (fun q => ?_)
 repeat' first|refine Qa (show _=_ by with_reducible rfl) ?_|refine Qa (show _≤_ from qlr _) ?_|refine Qa (show QC _ _ _ _ from qRr) ?_
 refine Xf (KJ fun h=>KF fun g=>end_ (by grind)) (KJ fun h=>KF fun g => ?_)
 repeat' first|refine Qa (show _=_ by with_reducible rfl) ?_|refine Qa (show _≤_ from qlr _) ?_|refine Qa (show QC _ _ _ _ from qRr) ?_
 refine Xf (KJ fun h2=>KF fun g=>end_ (by grind)) (KJ fun h2=>KF fun g=>end_ (by grind))
theorem QP4:QP Try.prog 35 QJ8:=
 Jc (Jt qt) Try.func35 (by kernel_rfl) (by kernel_rfl) (by decide) QP6 QY9
def Zt:Tab:=Qg VU 35 QJ8
theorem QDE:QZ Zt:=qt.add QP4
def j8(c s:Int):Bool:=decide ((x.d.ps.n:Int)>14)||(decide ((x.scans.n:Int)>18)||(decide ((x.hang.n:Int)>18)||(x.ok&&(decide ((x.d.ps.n:Int)>c)||decide ((x.scans.n:Int)>s)))))
def qg:WF (QE×Int×Int×Unit):=fun|(x,(c,(s,_)))=>(true,.bool false (j8 x c s),[])
def QOb:FC:=wFC qg
theorem QTg(c:Int)(s:Int):KO (mkS Try.prog Zt) (hnd (mkS Try.prog Zt) 1) Try.f34 (QV.vals 0 ((x,c,s,()):QE×Int×Int×Unit)) (QV.blks 0 ((x,c,s,()):QE×Int×Int×Unit))
  8 = .need (!!decide ((x.d.ps.n:Int)>14) || !decide ((x.d.ps.n:Int)>14)) (.need (!!decide ((x.d.ps.n:Int)>14) || !decide ((x.d.ps.n:Int)>14)) (.need (!!decide
  ((x.d.ps.n:Int)>14) || !decide ((x.d.ps.n:Int)>14)) (.need (decide ((x.d.ps.n:Int)>14) || !decide ((x.d.ps.n:Int)>14)) (.bnd (decide ((x.d.ps.n:Int)>14) ||
  decide ((x.scans.n:Int)>18)) (fun(x0:Bool) => .need (!!x0 || !x0) (.need (!!x0 || !x0) (.need (!!x0 || !x0) (.need (x0 || !x0) (.bnd (x0||decide ((x.hang.n:Int)>18))
  (fun(x1:Bool) => .need (!!x1||decide (x.d.ps.n≤x.d.ps.n)&&(decide (x.scans.n≤x.scans.n)&&(decide (x.hang.n≤x.hang.n)&&true))&&decide (x.d.ps.n≤1000∧x.scans.n
  ≤ 1000∧x.hang.n≤1000) && !x1) (.need (!!x1 || !x1) (.need (!(!x1&&x.ok) || !x1&&x.ok) (.need (!(!x1&&x.ok) || !x1&&x.ok) (.need (!(!x1&&x.ok) || !x1&&x.ok) (.need
  (!(!x1&&x.ok) || !x1&&x.ok&&(!x1&&x.ok)) (.need (!(!x1&&x.ok) || !x1&&x.ok) (.need (!(!x1&&x.ok && !decide ((x.d.ps.n:Int)>c)) || !x1&&x.ok && !decide ((x.d.ps.n
  : Int)>c)) (.need (!(!x1&&x.ok && !decide ((x.d.ps.n:Int)>c)) || !x1&&x.ok && !decide ((x.d.ps.n:Int)>c)) (.need (!(!x1&&x.ok && !decide ((x.d.ps.n:Int)>c)) ||
  !x1&&x.ok && !decide ((x.d.ps.n:Int)>c)&&(!x1&&x.ok && !decide ((x.d.ps.n:Int)>c))) (.need (!(!x1&&x.ok) || !x1&&x.ok&&(decide ((x.d.ps.n:Int)>c) || !x1 &&
  x.ok && !decide ((x.d.ps.n:Int)>c))) (.bnd (decide ((x.d.ps.n:Int)>c)||decide ((x.scans.n:Int)>s)) (fun(x2:Bool) => .need (!!x1 || !x1&&(!x.ok || !x1&&x.ok))
  (.bnd (x.ok&&x2) (fun(x3:Bool) => .need (x1 || !x1) (.bnd (x1||x3) (fun(x4:Bool) => .leaf (.bool false x4) ([]))))))))))))))))))))))))))):=by kernel_rfl
theorem QX8:JN (mkS Try.prog Zt) (Qs Try.f34) 8 qg (fun x_=>(hnd (mkS Try.prog Zt) 1)):=by
 refine⟨?_⟩;rintro⟨x,⟨c,⟨s,⟨⟩⟩⟩⟩ hp G h1 h2;exact Qy (Jt QDE) 1 G _ h1
theorem QZv:JS (mkS Try.prog Zt) Try.f34 8 qg (fun x_=>(hnd (mkS Try.prog Zt) 1)):=by
 refine⟨?_⟩;rintro⟨x,⟨c,⟨s,⟨⟩⟩⟩⟩ hp;refine⟨⟨rfl,by simp[qg],rfl⟩,⟨?_⟩⟩
 rw[QTg x c s];simp only[qg]at hp;have end_:∀{z:Bool} {b:Bool},j8 x c s=b→(QD.leaf (AV.bool z b) []).den (Vg 8 (qg (x,c,s,())).2.1 (qg (x,c,s,())).2.2):=fun h=>Kp h.symm rfl
 have sm:decide ((x.d.ps.n:Int)>14)=false→decide ((x.scans.n:Int)>18)=false→decide ((x.hang.n:Int)>18)=false→(decide (x.d.ps.n≤x.d.ps.n)&&(decide (x.scans.n≤x.scans.n)&&(decide (x.hang.n≤x.hang.n)&&true))&&decide (x.d.ps.n≤(1000:Nat)∧x.scans.n≤(1000:Nat)∧x.hang.n≤(1000:Nat)))=true:=by
  intro h1 h2 h3;simp only[decide_eq_false_iff_not]at h1 h2 h3;simp;omega
 unfold j8 at end_;generalize (decide (x.d.ps.n≤x.d.ps.n)&&(decide (x.scans.n≤x.scans.n)&&(decide (x.hang.n≤x.hang.n)&&true))&&decide (x.d.ps.n≤(1000:Nat)∧x.scans.n≤(1000:Nat)∧x.hang.n≤(1000:Nat)))=w at sm ⊢;generalize decide ((x.d.ps.n:Int)>14)=b0 at sm end_ ⊢;generalize decide ((x.scans.n:Int)>18)=b1 at sm end_ ⊢;generalize decide ((x.hang.n:Int)>18)=b2 at sm end_ ⊢;generalize decide ((x.d.ps.n:Int)>c)=b3 at end_ ⊢;generalize decide ((x.scans.n:Int)>s)=b4 at end_ ⊢;generalize x.ok=b5 at end_ ⊢
 repeat' first|refine QF rfl ?_|refine QF (by clear end_;grind) ?_|refine Qz fun z hz => ?_
 refine end_ ?_;clear end_ sm;subst_vars;cases b0<;>cases b1<;>cases b2<;>cases b3<;>cases b4<;>cases b5<;>rfl
theorem QS7:QP Try.prog 34 QOb:=
 Jc (Jt QDE) Try.func34 (by kernel_rfl) (by kernel_rfl) (by decide) QX8 QZv
def XL:Tab:=Qg Zt 34 QOb
theorem QGa:QZ XL:=QDE.add QS7
def ZX:WF (Puz×QS×QB×Unit):=fun|(d,s,x,_)=>(decide ((0≤x.cell∧x.cell<d.ps.n)∧(0≤x.turn∧x.turn≤3)∧d.ps.n≤1000),.bool false (JX d s x.cell.toNat x.turn.toNat),[])
def QG1:FC:=wFC ZX
theorem QVr(c:Int):KO (mkE Try.prog XL) (hnd (mkE Try.prog XL) 6) Try.f64 (QV.vals 0 ((d,s,⟨c,0⟩,()):Puz×QS×QB×Unit)) (QV.blks 0 ((d,s,⟨c,0⟩,()):Puz×QS ×
  QB×Unit)) 8 = .need (decide ((0:Int)≤(i64.wrap ((4:Int)-0)).tmod (4:Int)∧(i64.wrap ((4:Int)-0)).tmod (4:Int)<4)) (.need (decide ((0:Int) ≤
  c∧c<(d.ps.n:Int))&&decide (d.ps.n≤d.ps.n)) (.need (decide (c.toNat<d.ps.n)) (.need (true) (.br (!isS s.up (d.ps.get c.toNat).up) (.leaf (.bool true false) ([])) (.need
  (decide ((0:Int)≤(i64.wrap ((5:Int)-0)).tmod (4:Int)∧(i64.wrap ((5:Int)-0)).tmod (4:Int)<4)) (.need (decide ((0:Int)≤c∧c<(d.ps.n:Int))
  && decide (d.ps.n≤d.ps.n)) (.need (decide (c.toNat<d.ps.n)) (.need (true) (.br (!isS s.right (d.ps.get c.toNat).right) (.leaf (.bool true false) ([])) (.need (decide ((0:Int)
  ≤ (i64.wrap ((6:Int)-0)).tmod (4:Int)∧(i64.wrap ((6:Int)-0)).tmod (4:Int)<4)) (.need (decide ((0:Int)≤c∧c<(d.ps.n:Int))&&decide (d.ps.n ≤
  d.ps.n)) (.need (decide (c.toNat<d.ps.n)) (.need (true) (.br (!isS s.down (d.ps.get c.toNat).down) (.leaf (.bool true false) ([])) (.need (decide ((0:Int)≤(i64.wrap
  ((7:Int)-0)).tmod (4:Int)∧(i64.wrap ((7:Int)-0)).tmod (4:Int)<4)) (.need (decide ((0:Int)≤c∧c<(d.ps.n:Int))&&decide (d.ps.n≤d.ps.n)) (.need
  (decide (c.toNat<d.ps.n)) (.need (true) (.br (!isS s.left (d.ps.get c.toNat).left) (.leaf (.bool true false) ([])) (.leaf (.bool true true) ([]))))))))))))))))))))):=by kernel_rfl
theorem QPv(c:Int):KO (mkE Try.prog XL) (hnd (mkE Try.prog XL) 6) Try.f64 (QV.vals 0 ((d,s,⟨c,1⟩,()):Puz×QS×QB×Unit)) (QV.blks 0 ((d,s,⟨c,1⟩,()):Puz×QS ×
  QB×Unit)) 8 = .need (decide ((0:Int)≤(i64.wrap ((4:Int)-1)).tmod (4:Int)∧(i64.wrap ((4:Int)-1)).tmod (4:Int)<4)) (.need (decide ((0:Int) ≤
  c∧c<(d.ps.n:Int))&&decide (d.ps.n≤d.ps.n)) (.need (decide (c.toNat<d.ps.n)) (.need (true) (.br (!isS s.left (d.ps.get c.toNat).up) (.leaf (.bool true false) ([])) (.need
  (decide ((0:Int)≤(i64.wrap ((5:Int)-1)).tmod (4:Int)∧(i64.wrap ((5:Int)-1)).tmod (4:Int)<4)) (.need (decide ((0:Int)≤c∧c<(d.ps.n:Int))
  && decide (d.ps.n≤d.ps.n)) (.need (decide (c.toNat<d.ps.n)) (.need (true) (.br (!isS s.up (d.ps.get c.toNat).right) (.leaf (.bool true false) ([])) (.need (decide ((0:Int) ≤
  (i64.wrap ((6:Int)-1)).tmod (4:Int)∧(i64.wrap ((6:Int)-1)).tmod (4:Int)<4)) (.need (decide ((0:Int)≤c∧c<(d.ps.n:Int))&&decide (d.ps.n ≤
  d.ps.n)) (.need (decide (c.toNat<d.ps.n)) (.need (true) (.br (!isS s.right (d.ps.get c.toNat).down) (.leaf (.bool true false) ([])) (.need (decide ((0:Int)≤(i64.wrap
  ((7:Int)-1)).tmod (4:Int)∧(i64.wrap ((7:Int)-1)).tmod (4:Int)<4)) (.need (decide ((0:Int)≤c∧c<(d.ps.n:Int))&&decide (d.ps.n≤d.ps.n)) (.need
  (decide (c.toNat<d.ps.n)) (.need (true) (.br (!isS s.down (d.ps.get c.toNat).left) (.leaf (.bool true false) ([])) (.leaf (.bool true true) ([]))))))))))))))))))))):=by kernel_rfl
theorem QRI(c:Int):KO (mkE Try.prog XL) (hnd (mkE Try.prog XL) 6) Try.f64 (QV.vals 0 ((d,s,⟨c,2⟩,()):Puz×QS×QB×Unit)) (QV.blks 0 ((d,s,⟨c,2⟩,()):Puz×QS ×
  QB×Unit)) 8 = .need (decide ((0:Int)≤(i64.wrap ((4:Int)-2)).tmod (4:Int)∧(i64.wrap ((4:Int)-2)).tmod (4:Int)<4)) (.need (decide ((0:Int) ≤
  c∧c<(d.ps.n:Int))&&decide (d.ps.n≤d.ps.n)) (.need (decide (c.toNat<d.ps.n)) (.need (true) (.br (!isS s.down (d.ps.get c.toNat).up) (.leaf (.bool true false) ([])) (.need
  (decide ((0:Int)≤(i64.wrap ((5:Int)-2)).tmod (4:Int)∧(i64.wrap ((5:Int)-2)).tmod (4:Int)<4)) (.need (decide ((0:Int)≤c∧c<(d.ps.n:Int))
  && decide (d.ps.n≤d.ps.n)) (.need (decide (c.toNat<d.ps.n)) (.need (true) (.br (!isS s.left (d.ps.get c.toNat).right) (.leaf (.bool true false) ([])) (.need (decide ((0:Int) ≤
  (i64.wrap ((6:Int)-2)).tmod (4:Int)∧(i64.wrap ((6:Int)-2)).tmod (4:Int)<4)) (.need (decide ((0:Int)≤c∧c<(d.ps.n:Int))&&decide (d.ps.n ≤
  d.ps.n)) (.need (decide (c.toNat<d.ps.n)) (.need (true) (.br (!isS s.up (d.ps.get c.toNat).down) (.leaf (.bool true false) ([])) (.need (decide ((0:Int)≤(i64.wrap ((7
  : Int)-2)).tmod (4:Int)∧(i64.wrap ((7:Int)-2)).tmod (4:Int)<4)) (.need (decide ((0:Int)≤c∧c<(d.ps.n:Int))&&decide (d.ps.n≤d.ps.n)) (.need (decide
  (c.toNat<d.ps.n)) (.need (true) (.br (!isS s.right (d.ps.get c.toNat).left) (.leaf (.bool true false) ([])) (.leaf (.bool true true) ([]))))))))))))))))))))):=by kernel_rfl
theorem QPx(c:Int):KO (mkE Try.prog XL) (hnd (mkE Try.prog XL) 6) Try.f64 (QV.vals 0 ((d,s,⟨c,3⟩,()):Puz×QS×QB×Unit)) (QV.blks 0 ((d,s,⟨c,3⟩,()):Puz×QS ×
  QB×Unit)) 8 = .need (decide ((0:Int)≤(i64.wrap ((4:Int)-3)).tmod (4:Int)∧(i64.wrap ((4:Int)-3)).tmod (4:Int)<4)) (.need (decide ((0:Int) ≤
  c∧c<(d.ps.n:Int))&&decide (d.ps.n≤d.ps.n)) (.need (decide (c.toNat<d.ps.n)) (.need (true) (.br (!isS s.right (d.ps.get c.toNat).up) (.leaf (.bool true false) ([]))
  (.need (decide ((0:Int)≤(i64.wrap ((5:Int)-3)).tmod (4:Int)∧(i64.wrap ((5:Int)-3)).tmod (4:Int)<4)) (.need (decide ((0:Int)≤c∧c<(d.ps.n :
  Int))&&decide (d.ps.n≤d.ps.n)) (.need (decide (c.toNat<d.ps.n)) (.need (true) (.br (!isS s.down (d.ps.get c.toNat).right) (.leaf (.bool true false) ([])) (.need (decide ((0 :
  Int)≤(i64.wrap ((6:Int)-3)).tmod (4:Int)∧(i64.wrap ((6:Int)-3)).tmod (4:Int)<4)) (.need (decide ((0:Int)≤c∧c<(d.ps.n:Int))&&decide
  (d.ps.n≤d.ps.n)) (.need (decide (c.toNat<d.ps.n)) (.need (true) (.br (!isS s.left (d.ps.get c.toNat).down) (.leaf (.bool true false) ([])) (.need (decide ((0:Int) ≤
  (i64.wrap ((7:Int)-3)).tmod (4:Int)∧(i64.wrap ((7:Int)-3)).tmod (4:Int)<4)) (.need (decide ((0:Int)≤c∧c<(d.ps.n:Int))&&decide (d.ps.n ≤
  d.ps.n)) (.need (decide (c.toNat<d.ps.n)) (.need (true) (.br (!isS s.up (d.ps.get c.toNat).left) (.leaf (.bool true false) ([])) (.leaf (.bool true true) ([]))))))))))))))))))))):=by kernel_rfl
theorem zK(c:Nat):JX d s c (Int.toNat 0)=(isS s.up (d.ps.get c).up&&(isS s.right (d.ps.get c).right&&(isS s.down (d.ps.get c).down&&isS s.left (d.ps.get c).left))):=rfl
theorem Gq(c:Nat):JX d s c (Int.toNat 1)=(isS s.left (d.ps.get c).up&&(isS s.up (d.ps.get c).right&&(isS s.right (d.ps.get c).down&&isS s.down (d.ps.get c).left))):=rfl
theorem GF(c:Nat):JX d s c (Int.toNat 2)=(isS s.down (d.ps.get c).up&&(isS s.left (d.ps.get c).right&&(isS s.up (d.ps.get c).down&&isS s.right (d.ps.get c).left))):=rfl
theorem HD(c:Nat):JX d s c (Int.toNat 3)=(isS s.right (d.ps.get c).up&&(isS s.down (d.ps.get c).right&&(isS s.left (d.ps.get c).down&&isS s.up (d.ps.get c).left))):=rfl
theorem H1{d:Puz}{s:QS}{x:QB}(h:X6 (Vg 8 (ZX (d,s,x,())).2.1 (ZX (d,s,x,())).2.2) (KO (mkE Try.prog XL) (hnd (mkE Try.prog XL) 6) Try.f64 (QV.vals 0 ((d,s,x,()):Puz×QS×QB×Unit)) (QV.blks 0 ((d,s,x,()):Puz×QS×QB×Unit)) 8)):QP Try.prog 64 (wFC (J1 ZX (d,s,x,()))):=
 Ya (c:=Qs Try.f64) (E:=mkE Try.prog XL) (H:=hnd (mkE Try.prog XL) 6) (QT QGa) Try.func64 (by kernel_rfl) (by kernel_rfl) (N:=8) (by decide) (d,s,x,()) (fun G h1 _=>Qy (QT QGa) 6 G _ h1) ⟨rfl,by simp[ZX],rfl⟩ h
theorem QQE(x:QB)(hx:(ZX (d,s,x,())).1=true):QP Try.prog 64 (wFC (J1 ZX (d,s,x,()))):=by
 obtain⟨⟨c0,c1⟩,⟨t0,t1⟩,hn⟩:=qdt hx;obtain⟨c,t⟩:=x;simp only at c0 c1 t0 t1;have no:∀{z b:Bool} {t:Int},JX d s c.toNat t.toNat=b→(QD.leaf (AV.bool z b) []).den (Vg 8 (ZX (d,s,⟨c,t⟩,())).2.1 (ZX (d,s,⟨c,t⟩,())).2.2):=fun h=>Kp h.symm rfl;have ht:t=0∨t=1∨t=2∨t=3:=by omega
 rcases ht with rfl|rfl|rfl|rfl
 ·refine H1 (Q2 (QVr d s c) ?_);refine QF (by first|rfl|(simp;done)|(simp;omega)|omega|grind) ?_
  refine QF (by first|rfl|(simp;done)|(simp;omega)|omega|grind) ?_
  refine QF (by first|rfl|(simp;done)|(simp;omega)|omega|grind) ?_
  refine QF rfl ?_;refine QG (fun b0 => ?_) (fun b0 => ?_)
  ·exact no ((zK ..).trans (by simp only[Bool.not_eq_true',Bool.not_eq_false']at b0;rw[b0];rfl))
  ·refine QF (by first|rfl|(simp;done)|(simp;omega)|omega|grind) ?_
   refine QF (by first|rfl|(simp;done)|(simp;omega)|omega|grind) ?_
   refine QF (by first|rfl|(simp;done)|(simp;omega)|omega|grind) ?_
   refine QF rfl ?_;refine QG (fun b1 => ?_) (fun b1 => ?_)
   ·exact no ((zK ..).trans (by simp only[Bool.not_eq_true',Bool.not_eq_false']at b0 b1;rw[b0,b1];rfl))
   ·refine QF (by first|rfl|(simp;done)|(simp;omega)|omega|grind) ?_
    refine QF (by first|rfl|(simp;done)|(simp;omega)|omega|grind) ?_
    refine QF (by first|rfl|(simp;done)|(simp;omega)|omega|grind) ?_
    refine QF rfl ?_;refine QG (fun b2 => ?_) (fun b2 => ?_)
    ·exact no ((zK ..).trans (by simp only[Bool.not_eq_true',Bool.not_eq_false']at b0 b1 b2;rw[b0,b1,b2];rfl))
    ·refine QF (by first|rfl|(simp;done)|(simp;omega)|omega|grind) ?_
     refine QF (by first|rfl|(simp;done)|(simp;omega)|omega|grind) ?_
     refine QF (by first|rfl|(simp;done)|(simp;omega)|omega|grind) ?_
     refine QF rfl ?_;refine QG (fun b3 => ?_) (fun b3 => ?_)
     ·exact no ((zK ..).trans (by simp only[Bool.not_eq_true',Bool.not_eq_false']at b0 b1 b2 b3;rw[b0,b1,b2,b3];rfl))
     ·exact no ((zK ..).trans (by simp only[Bool.not_eq_false']at b0 b1 b2 b3;rw[b0,b1,b2,b3];rfl))
 ·refine H1 (Q2 (QPv d s c) ?_);refine QF (by first|rfl|(simp;done)|(simp;omega)|omega|grind) ?_
  refine QF (by first|rfl|(simp;done)|(simp;omega)|omega|grind) ?_
  refine QF (by first|rfl|(simp;done)|(simp;omega)|omega|grind) ?_
  refine QF rfl ?_;refine QG (fun b0 => ?_) (fun b0 => ?_)
  ·exact no ((Gq ..).trans (by simp only[Bool.not_eq_true',Bool.not_eq_false']at b0;rw[b0];rfl))
  ·refine QF (by first|rfl|(simp;done)|(simp;omega)|omega|grind) ?_
   refine QF (by first|rfl|(simp;done)|(simp;omega)|omega|grind) ?_
   refine QF (by first|rfl|(simp;done)|(simp;omega)|omega|grind) ?_
   refine QF rfl ?_;refine QG (fun b1 => ?_) (fun b1 => ?_)
   ·exact no ((Gq ..).trans (by simp only[Bool.not_eq_true',Bool.not_eq_false']at b0 b1;rw[b0,b1];rfl))
   ·refine QF (by first|rfl|(simp;done)|(simp;omega)|omega|grind) ?_
    refine QF (by first|rfl|(simp;done)|(simp;omega)|omega|grind) ?_
    refine QF (by first|rfl|(simp;done)|(simp;omega)|omega|grind) ?_
    refine QF rfl ?_;refine QG (fun b2 => ?_) (fun b2 => ?_)
    ·exact no ((Gq ..).trans (by simp only[Bool.not_eq_true',Bool.not_eq_false']at b0 b1 b2;rw[b0,b1,b2];rfl))
    ·refine QF (by first|rfl|(simp;done)|(simp;omega)|omega|grind) ?_
     refine QF (by first|rfl|(simp;done)|(simp;omega)|omega|grind) ?_
     refine QF (by first|rfl|(simp;done)|(simp;omega)|omega|grind) ?_
     refine QF rfl ?_;refine QG (fun b3 => ?_) (fun b3 => ?_)
     ·exact no ((Gq ..).trans (by simp only[Bool.not_eq_true',Bool.not_eq_false']at b0 b1 b2 b3;rw[b0,b1,b2,b3];rfl))
     ·exact no ((Gq ..).trans (by simp only[Bool.not_eq_false']at b0 b1 b2 b3;rw[b0,b1,b2,b3];rfl))
 ·refine H1 (Q2 (QRI d s c) ?_);refine QF (by first|rfl|(simp;done)|(simp;omega)|omega|grind) ?_
  refine QF (by first|rfl|(simp;done)|(simp;omega)|omega|grind) ?_
  refine QF (by first|rfl|(simp;done)|(simp;omega)|omega|grind) ?_
  refine QF rfl ?_;refine QG (fun b0 => ?_) (fun b0 => ?_)
  ·exact no ((GF ..).trans (by simp only[Bool.not_eq_true',Bool.not_eq_false']at b0;rw[b0];rfl))
  ·refine QF (by first|rfl|(simp;done)|(simp;omega)|omega|grind) ?_
   refine QF (by first|rfl|(simp;done)|(simp;omega)|omega|grind) ?_
   refine QF (by first|rfl|(simp;done)|(simp;omega)|omega|grind) ?_
   refine QF rfl ?_;refine QG (fun b1 => ?_) (fun b1 => ?_)
   ·exact no ((GF ..).trans (by simp only[Bool.not_eq_true',Bool.not_eq_false']at b0 b1;rw[b0,b1];rfl))
   ·refine QF (by first|rfl|(simp;done)|(simp;omega)|omega|grind) ?_
    refine QF (by first|rfl|(simp;done)|(simp;omega)|omega|grind) ?_
    refine QF (by first|rfl|(simp;done)|(simp;omega)|omega|grind) ?_
    refine QF rfl ?_;refine QG (fun b2 => ?_) (fun b2 => ?_)
    ·exact no ((GF ..).trans (by simp only[Bool.not_eq_true',Bool.not_eq_false']at b0 b1 b2;rw[b0,b1,b2];rfl))
    ·refine QF (by first|rfl|(simp;done)|(simp;omega)|omega|grind) ?_
     refine QF (by first|rfl|(simp;done)|(simp;omega)|omega|grind) ?_
     refine QF (by first|rfl|(simp;done)|(simp;omega)|omega|grind) ?_
     refine QF rfl ?_;refine QG (fun b3 => ?_) (fun b3 => ?_)
     ·exact no ((GF ..).trans (by simp only[Bool.not_eq_true',Bool.not_eq_false']at b0 b1 b2 b3;rw[b0,b1,b2,b3];rfl))
     ·exact no ((GF ..).trans (by simp only[Bool.not_eq_false']at b0 b1 b2 b3;rw[b0,b1,b2,b3];rfl))
 ·refine H1 (Q2 (QPx d s c) ?_);refine QF (by first|rfl|(simp;done)|(simp;omega)|omega|grind) ?_
  refine QF (by first|rfl|(simp;done)|(simp;omega)|omega|grind) ?_
  refine QF (by first|rfl|(simp;done)|(simp;omega)|omega|grind) ?_
  refine QF rfl ?_;refine QG (fun b0 => ?_) (fun b0 => ?_)
  ·exact no ((HD ..).trans (by simp only[Bool.not_eq_true',Bool.not_eq_false']at b0;rw[b0];rfl))
  ·refine QF (by first|rfl|(simp;done)|(simp;omega)|omega|grind) ?_
   refine QF (by first|rfl|(simp;done)|(simp;omega)|omega|grind) ?_
   refine QF (by first|rfl|(simp;done)|(simp;omega)|omega|grind) ?_
   refine QF rfl ?_;refine QG (fun b1 => ?_) (fun b1 => ?_)
   ·exact no ((HD ..).trans (by simp only[Bool.not_eq_true',Bool.not_eq_false']at b0 b1;rw[b0,b1];rfl))
   ·refine QF (by first|rfl|(simp;done)|(simp;omega)|omega|grind) ?_
    refine QF (by first|rfl|(simp;done)|(simp;omega)|omega|grind) ?_
    refine QF (by first|rfl|(simp;done)|(simp;omega)|omega|grind) ?_
    refine QF rfl ?_;refine QG (fun b2 => ?_) (fun b2 => ?_)
    ·exact no ((HD ..).trans (by simp only[Bool.not_eq_true',Bool.not_eq_false']at b0 b1 b2;rw[b0,b1,b2];rfl))
    ·refine QF (by first|rfl|(simp;done)|(simp;omega)|omega|grind) ?_
     refine QF (by first|rfl|(simp;done)|(simp;omega)|omega|grind) ?_
     refine QF (by first|rfl|(simp;done)|(simp;omega)|omega|grind) ?_
     refine QF rfl ?_;refine QG (fun b3 => ?_) (fun b3 => ?_)
     ·exact no ((HD ..).trans (by simp only[Bool.not_eq_true',Bool.not_eq_false']at b0 b1 b2 b3;rw[b0,b1,b2,b3];rfl))
     ·exact no ((HD ..).trans (by simp only[Bool.not_eq_false']at b0 b1 b2 b3;rw[b0,b1,b2,b3];rfl))
theorem QXK:QP Try.prog 64 QG1:=Gl (by kernel_rfl) fun|(d,s,x,()),h=>QQE d s x h
def Zx:Tab:=Qg XL 64 QG1
theorem QE9:QZ Zx:=QGa.add QXK
def YC(j:Jn)(a b:QB):Bool:=cond ((a.cell == -2)||(b.cell == -2)) (a.cell==b.cell) ((Qc d.wide d.high a.cell (Z0 j a)==b.cell)&&((j.j+b.turn).tmod 4==W8 (Z0 j a)))
def Ww:WF (Puz×Jn×QB×QB×Unit):=fun|(d,(j,(a,(b,_))))=>(decide (((1≤d.wide∧d.wide≤100)∧(1≤d.high∧d.high≤100))∧((a.cell = -2∨0≤a.cell∧a.cell≤100)∧(b.cell = -2∨0≤b.cell∧b.cell≤100))∧((0≤j.i∧j.i≤3)∧(0≤j.j∧j.j≤3))∧((0≤a.turn∧a.turn≤3)∧(0≤b.turn∧b.turn≤3))∧d.ps.n≤1000),.bool false (YC d j a b),[])
def QJO:FC:=wFC Ww
theorem QY6(j:Jn)(a:QB)(b:QB):KO (mkE Try.prog Zx) (hnd (mkE Try.prog Zx) 3) Try.f65 (QV.vals 0 ((d,j,a,b,()):Puz×Jn×QB×QB×Unit)) (QV.blks 0 ((d,j,a,b,()):Puz×Jn×QB×QB×Unit)) 8 =
  QD.br (a.cell==(-2:Int)) (QD.leaf (AV.bool false (a.cell==b.cell)) ([])) (QD.br (b.cell==(-2:Int)) (QD.leaf (AV.bool false (a.cell==b.cell)) ([])) (QD.need
  (decide (d.ps.n≤d.ps.n)&&(true&&(true&&true))&&decide (((1:Int)≤d.wide∧d.wide≤(100:Int))∧((1:Int)≤d.high∧d.high≤(100:Int))∧(0:Int)≤a.cell ∧
  a.cell≤(100:Int))) (QD.br (Qc d.wide d.high a.cell ((i64.wrap (j.i+a.turn)).tmod (4:Int))==b.cell) (QD.leaf (AV.bool false ((i64.wrap (j.j +
  b.turn)).tmod (4:Int)==(i64.wrap ((i64.wrap (j.i+a.turn)).tmod (4:Int)+(2:Int))).tmod (4:Int))) ([])) (QD.leaf (AV.bool true false) ([]))))):=by kernel_rfl
theorem QTp:JN (mkE Try.prog Zx) (Qs Try.f65) 8 Ww (fun x_=>(hnd (mkE Try.prog Zx) 3)):=by
 refine⟨?_⟩;rintro⟨d,⟨j,⟨a,⟨b,⟨⟩⟩⟩⟩⟩ hp G h1 h2;exact Qy (QT QE9) 3 G _ h1
theorem QSB:JS (mkE Try.prog Zx) Try.f65 8 Ww (fun x_=>(hnd (mkE Try.prog Zx) 3)):=by
 refine⟨?_⟩;rintro⟨d,⟨j,⟨a,⟨b,⟨⟩⟩⟩⟩⟩ hp;refine⟨⟨rfl,by simp[Ww],rfl⟩,⟨?_⟩⟩
 rw[QY6 d j a b];simp only[Ww]at hp;obtain⟨⟨hw,hh⟩,⟨ha,hb⟩,⟨hi,hj⟩,⟨ta,tb⟩,hn⟩:=qdt hp;have no:∀{z b':Bool},YC d j a b=b'→(QD.leaf (AV.bool z b') []).den (Vg 8 (Ww (d,j,a,b,())).2.1 (Ww (d,j,a,b,())).2.2):=fun h=>Kp h.symm rfl;have w1:i64.wrap (j.i+a.turn)=j.i+a.turn:=w64 (by omega) (by omega)
 have w2:i64.wrap (j.j+b.turn)=j.j+b.turn:=w64 (by omega) (by omega)
 have m1:=QMA (n:=j.i+a.turn) (by omega)
 have w3:i64.wrap ((j.i+a.turn).tmod 4+2)=(j.i+a.turn).tmod 4+2:=w64 (by omega) (by omega)
 rw[w1,w2,w3];refine QG (fun b0 => ?_) (fun b0 => ?_)
 ·exact no (by unfold YC;rw[b0];rfl)
 ·refine QG (fun b1 => ?_) (fun b1 => ?_)
  ·exact no (by unfold YC;rw[b1,Bool.or_true];rfl)
  ·refine QF (by simp at b0 b1 ⊢;omega) ?_
   refine QG (fun b2 => ?_) (fun b2 => ?_)
   ·exact no (by unfold YC;rw[b0,b1];simp only[Z0,W8,b2];rfl)
   ·exact no (by unfold YC;rw[b0,b1];simp only[Z0,W8,b2];rfl)
theorem QZ8:QP Try.prog 65 QJO:=
 Jc (QT QE9) Try.func65 (by kernel_rfl) (by kernel_rfl) (by decide) QTp QSB
def Jb:Tab:=Qg Zx 65 QJO
theorem Zh:QZ Jb:=QE9.add QZ8
def rtB:List (Nat×Blk):=(8,.cells 0 50 (JG 0 x))::(Jd 0 x++Q7.blk 3 l)
def rtJ:JSt:=⟨133,[(1,.slz 3 0 l.n (.of 0)),(2,.ptr 8 0 0),(5,.int false .i64 al),(6,.int false .i64 tk),(7,.int false .i64 k)],rtB x l,96⟩
def rtE:JSt:=⟨133,[(1,.slz 3 0 l.n (.of 0)),(2,.ptr 8 0 0),(5,.int false .i64 al),(6,.int false .i64 tk)],rtB x l,96⟩
def V6:JSt:=⟨133,[(4,.bool false false)],[],96⟩
def QJ4:Ex→List Nat
 | .normal=>[1,2,5,6,7]
 | .exit _=>[1,2,5,6]
 | .ret=>[4]
def zl(k i:Nat):JSt:=⟨133,[(1,.slz 3 0 l.n (.of 0)),(2,.ptr 8 0 0),(5,.int false .i64 al),(6,.int false .i64 tk),(7,.int false .i64 k),(8,.int false .i64 i)],rtB x l,96⟩
def H9:JSt:=⟨133,[(1,.slz 3 0 l.n (.of 0)),(2,.ptr 8 0 0),(5,.int false .i64 al),(6,.int false .i64 tk),(7,.int false .i64 k)],rtB x l,96⟩
def QHo:Ex→List Nat
 | .normal=>[1,2,5,6,7,8]
 | .exit _=>[1,2,5,6,7]
 | .ret=>[4]
def GP:JSt:=⟨133,[(1,.slz 3 0 l.n (.of 0)),(2,.ptr 8 0 0),(5,.int false .i64 al),(6,.int false .i64 tk),(9,.int false .i64 k)],rtB x l,96⟩
def QKU:Ex→List Nat
 | .normal=>[1,2,5,6,9]
 | .exit _=>[1,2,5,6]
 | .ret=>[4]
def eqC(k i:Nat):Bool:=(l.get i).cell==(l.get k).cell
noncomputable abbrev QJ7:Nat×Blk:=
  (8,.cells 0 50 [vi x.d.play.length,vi x.d.play.slack,vi x.d.play.loose,vi x.d.play.damp.lo,vi x.d.play.damp.hi,
  .int false .i64 x.d.wide,vi x.d.high,.bool false x.d.turn,.slz 0 0 x.d.ps.n cO,.slz 1 0 x.scans.n cO,.slz 2 0 x.hang.n cO,.int false .i64
  x.lost,vi x.foreign])
abbrev QCf:List CK:=
  [.int .i64,.int .i64,.int .i64,.int .i64,.int .i64,.int .i64,.int .i64,.int .i64,.int .i64,.int .i64,.int .i64,.int .i64,.int .i64,.int .i64,.int .i64,.int .i64,.int
  .i64,.int .i64,.int .i64,.int .i64,.int .i64,.int .i64,.int .i64,.int .i64,.int .i64,.int .i64,.int .i64,.int .i64]
noncomputable abbrev QEN(i:Nat)(l:Rw QB)(x:QE):List (Nat×Blk):=
  [(3,.frz [.int .i64,.int .i64] l.n fun i=>QA.enc (l.get i)),(QJ7 x),(0,.frz QCf x.d.ps.n fun i=>QA.enc (x.d.ps.get i)),(1,.frz QCf x.scans.n fun i=>QA.enc
  (x.scans.get i)),(2,.frz [.int .i64,.int .i64,.int .i64,.int .i64] x.hang.n fun i=>QA.enc (x.hang.get i))]
theorem QPZ(k i:Nat)(g:Nat→Value):exec (mkE Try.prog Jb) (hnd (mkE Try.prog Jb) 3) (Vn (QX Try.f36 0)) (JSt.inst (zl x l al tk k i) g) (KT [] QHo) = .br (decide ((i:Int)<(k:Int)))
  (.need (decide ((0:Int)≤(i:Int)∧(i:Int)<(l.n:Int))&&decide (l.n≤l.n)) (.need (decide (i<l.n)) (.need (decide ((0:Int)≤(k:Int)∧(k:Int)<(l.n:Int)) &&
  decide (l.n≤l.n)) (.need (decide (k<l.n)) (.br ((l.get i).cell==(l.get k).cell) (.leaf (.tup [.nili,.ptr 133 0 0,.bool true false]) ([])) (.leaf (.tup [.nilp,.ptr 133 0 0,
  .slz 3 0 l.n cO,.ptr 8 0 0,vi al,vi tk,vi (k:Int),vi (i64.wrap ((i:Int)+1))]) ((QEN i l x))))))))
  (.leaf (.tup [.ptr 2 0 0,.ptr 133 0 0,.slz 3 0 l.n cO,.ptr 8 0 0,vi al,vi tk,vi (k:Int)]) ((QEN i l x))):=by kernel_rfl
noncomputable abbrev YN(x:QE):List (Nat×Blk):=
  [(3,.frz [.int .i64,.int .i64] l.n fun i=>QA.enc (l.get i)),(QJ7 x),(0,.frz QCf x.d.ps.n fun i=>QA.enc (x.d.ps.get i)),(1,.frz QCf x.scans.n fun i=>QA.enc
  (x.scans.get i)),(2,.frz [.int .i64,.int .i64,.int .i64,.int .i64] x.hang.n fun i=>QA.enc (x.hang.get i))]
theorem QX1(g:Nat→Value):exec (mkE Try.prog Jb) (hnd (mkE Try.prog Jb) 3) (QX Try.f36 1) (JSt.inst (GP x l al tk k) g) (KT [] QKU) = .br (decide ((k:Int)<(x.hang.n:Int))) (.need
  (decide ((0:Int)≤(k:Int)∧(k:Int)<(x.hang.n:Int))&&decide (x.hang.n≤x.hang.n)) (.need (decide (k<x.hang.n)) (.need (decide ((0:Int)≤(x.hang.get k).a ∧
  (x.hang.get k).a<(l.n:Int))&&decide (l.n≤l.n)) (.need (decide ((x.hang.get k).a.toNat<l.n)) (.need (decide ((0:Int)≤(x.hang.get k).b∧(x.hang.get k).b<(l.n:Int))
  && decide (l.n≤l.n)) (.need (decide ((x.hang.get k).b.toNat<l.n)) (.need (decide (x.d.ps.n≤x.d.ps.n)&&(true&&(true&&(true&&true)))&&decide ((((1:Int)≤x.d.wide ∧
  x.d.wide≤100)∧(1:Int)≤x.d.high∧x.d.high≤100)∧(((l.get (x.hang.get k).a.toNat).cell = -2∨(0:Int)≤(l.get (x.hang.get k).a.toNat).cell∧(l.get (x.hang.get
  k).a.toNat).cell≤100)∧((l.get (x.hang.get k).b.toNat).cell = -2∨(0:Int)≤(l.get (x.hang.get k).b.toNat).cell∧(l.get (x.hang.get k).b.toNat).cell≤100))∧(((0:Int) ≤
  (x.hang.get k).i∧(x.hang.get k).i≤3)∧(0:Int)≤(x.hang.get k).j∧(x.hang.get k).j≤3)∧(((0:Int)≤(l.get (x.hang.get k).a.toNat).turn∧(l.get (x.hang.get
  k).a.toNat).turn≤3)∧(0:Int)≤(l.get (x.hang.get k).b.toNat).turn∧(l.get (x.hang.get k).b.toNat).turn≤3)∧x.d.ps.n≤1000)) (.br (!YC x.d (x.hang.get k) (l.get
  (x.hang.get k).a.toNat) (l.get (x.hang.get k).b.toNat)) (.leaf (.tup [.nili,.ptr 133 0 0,.bool true false]) ([])) (.leaf (.tup [.nilp,.ptr 133 0 0,.slz 3 0 l.n cO,.ptr
  8 0 0,vi al,vi tk,vi (i64.wrap ((k:Int)+1))]) ((YN l x))))))))))) (.leaf (.tup [.ptr 4 0 0,.ptr 133 0 0,.slz 3 0 l.n
  cO,.ptr 8 0 0,vi al,vi tk]) ((YN l x))):=by kernel_rfl
theorem QYX(al tk tk':Int)(q:Bool)(k:Nat)(g:Nat→Value):exec (mkS Try.prog Jb) { hnd (mkS Try.prog Jb) 3 with loop:=fun _=>XG (k<l.n) (KD 8 [] (zl x l al tk' k 0) [(q=false,.ret,V6),(q=true,.exit 2,H9
  x l al tk' k)]) } (QX Try.f36 0) (JSt.inst (rtJ x l al tk k) g) (KT [] QJ4) = .br (decide ((k:Int)<(l.n:Int))) (.need (decide ((0:Int)≤(k:Int)∧(k:Int)<(l.n
  : Int))&&decide (l.n≤l.n)) (.need (decide (k<l.n)) (.br ((l.get k).cell == -2) (.need (decide ((0:Int)≤(k:Int)∧(k:Int)<(l.n:Int))&&decide (l.n≤l.n)) (.need
  (decide (k<l.n)) (.br ((l.get k).turn != 0) (.leaf (.tup [.nili,.ptr 133 0 0,.bool true false]) ([])) (.leaf (.tup [.nilp,.ptr 133 0 0,.slz 3 0 l.n cO,.ptr 8 0 0,
  .int false .i64 (i64.wrap (al+1)),vi tk,vi (i64.wrap ((k:Int)+1))]) ((YN l x)))))) (.need (decide ((0:Int)≤(k:Int)∧(k :
  Int)<(l.n:Int))&&decide (l.n≤l.n)) (.need (decide (k<l.n)) (.need (true) (.need (!!!QW (l.get k).cell (0:Int) (i64.wrap ((x.d.ps.n:Int)-1))||decide ((0
  : Int)≤(k:Int)∧(k:Int)<(l.n:Int))&&decide (l.n≤l.n)&&(!!QW (l.get k).cell (0:Int) (i64.wrap ((x.d.ps.n:Int)-1)) && !!QW (l.get k).cell (0 :
  Int) (i64.wrap ((x.d.ps.n:Int)-1)))) (.need (!!!QW (l.get k).cell (0:Int) (i64.wrap ((x.d.ps.n:Int)-1)) || !!QW (l.get k).cell (0:Int)
  (i64.wrap ((x.d.ps.n:Int)-1))) (.need (!!!QW (l.get k).cell (0:Int) (i64.wrap ((x.d.ps.n:Int)-1))||decide (k<l.n) && !!QW (l.get k).cell (0 :
  Int) (i64.wrap ((x.d.ps.n:Int)-1))) (.need (!!!QW (l.get k).cell (0:Int) (i64.wrap ((x.d.ps.n:Int)-1))||true && !!QW (l.get k).cell (0:Int)
  (i64.wrap ((x.d.ps.n:Int)-1))) (.need (!!!QW (l.get k).cell (0:Int) (i64.wrap ((x.d.ps.n:Int)-1)) || !!QW (l.get k).cell (0:Int)
  (i64.wrap ((x.d.ps.n:Int)-1))) (.need (!QW (l.get k).cell (0:Int) (i64.wrap ((x.d.ps.n:Int)-1)) || !!QW (l.get k).cell (0:Int) (i64.wrap
  ((x.d.ps.n:Int)-1))) (.bnd (!QW (l.get k).cell (0:Int) (i64.wrap ((x.d.ps.n:Int)-1)) || !QW (l.get k).turn (0:Int) (3:Int)) (fun(x0:Bool) => .need
  (!!x0 || !x0) (.need (!!x0 || !x0) (.need (!!x0||decide ((0:Int)≤(k:Int)∧(k:Int)<(x.scans.n:Int))&&decide (x.scans.n≤x.scans.n)&&(!x0 && !x0)) (.need (!!x0 ||
  decide (k<x.scans.n) && !x0) (.need (!!x0||decide ((0:Int)≤(k:Int)∧(k:Int)<(l.n:Int))&&decide (l.n≤l.n)&&(!x0 && !x0)) (.need (!!x0||decide (k<l.n) &&
  !x0) (.need (!!x0||decide (x.d.ps.n≤x.d.ps.n)&&(true&&(true&&true))&&decide (((0:Int)≤(l.get k).cell∧(l.get k).cell<(x.d.ps.n:Int))∧((0:Int)≤(l.get
  k).turn∧(l.get k).turn≤3)∧x.d.ps.n≤1000)&&(!x0&&(!x0 && !x0))) (.need (!!x0 || !x0) (.need (x0 || !x0) (.bnd (x0 || !JX x.d (x.scans.get k) (l.get k).cell.toNat
  (l.get k).turn.toNat) (fun(x1:Bool) => .br (x1) (.leaf (.tup [.nili,.ptr 133 0 0,.bool true false]) ([])) (.ask (k<l.n) (.ask (0=0) (.ask (l.n=l.n) (.ask (cO =
  cO) (.ask (0=0) (.ask (0=0) (.ask (al=al) (.ask (i64.wrap (tk+1)=tk') (.ask ((k:Int)=(k:Int)) (.ask ((0:Int)=0) (.ask (x.d.play.length =
  x.d.play.length) (.ask (x.d.play.slack=x.d.play.slack) (.ask (x.d.play.loose=x.d.play.loose) (.ask (x.d.play.damp.lo=x.d.play.damp.lo) (.ask (x.d.play.damp.hi =
  x.d.play.damp.hi) (.ask (x.d.wide=x.d.wide) (.ask (x.d.high=x.d.high) (.ask (x.d.turn=x.d.turn) (.ask (0=0) (.ask (x.d.ps.n=x.d.ps.n) (.ask (cO=cO) (.ask (0
  = 0) (.ask (x.scans.n=x.scans.n) (.ask (cO=cO) (.ask (0=0) (.ask (x.hang.n=x.hang.n) (.ask (cO=cO) (.ask (x.lost=x.lost) (.ask (x.foreign =
  x.foreign) (.ask (x.d.ps.n≤x.d.ps.n) (.ask (QC 28 x.d.ps.n (fun i=>QA.enc (x.d.ps.get i)) fun i=>QA.enc (x.d.ps.get i)) (.ask (x.scans.n≤x.scans.n) (.ask (QC 28
  x.scans.n (fun i=>QA.enc (x.scans.get i)) fun i=>QA.enc (x.scans.get i)) (.ask (x.hang.n≤x.hang.n) (.ask (QC 4 x.hang.n (fun i=>QA.enc (x.hang.get i)) fun i=>
  QA.enc (x.hang.get i)) (.ask (l.n≤l.n) (.ask (QC 2 l.n (fun i=>QA.enc (l.get i)) fun i=>QA.enc (l.get i)) (.both (.asm (q=false) (.all (fun(g2:Nat→Value)=>
  .leaf (.tup [.nili,.ptr 133 0 0,.bool false false]) ([])))) (.asm (q=true) (.all (fun(g3:Nat→Value) => .leaf (.tup [.nilp,.ptr 133 0 0,.slz 3 0 l.n cO,.ptr 8 0
  0,vi al,vi tk',vi (i64.wrap ((k:Int)+1))]) ((YN l x))))))))))))))))))))))))))))))))))))))))))))))))))))))))))))))))))) (.leaf
  (.tup [.ptr 0 0 0,.ptr 133 0 0,.slz 3 0 l.n cO,.ptr 8 0 0,vi al,vi tk]) ((YN l x))):=by kernel_rfl
theorem QZC :QL 8 [AV.bool true false] ([]) V6=(
  some [false=false]):=by kernel_rfl
abbrev GX:List Prop:=
  [0=0,l.n=l.n,cO=cO,0=0,0=0]
theorem QWh(k i i':Nat):QL 8 [.slz 3 0 l.n cO,.ptr 8 0 0,vi al,vi tk,vi (k:Int),vi (i64.wrap ((i:Int)+1))] ((QEN i l x))
  (zl x l al tk k i')=(some ((GX l)++[al=al,tk=tk,(k:Int)=(k:Int),i64.wrap ((i:Int)+1)=(i':Int),x.d.play.length=x.d.play.length,
  x.d.play.slack=x.d.play.slack,x.d.play.loose=x.d.play.loose,x.d.play.damp.lo=x.d.play.damp.lo,x.d.play.damp.hi=x.d.play.damp.hi,x.d.wide=x.d.wide,x.d.high=x.d.high,
  x.d.turn=x.d.turn,0=0,x.d.ps.n=x.d.ps.n,cO=cO,0=0,x.scans.n=x.scans.n,cO=cO,0=0,x.hang.n=x.hang.n,cO=cO,x.lost =
  x.lost,x.foreign=x.foreign,x.d.ps.n≤x.d.ps.n,QC 28 x.d.ps.n (fun i=>QA.enc (x.d.ps.get i)) fun i=>QA.enc (x.d.ps.get i),x.scans.n≤x.scans.n,QC 28
  x.scans.n (fun i=>QA.enc (x.scans.get i)) fun i=>QA.enc (x.scans.get i),x.hang.n≤x.hang.n,QC 4 x.hang.n (fun i=>QA.enc (x.hang.get i)) fun i=>QA.enc
  (x.hang.get i),l.n≤l.n,QC 2 l.n (fun i=>QA.enc (l.get i)) fun i=>QA.enc (l.get i)])):=by kernel_rfl
abbrev QAs(x:QE):List Prop:=
  [x.d.play.damp.lo=x.d.play.damp.lo,x.d.play.damp.hi=x.d.play.damp.hi,x.d.wide=x.d.wide,x.d.high=x.d.high,x.d.turn=x.d.turn,0=0,x.d.ps.n=x.d.ps.n,cO =
  cO,0=0,x.scans.n=x.scans.n,cO=cO,0=0,x.hang.n=x.hang.n,cO=cO,x.lost=x.lost,x.foreign=x.foreign,x.d.ps.n≤x.d.ps.n,QC 28
  x.d.ps.n (fun i=>QA.enc (x.d.ps.get i)) fun i=>QA.enc (x.d.ps.get i),x.scans.n≤x.scans.n,QC 28 x.scans.n (fun i=>QA.enc (x.scans.get i)) fun i=>QA.enc
  (x.scans.get i),x.hang.n≤x.hang.n,QC 4 x.hang.n (fun i=>QA.enc (x.hang.get i)) fun i=>QA.enc (x.hang.get i),l.n≤l.n,QC 2 l.n (fun i=>QA.enc (l.get i))
  fun i=>QA.enc (l.get i)]
theorem QYJ :QL 8 [.slz 3 0 l.n cO,.ptr 8 0 0,vi al,vi tk,vi (k:Int)] ((YN l x)) (H9 x l al tk k)=(some ((GX l)++[al=al,tk =
  tk,(k:Int)=(k:Int),x.d.play.length=x.d.play.length,x.d.play.slack=x.d.play.slack,x.d.play.loose=x.d.play.loose]++(QAs l x))):=by kernel_rfl
theorem QV6 :QL 8 [AV.bool true false] ([]) V6=(
  some [false=false]):=by kernel_rfl
abbrev QFr(k':Nat)(x:QE):List Prop:=
  [i64.wrap ((k:Int)+1)=(k':Int),x.d.play.length=x.d.play.length,x.d.play.slack=x.d.play.slack,x.d.play.loose=x.d.play.loose]
theorem QQy(k k':Nat):QL 8 [.slz 3 0 l.n cO,.ptr 8 0 0,vi al,vi tk,vi (i64.wrap ((k:Int)+1))] ((YN l x)) (GP x l al tk k')=(some
  ((GX l)++[al=al,tk=tk]++(QFr k k' x)++(QAs l x))):=by kernel_rfl
abbrev QKb(l:Rw QB)(tk:Int)(x:QE):List Prop:=
  [0=0,l.n=l.n,cO=cO,0=0,0=0,al=al,tk=tk,x.d.play.length=x.d.play.length,x.d.play.slack=x.d.play.slack,x.d.play.loose=x.d.play.loose,
  x.d.play.damp.lo=x.d.play.damp.lo,x.d.play.damp.hi=x.d.play.damp.hi,x.d.wide=x.d.wide,x.d.high=x.d.high,x.d.turn=x.d.turn,0=0,x.d.ps.n=x.d.ps.n,cO =
  cO,0=0,x.scans.n=x.scans.n,cO=cO,0=0,x.hang.n=x.hang.n,cO=cO,x.lost=x.lost,x.foreign=x.foreign,x.d.ps.n≤x.d.ps.n,QC 28
  x.d.ps.n (fun i=>QA.enc (x.d.ps.get i)) fun i=>QA.enc (x.d.ps.get i),x.scans.n≤x.scans.n,QC 28 x.scans.n (fun i=>QA.enc (x.scans.get i)) fun i=>QA.enc
  (x.scans.get i),x.hang.n≤x.hang.n,QC 4 x.hang.n (fun i=>QA.enc (x.hang.get i)) fun i=>QA.enc (x.hang.get i),l.n≤l.n,QC 2 l.n (fun i=>QA.enc (l.get i))
  fun i=>QA.enc (l.get i)]
theorem QV7 :QL 8 [.slz 3 0 l.n cO,.ptr 8 0 0,vi al,vi tk] ((YN l x)) (rtE x l al tk)=(some (QKb al l tk x)):=by kernel_rfl
theorem QXP :QL 8 [AV.bool true false] ([]) V6=(
  some [false=false]):=by kernel_rfl
theorem QRd(al tk al' tk2:Int)(k k':Nat):QL 8 [.slz 3 0 l.n cO,.ptr 8 0 0,vi (i64.wrap (al+1)),vi tk,vi (i64.wrap ((k:Int)+1))] ((YN l x)) (rtJ x
  l al' tk2 k')=(some ((GX l)++[i64.wrap (al+1)=al',tk=tk2]++(QFr k k' x)++(QAs l x))):=by kernel_rfl
theorem QR6 :QL 8 [AV.bool true false] ([]) V6=(
  some [false=false]):=by kernel_rfl
theorem QVX :QL 8 [AV.bool false false] ([]) V6=(
  some [false=false]):=by kernel_rfl
theorem QPJ(al al' tk' tk2:Int)(k k':Nat):QL 8 [.slz 3 0 l.n cO,.ptr 8 0 0,vi al,vi tk',vi (i64.wrap ((k:Int)+1))] ((YN l x)) (rtJ x l al' tk2 k')=(some
  ((GX l)++[al=al',tk'=tk2]++(QFr k k' x)++(QAs l x))):=by kernel_rfl
theorem QU3 :QL 8 [.slz 3 0 l.n cO,.ptr 8 0 0,vi al,vi tk] ((YN l x)) (rtE x l al tk)=(some (QKb al l tk x)):=by kernel_rfl
def Je:Bool:=cond ((l.get k).cell == -2) ((l.get k).turn != 0) (((!QW (l.get k).cell 0 (i64.wrap ((x.d.ps.n:Int)-1)) || !QW (l.get k).turn 0 3) || !JX x.d (x.scans.get k) (l.get k).cell.toNat (l.get k).turn.toNat) || !(QM (eqC l k) k 0).isNone)
def alN(l:Rw QB):Nat→Int
 | 0=>0
 | k+1=>cond ((l.get k).cell == -2) (i64.wrap (alN l k+1)) (alN l k)
def tkN(l:Rw QB):Nat→Int
 | 0=>0
 | k+1=>cond ((l.get k).cell == -2) (tkN l k) (i64.wrap (tkN l k+1))
def YT:Bool := !YC x.d (x.hang.get k) (l.get (x.hang.get k).a.toNat) (l.get (x.hang.get k).b.toNat)
def QMs(k i:Nat)(e:Ex)(J:JSt):Prop:=(e = .ret∧(QM (eqC l k) (k-i) i).isNone=false∧J=V6)∨(e = .exit 2∧(QM (eqC l k) (k-i) i).isNone=true∧J=H9 x l al tk k)
theorem QTE(hk:k<l.n)(hl:l.n≤1000):JJ (zl x l al tk k) (fun i=>i≤k) (fun i=>k-i) (QMs x l al tk k) 8 QHo [] (mkE Try.prog Jb) (fun _=>hnd (mkE Try.prog Jb) 3) (Vn (QX Try.f36 0)):=by
 refine⟨fun i g hi=>Q2 (QPZ x l al tk k i g) ?_⟩;refine QG (fun b0 => ?_) (fun b0 => ?_)
 ·refine QF (by simp at b0 ⊢;omega) ?_
  refine QF (by simp at b0 ⊢;omega) ?_
  refine QF (by simp at b0 ⊢;omega) ?_
  refine QF (by simp at b0 ⊢;omega) ?_
  refine QG (fun b1 => ?_) (fun b1 => ?_)
  ·have h:i<k:=by have:=qdt b0;omega
   exact⟨_,.inl ⟨rfl,qW h b1,rfl⟩,rfl,rfl,_,QZC,⟨rfl,trivial⟩⟩
  ·have h:i<k:=by have:=qdt b0;omega
   refine⟨i+1,h,by show k-(i+1)<k-i;omega,fun e J r=>by unfold QMs at r ⊢;rw[jT h b1];exact r,rfl,rfl,_,QWh ..,?_⟩
   repeat' first|with_reducible refine QQ ?_ ?_|exact trivial|with_reducible rfl|exact qlr _|exact qRr|exact Kn h (by omega)|refine And.intro ?_ ?_
 ·have h:k≤i:=by have:=of_decide_eq_false b0;omega
  refine⟨_,.inr ⟨rfl,zZ h,rfl⟩,rfl,rfl,_,QYJ ..,?_⟩
  repeat' first|with_reducible refine QQ ?_ ?_|exact trivial|with_reducible rfl|exact qlr _|exact qRr|refine And.intro ?_ ?_
abbrev QT6(q:Bool):List (Prop×Ex×JSt):=[(q=false,.ret,V6),(q=true,.exit 2,H9 x l al tk k)]
abbrev rtI(P:Program)(x:QE)(l:Rw QB)(al tk:Int)(k:Nat)(q:Bool):Hnd:={ hnd (mkS P Jb) 3 with loop:=fun _=>XG (k<l.n) (KD 8 [] (zl x l al tk k 0) (QT6 x l al tk k q)) }
def eqN:Bool:=(QM (eqC l k) k 0).isNone
theorem QR3(hl:l.n≤1000)(G:Ctx)(hrd:G.rd=none)(hG:G.n=8):KC (mkS Try.prog Jb) G (rtI Try.prog x l al tk k (eqN l k)) (QX Try.f36 0):=by
 refine Jj (body:=Vn (QX Try.f36 0)) (Jt Zh) hrd (by kernel_rfl) ?_
 refine qV fun hk => ?_;refine ZG (E:=mkE Try.prog Jb) rfl (JW (n0:=8) (QT Zh) (by omega) (fun t ht=>Qy (QT Zh) 3 G _ hrd) (fun t ht=>(by decide:8≤96)) ?_ (QTE x l al tk k hk hl) (s0:=0) (Nat.zero_le _) ?_)
 ·rintro s e J (⟨_,_,rfl⟩|⟨_,_,rfl⟩)<;>exact(by decide:8≤96)
 ·rintro e J (⟨rfl,h,rfl⟩|⟨rfl,h,rfl⟩)
  ·exact⟨_,List.mem_cons_self,h,rfl,rfl⟩
  ·exact⟨_,List.mem_cons_of_mem _ List.mem_cons_self,h,rfl,rfl⟩
def rtR(e:Ex)(J:JSt):Prop:=(e = .ret∧(QM (Je x l) (l.n-k) k).isNone=false∧J=V6)∨(e = .exit 0∧(QM (Je x l) (l.n-k) k).isNone=true∧J=rtE x l (alN l l.n) (tkN l l.n))
set_option maxHeartbeats 1600000 in
theorem QRS(hn:x.d.ps.n≤1000)(hs:l.n=x.scans.n)(hl:l.n≤1000):JJ (fun k=>rtJ x l (alN l k) (tkN l k) k) (fun k=>k≤l.n) (fun k=>l.n-k) (rtR x l) 8 QJ4 [] (mkS Try.prog Jb) (fun k=>rtI Try.prog x l (alN l k) (i64.wrap (tkN l k+1)) k (eqN l k)) (QX Try.f36 0):=by
 refine⟨fun k g hk=>Q2 (QYX x l (alN l k) (tkN l k) (i64.wrap (tkN l k+1)) (eqN l k) k g) ?_⟩;have hw:i64.wrap ((x.d.ps.n:Int)-1)=(x.d.ps.n:Int)-1:=w64 (by omega) (by omega)
 refine QG (fun b0 => ?_) (fun b0 => ?_)
 ·refine QF (by first|rfl|(simp at b0 ⊢;omega)|grind) ?_
  refine QF (by first|rfl|(simp at b0 ⊢;omega)|grind) ?_
  refine QG (fun b1 => ?_) (fun b1 => ?_)
  ·refine QF (by first|rfl|(simp at b0 ⊢;omega)|grind) ?_
   refine QF (by first|rfl|(simp at b0 ⊢;omega)|grind) ?_
   refine QG (fun b2 => ?_) (fun b2 => ?_)
   ·have h:k<l.n:=by have:=qdt b0;omega
    exact⟨_,.inl ⟨rfl,qW h (by unfold Je;rw[b1,cond_true];exact b2),rfl⟩,rfl,rfl,_,QXP,⟨rfl,trivial⟩⟩
   ·have h:k<l.n:=by have:=qdt b0;omega
    have e1:i64.wrap (alN l k+1)=alN l (k+1):=by rw[alN,b1];rfl
    have e2:tkN l k=tkN l (k+1):=by rw[tkN,b1];rfl
    refine⟨k+1,h,by show l.n-(k+1)<l.n-k;omega,fun e J r=>by unfold rtR at r ⊢;rw[jT h (by unfold Je;rw[b1,cond_true];exact b2)];exact r,rfl,rfl,_,QRd ..,?_⟩
    repeat' first|with_reducible refine QQ ?_ ?_|exact trivial|with_reducible rfl|exact qlr _|exact qRr|exact Kn h (by omega)|exact e1|exact e2|refine And.intro ?_ ?_
  ·refine QF (by first|rfl|(simp at b0 ⊢;omega)|grind) ?_
   refine QF (by first|rfl|(simp at b0 ⊢;omega)|grind) ?_
   refine QF (by first|rfl|(simp at b0 ⊢;omega)|grind) ?_
   refine QF ?_ ?_
   ·have h:k<l.n:=by have:=qdt b0;omega
    rw[show(decide ((0:Int)≤(k:Int)∧(k:Int)<(l.n:Int))&&decide (l.n≤l.n))=true by simp;omega]
    cases QW (l.get k).cell 0 (i64.wrap ((x.d.ps.n:Int)-1))<;>rfl
   refine QF (by first|rfl|(simp at b0 ⊢;omega)|grind) ?_
   refine QF ?_ ?_
   ·have h:k<l.n:=by have:=qdt b0;omega
    rw[decide_eq_true h];cases QW (l.get k).cell 0 (i64.wrap ((x.d.ps.n:Int)-1))<;>rfl
   refine QF (by first|rfl|(simp at b0 ⊢;omega)|grind) ?_
   refine QF (by first|rfl|(simp at b0 ⊢;omega)|grind) ?_
   refine QF (by first|rfl|(simp at b0 ⊢;omega)|grind) ?_
   refine Qz fun z0 y0 => ?_;refine QF (by first|rfl|(simp at b0 ⊢;omega)|grind) ?_
   refine QF (by first|rfl|(simp at b0 ⊢;omega)|grind) ?_
   refine QF ?_ ?_
   ·have h:k<l.n:=by have:=qdt b0;omega
    rw[show(decide ((0:Int)≤(k:Int)∧(k:Int)<(x.scans.n:Int))&&decide (x.scans.n≤x.scans.n))=true by simp;omega]
    cases z0<;>rfl
   refine QF ?_ ?_
   ·have h:k<l.n:=by have:=qdt b0;omega
    rw[decide_eq_true (show k<x.scans.n by omega)]
    cases z0<;>rfl
   refine QF ?_ ?_
   ·have h:k<l.n:=by have:=qdt b0;omega
    rw[show(decide ((0:Int)≤(k:Int)∧(k:Int)<(l.n:Int))&&decide (l.n≤l.n))=true by simp;omega]
    cases z0<;>rfl
   refine QF ?_ ?_
   ·have h:k<l.n:=by have:=qdt b0;omega
    rw[decide_eq_true h];cases z0<;>rfl
   refine QF ?_ ?_
   ·cases z0 with
    | true=>rfl
    | false=>
     simp only[QW,hw,qbA,qdE,Bool.or_eq_false_iff,Bool.not_eq_false',Bool.false_eq]at y0;simp;omega
   refine QF (by first|rfl|(simp at b0 ⊢;omega)|grind) ?_
   refine QF (by first|rfl|(simp at b0 ⊢;omega)|grind) ?_
   refine Qz fun z1 y1 => ?_;refine QG (fun b3 => ?_) (fun b3 => ?_)
   ·have h:k<l.n:=by have:=qdt b0;omega
    exact⟨_,.inl ⟨rfl,qW h (by unfold Je;rw[b1,cond_false,←y0,←y1,b3];rfl),rfl⟩,rfl,rfl,_,QR6,⟨rfl,trivial⟩⟩
   ·iterate 37 refine Qa (by first|with_reducible rfl|exact qlr _|exact qRr|exact QY _ _ _ _|exact trivial|(have:=qdt b0;omega)) ?_
    refine Xf ?_ ?_
    ·refine KJ fun a0 => ?_;refine KF fun g0 => ?_;have h:k<l.n:=by have:=qdt b0;omega
     exact⟨_,.inl ⟨rfl,qW h (by unfold Je;rw[b1,cond_false,←y0,←y1,b3,show(QM (eqC l k) k 0).isNone=false from a0];rfl),rfl⟩,rfl,rfl,_,QVX,⟨rfl,trivial⟩⟩
    ·refine KJ fun a1 => ?_;refine KF fun g1 => ?_;have h:k<l.n:=by have:=qdt b0;omega
     have e1:alN l k=alN l (k+1):=by rw[alN,b1];rfl
     have e2:i64.wrap (tkN l k+1)=tkN l (k+1):=by rw[tkN,b1];rfl
     refine⟨k+1,h,by show l.n-(k+1)<l.n-k;omega,fun e J r=>by unfold rtR at r ⊢;rw[jT h (by unfold Je;rw[b1,cond_false,←y0,←y1,b3,show(QM (eqC l k) k 0).isNone=true from a1];rfl)];exact r,rfl,rfl,_,QPJ ..,?_⟩
     repeat' first|with_reducible refine QQ ?_ ?_|exact trivial|with_reducible rfl|exact qlr _|exact qRr|exact Kn h (by omega)|exact e1|exact e2|refine And.intro ?_ ?_
 ·have h:k=l.n:=by have:=of_decide_eq_false b0;omega
  subst h;refine⟨_,.inr ⟨rfl,zZ (qlr _),rfl⟩,rfl,rfl,_,QU3 ..,?_⟩
  repeat' first|with_reducible refine QQ ?_ ?_|exact trivial|with_reducible rfl|exact qlr _|exact qRr|refine And.intro ?_ ?_
end Go.Proofs.Ytbpffdkemeoajaa
