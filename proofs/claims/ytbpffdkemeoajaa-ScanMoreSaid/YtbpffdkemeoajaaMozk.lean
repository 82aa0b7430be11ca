/- - -/
import Derived.Test.YtbpffdkemeoajaaMozj
open Go.IntKind (i64)
set_option maxRecDepth 100000
namespace Go.Proofs.Ytbpffdkemeoajaa
open Go Go.SX
variable {x:QB}
theorem Wd{c s:Int}(h:Vw x c s=false):x.d.ps.n≤14∧x.scans.n≤18∧x.hang.n≤18:=by
 simp only[Vw,Bool.or_eq_false_iff,decide_eq_false_iff_not]at h;omega
theorem jU(h:x.d.ps.n≤14∧x.scans.n≤18∧x.hang.n≤18):(decide (x.d.ps.n≤x.d.ps.n)&&(decide (x.scans.n≤x.scans.n)&&(decide (x.hang.n≤x.hang.n)&&true))&&decide (x.d.ps.n≤(1000:Nat)∧x.scans.n≤(1000:Nat)∧x.hang.n≤(1000:Nat)))=true:=by
 simp;omega
theorem QCK(hx:x.ok=true):(0≤x.lost∧x.lost≤9)∧0≤x.foreign∧x.foreign≤3:=by
 simp only[QB.ok,QB.sz,Qa,qbA,qdE]at hx;omega
theorem QQK(hx:x.ok=true):(moX x).ok=true:=by
 obtain⟨h1,h2⟩:=QCK hx;have w1:i64.wrap (x.lost+1)=x.lost+1:=w64 (by omega) (by omega)
 have w2:i64.wrap (x.foreign+1)=x.foreign+1:=w64 (by omega) (by omega)
 simp only[QB.ok,QB.sz,Qa,qbA,qdE]at hx ⊢;obtain⟨⟨a1,a2,_,_⟩,a3⟩:=hx;refine⟨⟨a1,a2,?_,?_⟩,a3⟩
 ·show 0≤min 9 (i64.wrap (x.lost+1))∧min 9 (i64.wrap (x.lost+1))≤9;omega
 ·show 0≤min 3 (i64.wrap (x.foreign+1))∧min 3 (i64.wrap (x.foreign+1))≤3;omega
theorem QTY(hx:x.ok=true):Jg x (moX x):=by
 obtain⟨h1,h2⟩:=QCK hx;have w1:i64.wrap (x.lost+1)=x.lost+1:=w64 (by omega) (by omega)
 have w2:i64.wrap (x.foreign+1)=x.foreign+1:=w64 (by omega) (by omega)
 exact QNq (by rw[w1];omega) (by rw[w2];omega)
theorem QMA(hx:x.ok=true)(two:Bool){sc:Nat→QK}(h:two=true→Jg { x with scans:=⟨x.scans.n,sc⟩ } x):moP two x sc:=by
 obtain⟨h1,h2⟩:=QCK hx;have w1:i64.wrap (x.lost-1)=x.lost-1:=w64 (by omega) (by omega)
 have w2:i64.wrap (x.foreign-1)=x.foreign-1:=w64 (by omega) (by omega)
 refine⟨hx,fun j => ?_⟩
 match j with
 | 0=>exact QFu (x:=x) (lo:=moL x) (fo:=x.foreign) (by unfold moL;rw[w1];omega) (Int.le_refl _)
 | 1=>exact QFu (x:=x) (lo:=x.lost) (fo:=moF x) (Int.le_refl _) (by unfold moF;rw[w2];omega)
 | j+2=>
  cases two with
  | true=>exact h rfl
  | false=>exact QXD x
theorem QVk{m n:Nat}{f g:Nat→Nat→Int}:QE m n (Qd 0 f g) g:=fun i _=>by
 have e:Qd 0 f g i=g i:=funext fun j=>by rw[XP,if_neg (Nat.not_lt_zero _),Nat.sub_zero]
 show eqF m 0 (Qd 0 f g i) (g i);rw[e];exact YB _ _ _
theorem QRF(x:QB)(wh:U8n)(h0:0≤wh.n∧wh.n≤255)(hn:0<x.scans.n):moK x wh<x.scans.n∧(i64.wrap wh.n).tmod (x.scans.n:Int)=(moK x wh:Int):=by
 unfold moK;have w:i64.wrap wh.n=wh.n:=w64 (by omega) (by omega)
 rw[w,Int.tmod_eq_emod_of_nonneg h0.1];have h1:=Int.emod_nonneg wh.n (show(x.scans.n:Int)≠0 by omega)
 have h2:=Int.emod_lt_of_pos wh.n (show 0<(x.scans.n:Int) by omega)
 omega
def QAS:WF (QB×U8n×U8n×Unit):=fun|(x,(wh,(b,_)))=>(decide ((0≤wh.n∧wh.n≤255)∧0≤b.n∧b.n≤255),.bool false true,[])
noncomputable abbrev QKM(x:QB):Int:=
  (↑(BitVec.ofInt 64 (loO x).al &&& ~~~BitVec.ofInt 64 (QF (QB.mk x.d x.scans x.hang (min (9:Int) (i64.wrap (x.lost+1))) (min (3:Int) (i64.wrap (x.foreign
  + 1))))).2.1).toNat:Int)
theorem QTH(x:QB)(wh:U8n)(b:U8n):Ka (mkS Try.prog KT) (moH Try.prog x wh b) Try.f9 (QY.vals 0 ((x,wh,b,()):QB×U8n×U8n×Unit)) (QY.blks 0 ((x,wh,b,()):QB×U8n×U8n×Unit)) 8 =
  .need (decide (x.d.ps.n≤x.d.ps.n)&&(decide (x.scans.n≤x.scans.n)&&(decide (x.hang.n≤x.hang.n)&&(true&&(true&&true))))&&true) (.need (!!Vw x (4:Int) (4:Int)
  || decide (x.d.ps.n≤x.d.ps.n)&&(decide (x.scans.n≤x.scans.n)&&(decide (x.hang.n≤x.hang.n)&&true))&&decide (x.d.ps.n≤1000∧x.scans.n≤1000∧x.hang.n≤1000) &&
  !Vw x (4:Int) (4:Int)) (.need (!!Vw x (4:Int) (4:Int) || !Vw x (4:Int) (4:Int)) (.need (Vw x (4:Int) (4:Int) || !Vw x (4:Int) (4:Int)) (.bnd
  (Vw x (4:Int) (4:Int) || !x.ok) (fun(x0:Bool) => .br (x0) (.leaf (.bool true true) ([])) (.need (decide (x.d.ps.n≤x.d.ps.n)&&(decide (x.scans.n≤x.scans.n) &&
  (decide (x.hang.n≤x.hang.n)&&true))&&decide (x.d.ps.n≤1000∧x.scans.n≤1000∧x.hang.n≤1000)) (.need (decide (x.d.ps.n≤x.d.ps.n)&&(decide (x.scans.n≤x.scans.n) &&
  (decide (x.hang.n≤x.hang.n)&&true))&&decide (x.d.ps.n≤1000∧x.scans.n≤1000∧x.hang.n≤1000)) (.br (decide ((x.scans.n:Int)>0)) (.need (!decide ((x.scans.n:Int) =
  0)) (.need (true&&(decide (x.scans.n≤x.scans.n)&&decide ((0+x.scans.n+(0+x.scans.n) / 4+192)*224≤281474976710656∧0+x.scans.n≤9223372036854775807))) (.ask
  (moK x wh<x.scans.n) (.ask (b.n=b.n) (.ask (0=0) (.ask (0=0) (.ask (0=0) (.ask ((QF x).1.length=(loO x).cells.length) (.ask (cO=cO) (.ask ((QF
  x).2.1=(loO x).al) (.ask ((QF x).2.2=(loO x).e) (.ask (0=0) (.ask ((QL x).1.length=(loO x).told.length) (.ask (cO=cO) (.ask (0=0) (.ask (3=3) (.ask
  (Cap.lit 3=Cap.lit 3) (.ask ((i64.wrap wh.n).tmod (x.scans.n:Int)=(↑(moK x wh):Int)) (.ask ((0:Int)=0) (.ask (x.scans.n≤0+x.scans.n) (.ask (QE 28
  x.scans.n (Qd 0 (fun x x_1=>(0:Int)) fun i=>QA.enc (x.scans.get i)) fun i=>QA.enc (x.scans.get i)) (.ask (x.d.play.length=x.d.play.length) (.ask (x.d.play.slack =
  x.d.play.slack) (.ask (x.d.play.loose=x.d.play.loose) (.ask (x.d.play.damp.lo=x.d.play.damp.lo) (.ask (x.d.play.damp.hi=x.d.play.damp.hi) (.ask (x.d.wide=x.d.wide) (.ask
  (x.d.high=x.d.high) (.ask (x.d.turn=x.d.turn) (.ask (0=0) (.ask (x.d.ps.n=x.d.ps.n) (.ask (cO=cO) (.ask (0=0) (.ask (x.scans.n=x.scans.n) (.ask (cO =
  cO) (.ask (0=0) (.ask (x.hang.n=x.hang.n) (.ask (cO=cO) (.ask (max (0:Int) (i64.wrap (x.lost-1))=moL x) (.ask (x.foreign=x.foreign) (.ask
  (x.d.play.length=x.d.play.length) (.ask (x.d.play.slack=x.d.play.slack) (.ask (x.d.play.loose=x.d.play.loose) (.ask (x.d.play.damp.lo=x.d.play.damp.lo) (.ask
  (x.d.play.damp.hi=x.d.play.damp.hi) (.ask (x.d.wide=x.d.wide) (.ask (x.d.high=x.d.high) (.ask (x.d.turn=x.d.turn) (.ask (0=0) (.ask (x.d.ps.n=x.d.ps.n) (.ask (cO =
  cO) (.ask (0=0) (.ask (x.scans.n=x.scans.n) (.ask (cO=cO) (.ask (0=0) (.ask (x.hang.n=x.hang.n) (.ask (cO=cO) (.ask (x.lost=x.lost) (.ask
  (max (0:Int) (i64.wrap (x.foreign-1))=moF x) (.ask (x.d.play.length=x.d.play.length) (.ask (x.d.play.slack=x.d.play.slack) (.ask (x.d.play.loose=x.d.play.loose)
  (.ask (x.d.play.damp.lo=x.d.play.damp.lo) (.ask (x.d.play.damp.hi=x.d.play.damp.hi) (.ask (x.d.wide=x.d.wide) (.ask (x.d.high=x.d.high) (.ask (x.d.turn=x.d.turn) (.ask (0
  = 0) (.ask (x.d.ps.n=x.d.ps.n) (.ask (cO=cO) (.ask (0=0) (.ask (0+x.scans.n=x.scans.n) (.ask (cO=cO) (.ask (0=0) (.ask (x.hang.n=x.hang.n)
  (.ask (cO=cO) (.ask (x.lost=x.lost) (.ask (x.foreign=x.foreign) (.ask ((loO x).told.length≤(QL x).1.length) (.ask (QE 2 (loO x).told.length (fun i=>
  QA.enc ((QL x).1.getD i ⟨0,0⟩)) fun i=>QA.enc ((loO x).told.getD i ⟨0,0⟩)) (.ask ((loO x).cells.length≤(QF x).1.length) (.ask (QE 1 (loO x).cells.length (fun i
  => QA.enc ((QF x).1.getD i 0)) fun i=>QA.enc ((loO x).cells.getD i 0)) (.ask (x.d.play.length=x.d.play.length) (.ask (x.d.play.slack=x.d.play.slack) (.ask
  (x.d.play.loose=x.d.play.loose) (.ask (x.d.play.damp.lo=x.d.play.damp.lo) (.ask (x.d.play.damp.hi=x.d.play.damp.hi) (.ask (x.d.wide=x.d.wide) (.ask (x.d.high=x.d.high)
  (.ask (x.d.turn=x.d.turn) (.ask (0=0) (.ask (x.d.ps.n=x.d.ps.n) (.ask (cO=cO) (.ask (0=0) (.ask (x.scans.n=x.scans.n) (.ask (cO=cO) (.ask (0 =
  0) (.ask (x.hang.n=x.hang.n) (.ask (cO=cO) (.ask (x.lost=x.lost) (.ask (x.foreign=x.foreign) (.ask (x.d.ps.n≤x.d.ps.n) (.ask (QE 28 x.d.ps.n (fun i=>
  QA.enc (x.d.ps.get i)) fun i=>QA.enc (x.d.ps.get i)) (.ask (x.scans.n≤x.scans.n) (.ask (QE 28 x.scans.n (fun i=>QA.enc (x.scans.get i)) fun i=>QA.enc
  (x.scans.get i)) (.ask (x.hang.n≤x.hang.n) (.ask (QE 4 x.hang.n (fun i=>QA.enc (x.hang.get i)) fun i=>QA.enc (x.hang.get i)) (.asm (True) (.all (fun(g1:Nat→Value)
  => .ask (moP true x (thS x (moK x wh) b.n)) (.ask (0=0) (.ask (0=0) (.ask (0=0) (.ask ((loO x).cells.length=(loO x).cells.length) (.ask (cO=cO) (.ask ((loO
  x).al=(loO x).al) (.ask ((loO x).e=(loO x).e) (.ask (0=0) (.ask ((loO x).told.length=(loO x).told.length) (.ask (cO=cO) (.ask (0=0) (.ask (3=3) (.ask
  (Cap.lit 3=Cap.lit 3) (.ask ((3:Int)=3) (.ask ((0:Int)=0) (.ask (x.scans.n≤x.scans.n) (.ask (QE 28 x.scans.n (fun i=>QA.enc (thS x (moK x wh) b.n i)) fun i=>
  QA.enc (thS x (moK x wh) b.n i)) (.ask (x.d.play.length=x.d.play.length) (.ask (x.d.play.slack=x.d.play.slack) (.ask (x.d.play.loose=x.d.play.loose) (.ask (x.d.play.damp.lo
  = x.d.play.damp.lo) (.ask (x.d.play.damp.hi=x.d.play.damp.hi) (.ask (x.d.wide=x.d.wide) (.ask (x.d.high=x.d.high) (.ask (x.d.turn=x.d.turn) (.ask (0=0) (.ask (x.d.ps.n =
  x.d.ps.n) (.ask (cO=cO) (.ask (0=0) (.ask (x.scans.n=x.scans.n) (.ask (cO=cO) (.ask (0=0) (.ask (x.hang.n=x.hang.n) (.ask (cO=cO)
  (.ask (moL x=moL x) (.ask (x.foreign=x.foreign) (.ask (x.d.play.length=x.d.play.length) (.ask (x.d.play.slack=x.d.play.slack) (.ask (x.d.play.loose=x.d.play.loose) (.ask
  (x.d.play.damp.lo=x.d.play.damp.lo) (.ask (x.d.play.damp.hi=x.d.play.damp.hi) (.ask (x.d.wide=x.d.wide) (.ask (x.d.high=x.d.high) (.ask (x.d.turn=x.d.turn) (.ask (0=0)
  (.ask (x.d.ps.n=x.d.ps.n) (.ask (cO=cO) (.ask (0=0) (.ask (x.scans.n=x.scans.n) (.ask (cO=cO) (.ask (0=0) (.ask (x.hang.n=x.hang.n) (.ask
  (cO=cO) (.ask (x.lost=x.lost) (.ask (moF x=moF x) (.ask (x.d.play.length=x.d.play.length) (.ask (x.d.play.slack=x.d.play.slack) (.ask (x.d.play.loose =
  x.d.play.loose) (.ask (x.d.play.damp.lo=x.d.play.damp.lo) (.ask (x.d.play.damp.hi=x.d.play.damp.hi) (.ask (x.d.wide=x.d.wide) (.ask (x.d.high=x.d.high) (.ask (x.d.turn =
  x.d.turn) (.ask (0=0) (.ask (x.d.ps.n=x.d.ps.n) (.ask (cO=cO) (.ask (0=0) (.ask (x.scans.n=x.scans.n) (.ask (cO=cO) (.ask (0=0) (.ask (x.hang.n
  = x.hang.n) (.ask (cO=cO) (.ask (x.lost=x.lost) (.ask (x.foreign=x.foreign) (.ask ((loO x).told.length≤(loO x).told.length) (.ask (QE 2 (loO x).told.length
  (fun i=>QA.enc ((loO x).told.getD i ⟨0,0⟩)) fun i=>QA.enc ((loO x).told.getD i ⟨0,0⟩)) (.ask ((loO x).cells.length≤(loO x).cells.length) (.ask (QE 1 (loO
  x).cells.length (fun i=>QA.enc ((loO x).cells.getD i 0)) fun i=>QA.enc ((loO x).cells.getD i 0)) (.ask (x.d.play.length=x.d.play.length) (.ask (x.d.play.slack =
  x.d.play.slack) (.ask (x.d.play.loose=x.d.play.loose) (.ask (x.d.play.damp.lo=x.d.play.damp.lo) (.ask (x.d.play.damp.hi=x.d.play.damp.hi) (.ask (x.d.wide=x.d.wide) (.ask
  (x.d.high=x.d.high) (.ask (x.d.turn=x.d.turn) (.ask (0=0) (.ask (x.d.ps.n=x.d.ps.n) (.ask (cO=cO) (.ask (0=0) (.ask (x.scans.n=x.scans.n) (.ask (cO =
  cO) (.ask (0=0) (.ask (x.hang.n=x.hang.n) (.ask (cO=cO) (.ask (x.lost=x.lost) (.ask (x.foreign=x.foreign) (.ask (x.d.ps.n≤x.d.ps.n) (.ask (QE 28
  x.d.ps.n (fun i=>QA.enc (x.d.ps.get i)) fun i=>QA.enc (x.d.ps.get i)) (.ask (x.scans.n≤x.scans.n) (.ask (QE 28 x.scans.n (fun i=>QA.enc (x.scans.get i)) fun i=>
  QA.enc (x.scans.get i)) (.ask (x.hang.n≤x.hang.n) (.ask (QE 4 x.hang.n (fun i=>QA.enc (x.hang.get i)) fun i=>QA.enc (x.hang.get i)) (.asm (True) (.all (fun(g2:Nat
  → Value) => .need (decide (x.d.ps.n≤x.d.ps.n)&&(decide (x.scans.n≤x.scans.n)&&(decide (x.hang.n≤x.hang.n)&&true))&&decide (x.d.ps.n≤1000∧x.scans.n≤1000 ∧
  x.hang.n≤1000)) (.br ((loO x).e != 0) (.leaf (.bool true true) ([])) (.need (!!(QF (QB.mk x.d x.scans x.hang (min (9:Int) (i64.wrap (x.lost+1))) (min (3:Int)
  (i64.wrap (x.foreign+1))))).2.2 != 0 || !(QF (QB.mk x.d x.scans x.hang (min (9:Int) (i64.wrap (x.lost+1))) (min (3:Int) (i64.wrap (x.foreign +
  1))))).2.2 != 0) (.need (!!(QF (QB.mk x.d x.scans x.hang (min (9:Int) (i64.wrap (x.lost+1))) (min (3:Int) (i64.wrap (x.foreign+1))))).2.2 != 0 ||
  !(QF (QB.mk x.d x.scans x.hang (min (9:Int) (i64.wrap (x.lost+1))) (min (3:Int) (i64.wrap (x.foreign+1))))).2.2 != 0) (.need (!!(QF (QB.mk x.d
  x.scans x.hang (min (9:Int) (i64.wrap (x.lost+1))) (min (3:Int) (i64.wrap (x.foreign+1))))).2.2 != 0 || !(QF (QB.mk x.d x.scans x.hang (min (9:Int)
  (i64.wrap (x.lost+1))) (min (3:Int) (i64.wrap (x.foreign+1))))).2.2 != 0 && !(QF (QB.mk x.d x.scans x.hang (min (9:Int) (i64.wrap (x.lost +
  1))) (min (3:Int) (i64.wrap (x.foreign+1))))).2.2 != 0) (.need ((QF (QB.mk x.d x.scans x.hang (min (9:Int) (i64.wrap (x.lost+1))) (min (3:Int)
  (i64.wrap (x.foreign+1))))).2.2 != 0 || !(QF (QB.mk x.d x.scans x.hang (min (9:Int) (i64.wrap (x.lost+1))) (min (3:Int) (i64.wrap (x.foreign +
  1))))).2.2 != 0) (.bnd ((QF (QB.mk x.d x.scans x.hang (min (9:Int) (i64.wrap (x.lost+1))) (min (3:Int) (i64.wrap (x.foreign+1))))).2.2 != 0 ||
  (↑(QF (QB.mk x.d x.scans x.hang (min (9:Int) (i64.wrap (x.lost+1))) (min (3:Int) (i64.wrap (x.foreign+1))))).1.length:Int) != (↑(loO x).cells.length
  : Int)) (fun(x3:Bool) => .need (!!x3 || !x3 && !x3) (.need (!!x3 || !x3) (.need (x3 || !x3) (.bnd (x3||i64.wrap (QKM x) != 0) (fun(x4:Bool) => .br (x4) (.leaf
  (.bool true false) ([])) (.ask (jS (loO x) (QF (moX x)).1) (.ask (0=0) (.ask ((loO x).cells.length=(loO x).cells.length) (.ask (cO=cO) (.ask (0=0) (.ask
  ((QF (QB.mk x.d x.scans x.hang (min (9:Int) (i64.wrap (x.lost+1))) (min (3:Int) (i64.wrap (x.foreign+1))))).1.length=(QF (moX x)).1.length)
  (.ask (cO=cO) (.ask ((↑(QF (QB.mk x.d x.scans x.hang (min (9:Int) (i64.wrap (x.lost+1))) (min (3:Int) (i64.wrap (x.foreign +
  1))))).1.length:Int)=(↑(QF (moX x)).1.length:Int)) (.ask ((0:Int)=0) (.ask ((QF (moX x)).1.length≤(QF (QB.mk x.d x.scans x.hang (min (9:Int)
  (i64.wrap (x.lost+1))) (min (3:Int) (i64.wrap (x.foreign+1))))).1.length) (.ask (QE 1 (QF (moX x)).1.length (fun i=>QA.enc ((QF (QB.mk x.d
  x.scans x.hang (min (9:Int) (i64.wrap (x.lost+1))) (min (3:Int) (i64.wrap (x.foreign+1))))).1.getD i 0)) fun i=>QA.enc ((QF (moX x)).1.getD i 0))
  (.ask ((loO x).cells.length≤(loO x).cells.length) (.ask (QE 1 (loO x).cells.length (fun i=>QA.enc ((loO x).cells.getD i 0)) fun i=>QA.enc ((loO x).cells.getD i 0))
  (.asm (True) (.all (fun(g5:Nat→Value) => .leaf (.bool true true)
  ([]))))))))))))))))))))))))))))))))))))))))))))))))))))))))))))))))))))))))))))))))))))))))))))))))))))))))))))))))))))))))))))))))))))))))))))))))))))))))))))))))))))))))))))))))))))))))))))))))))))))))))))))))))))))))))))))))))))))))))))))))))))
  (.ask (moP false x x.scans.get) (.ask (0=0) (.ask (0=0) (.ask (0=0) (.ask ((QF x).1.length=(loO x).cells.length) (.ask (cO=cO) (.ask ((QF x).2.1 =
  (loO x).al) (.ask ((QF x).2.2=(loO x).e) (.ask (0=0) (.ask ((QL x).1.length=(loO x).told.length) (.ask (cO=cO) (.ask (0=0) (.ask (3=3) (.ask (Cap.lit
  3=Cap.lit 3) (.ask ((3:Int)=3) (.ask ((0:Int)=0) (.ask (x.d.play.length=x.d.play.length) (.ask (x.d.play.slack=x.d.play.slack) (.ask (x.d.play.loose=x.d.play.loose)
  (.ask (x.d.play.damp.lo=x.d.play.damp.lo) (.ask (x.d.play.damp.hi=x.d.play.damp.hi) (.ask (x.d.wide=x.d.wide) (.ask (x.d.high=x.d.high) (.ask (x.d.turn=x.d.turn) (.ask (0
  = 0) (.ask (x.d.ps.n=x.d.ps.n) (.ask (cO=cO) (.ask (0=0) (.ask (x.scans.n=x.scans.n) (.ask (cO=cO) (.ask (0=0) (.ask (x.hang.n=x.hang.n) (.ask
  (cO=cO) (.ask (max (0:Int) (i64.wrap (x.lost-1))=moL x) (.ask (x.foreign=x.foreign) (.ask (x.d.play.length=x.d.play.length) (.ask (x.d.play.slack =
  x.d.play.slack) (.ask (x.d.play.loose=x.d.play.loose) (.ask (x.d.play.damp.lo=x.d.play.damp.lo) (.ask (x.d.play.damp.hi=x.d.play.damp.hi) (.ask (x.d.wide=x.d.wide) (.ask
  (x.d.high=x.d.high) (.ask (x.d.turn=x.d.turn) (.ask (0=0) (.ask (x.d.ps.n=x.d.ps.n) (.ask (cO=cO) (.ask (0=0) (.ask (x.scans.n=x.scans.n) (.ask (cO =
  cO) (.ask (0=0) (.ask (x.hang.n=x.hang.n) (.ask (cO=cO) (.ask (x.lost=x.lost) (.ask (max (0:Int) (i64.wrap (x.foreign-1))=moF x) (.ask
  (x.d.play.length=x.d.play.length) (.ask (x.d.play.slack=x.d.play.slack) (.ask (x.d.play.loose=x.d.play.loose) (.ask (x.d.play.damp.lo=x.d.play.damp.lo) (.ask
  (x.d.play.damp.hi=x.d.play.damp.hi) (.ask (x.d.wide=x.d.wide) (.ask (x.d.high=x.d.high) (.ask (x.d.turn=x.d.turn) (.ask (0=0) (.ask (x.d.ps.n=x.d.ps.n) (.ask (cO =
  cO) (.ask (0=0) (.ask (x.scans.n=x.scans.n) (.ask (cO=cO) (.ask (0=0) (.ask (x.hang.n=x.hang.n) (.ask (cO=cO) (.ask (x.lost=x.lost) (.ask
  (x.foreign=x.foreign) (.ask ((loO x).told.length≤(QL x).1.length) (.ask (QE 2 (loO x).told.length (fun i=>QA.enc ((QL x).1.getD i ⟨0,0⟩)) fun i=>QA.enc ((loO
  x).told.getD i ⟨0,0⟩)) (.ask ((loO x).cells.length≤(QF x).1.length) (.ask (QE 1 (loO x).cells.length (fun i=>QA.enc ((QF x).1.getD i 0)) fun i=>QA.enc ((loO
  x).cells.getD i 0)) (.ask (x.d.play.length=x.d.play.length) (.ask (x.d.play.slack=x.d.play.slack) (.ask (x.d.play.loose=x.d.play.loose) (.ask (x.d.play.damp.lo =
  x.d.play.damp.lo) (.ask (x.d.play.damp.hi=x.d.play.damp.hi) (.ask (x.d.wide=x.d.wide) (.ask (x.d.high=x.d.high) (.ask (x.d.turn=x.d.turn) (.ask (0=0) (.ask (x.d.ps.n =
  x.d.ps.n) (.ask (cO=cO) (.ask (0=0) (.ask (x.scans.n=x.scans.n) (.ask (cO=cO) (.ask (0=0) (.ask (x.hang.n=x.hang.n) (.ask (cO=cO)
  (.ask (x.lost=x.lost) (.ask (x.foreign=x.foreign) (.ask (x.d.ps.n≤x.d.ps.n) (.ask (QE 28 x.d.ps.n (fun i=>QA.enc (x.d.ps.get i)) fun i=>QA.enc (x.d.ps.get i))
  (.ask (x.scans.n≤x.scans.n) (.ask (QE 28 x.scans.n (fun i=>QA.enc (x.scans.get i)) fun i=>QA.enc (x.scans.get i)) (.ask (x.hang.n≤x.hang.n) (.ask (QE 4 x.hang.n
  (fun i=>QA.enc (x.hang.get i)) fun i=>QA.enc (x.hang.get i)) (.asm (True) (.all (fun(g6:Nat→Value) => .need (decide (x.d.ps.n≤x.d.ps.n)&&(decide (x.scans.n ≤
  x.scans.n)&&(decide (x.hang.n≤x.hang.n)&&true))&&decide (x.d.ps.n≤1000∧x.scans.n≤1000∧x.hang.n≤1000)) (.br ((loO x).e != 0) (.leaf (.bool true true) ([])) (.need
  (!!(QF (QB.mk x.d x.scans x.hang (min (9:Int) (i64.wrap (x.lost+1))) (min (3:Int) (i64.wrap (x.foreign+1))))).2.2 != 0 || !(QF (QB.mk x.d
  x.scans x.hang (min (9:Int) (i64.wrap (x.lost+1))) (min (3:Int) (i64.wrap (x.foreign+1))))).2.2 != 0) (.need (!!(QF (QB.mk x.d x.scans x.hang (min (9
  : Int) (i64.wrap (x.lost+1))) (min (3:Int) (i64.wrap (x.foreign+1))))).2.2 != 0 || !(QF (QB.mk x.d x.scans x.hang (min (9:Int) (i64.wrap
  (x.lost+1))) (min (3:Int) (i64.wrap (x.foreign+1))))).2.2 != 0) (.need (!!(QF (QB.mk x.d x.scans x.hang (min (9:Int) (i64.wrap (x.lost+1))) (min (3
  : Int) (i64.wrap (x.foreign+1))))).2.2 != 0 || !(QF (QB.mk x.d x.scans x.hang (min (9:Int) (i64.wrap (x.lost+1))) (min (3:Int) (i64.wrap
  (x.foreign+1))))).2.2 != 0 && !(QF (QB.mk x.d x.scans x.hang (min (9:Int) (i64.wrap (x.lost+1))) (min (3:Int) (i64.wrap (x.foreign+1))))).2.2 != 0)
  (.need ((QF (QB.mk x.d x.scans x.hang (min (9:Int) (i64.wrap (x.lost+1))) (min (3:Int) (i64.wrap (x.foreign+1))))).2.2 != 0 || !(QF (QB.mk x.d
  x.scans x.hang (min (9:Int) (i64.wrap (x.lost+1))) (min (3:Int) (i64.wrap (x.foreign+1))))).2.2 != 0) (.bnd ((QF (QB.mk x.d x.scans x.hang (min (9 :
  Int) (i64.wrap (x.lost+1))) (min (3:Int) (i64.wrap (x.foreign+1))))).2.2 != 0||(↑(QF (QB.mk x.d x.scans x.hang (min (9:Int) (i64.wrap
  (x.lost+1))) (min (3:Int) (i64.wrap (x.foreign+1))))).1.length:Int) != (↑(loO x).cells.length:Int)) (fun(x7:Bool) => .need (!!x7 || !x7 && !x7) (.need (!!x7 ||
  !x7) (.need (x7 || !x7) (.bnd (x7||i64.wrap (QKM x) != 0) (fun(x8:Bool) => .br (x8) (.leaf (.bool true false) ([])) (.ask (jS (loO x) (QF (moX x)).1) (.ask (0 =
  0) (.ask ((loO x).cells.length=(loO x).cells.length) (.ask (cO=cO) (.ask (0=0) (.ask ((QF (QB.mk x.d x.scans x.hang (min (9:Int) (i64.wrap (x.lost
  + 1))) (min (3:Int) (i64.wrap (x.foreign+1))))).1.length=(QF (moX x)).1.length) (.ask (cO=cO) (.ask ((↑(QF (QB.mk x.d x.scans x.hang (min (9
  : Int) (i64.wrap (x.lost+1))) (min (3:Int) (i64.wrap (x.foreign+1))))).1.length:Int)=(↑(QF (moX x)).1.length:Int)) (.ask ((0:Int)=0) (.ask
  ((QF (moX x)).1.length≤(QF (QB.mk x.d x.scans x.hang (min (9:Int) (i64.wrap (x.lost+1))) (min (3:Int) (i64.wrap (x.foreign+1))))).1.length)
  (.ask (QE 1 (QF (moX x)).1.length (fun i=>QA.enc ((QF (QB.mk x.d x.scans x.hang (min (9:Int) (i64.wrap (x.lost+1))) (min (3:Int) (i64.wrap
  (x.foreign+1))))).1.getD i 0)) fun i=>QA.enc ((QF (moX x)).1.getD i 0)) (.ask ((loO x).cells.length≤(loO x).cells.length) (.ask (QE 1 (loO x).cells.length (fun i=>
  QA.enc ((loO x).cells.getD i 0)) fun i=>QA.enc ((loO x).cells.getD i 0)) (.asm (True) (.all (fun(g9:Nat→Value) => .leaf (.bool true true)
  ([]))))))))))))))))))))))))))))))))))))))))))))))))))))))))))))))))))))))))))))))))))))))))))))))))))))))))))))))))))))))))))))))))))))))))))))):=by kernel_rfl
theorem QT2:K6 (mkS Try.prog KT) (Qr Try.f9) 8 QAS (fun x_=>(moH Try.prog x_.1 x_.2.1 x_.2.2.1)):=by
 refine⟨?_⟩;rintro⟨x,⟨wh,⟨b,⟨⟩⟩⟩⟩ hp G h1 h2;exact QSz x wh b G h1 h2
theorem QTA:K5 (mkS Try.prog KT) Try.f9 8 QAS (fun x_=>(moH Try.prog x_.1 x_.2.1 x_.2.2.1)):=by
 refine⟨?_⟩;rintro⟨x,⟨wh,⟨b,⟨⟩⟩⟩⟩ hp;refine⟨⟨rfl,by simp[QAS],rfl⟩,⟨?_⟩⟩
 rw[QTH x wh b];simp only[QAS]at hp;have ha:=qdt hp;refine QG (by simp) ?_
 refine QG ?_ ?_
 ·cases hq:Vw x 4 4 with
  | true=>rfl
  | false=>rw[jU (Wd hq)];rfl
 refine Kx ?_;refine K3 ?_;refine KY fun z0 y0 => ?_;refine QI (fun b0 => ?_) (fun b0 => ?_)
 ·exact Kg rfl rfl
 ·have hh:=y0.symm.trans b0;rw[Bool.or_eq_false_iff]at hh;have gr:=hh.1;have hx:x.ok=true:=by simpa using hh.2
  have lm:=fun he=>QMm (QQK hx) (QTY hx) he
  have h4:KM x=0→jS (loO x) (QF (moX x)).1:=fun he=>⟨by rw[(lm he).c];have:=Wd gr;show x.scans.n≤1000;omega,(lm he).l1,fun k hk=>by
   have:=(lm he).ce k (by rw[←(lm he).c];exact hk)
   show(i64.wrap ((BitVec.ofInt 64 ((QF x).1.getD k 0) &&& ~~~BitVec.ofInt 64 ((QF (moX x)).1.getD k 0)).toNat:Nat) != 0)=false;rw[this];rfl⟩
  have f1:KM x=0→((QF (moX x)).2.2 != 0||((QF (moX x)).1.length:Int) != ((QF x).1.length:Int))=false:=fun he=>by
   rw[V7,(lm he).e,(lm he).l1];simp
  have f2:KM x=0→(i64.wrap ((BitVec.ofInt 64 (QF x).2.1 &&& ~~~BitVec.ofInt 64 (QF (moX x)).2.1).toNat:Nat) != 0)=false:=fun he=>by
   rw[(lm he).al];rfl
  refine QG (by exact jU (Wd gr)) ?_
  refine QG (by exact jU (Wd gr)) ?_
  refine QI (fun b1 => ?_) (fun b1 => ?_)
  ·have hk:=QRF x wh ha.1 (by have:=qdt b1;omega)
   refine QG (by have:=qdt b1;simp;omega) ?_
   refine QG (by have:=Wd gr;simp;omega) ?_
   refine QU (by exact hk.1) ?_
   iterate 14 refine QU (by first|rfl|exact qlr _|exact qRr|exact trivial) ?_
   refine QU (by exact hk.2) ?_
   iterate 1 refine QU (by first|rfl|exact qlr _|exact qRr|exact trivial) ?_
   refine QU (by simp) ?_
   refine QU (by exact QVk) ?_
   iterate 50 refine QU (by first|rfl|exact qlr _|exact qRr|exact trivial) ?_
   refine QU (by simp) ?_
   iterate 35 refine QU (by first|rfl|exact qlr _|exact qRr|exact trivial) ?_
   refine KB fun a0 => ?_;refine KE fun g0 => ?_;refine QU (by exact QMA hx true fun _=>QTB (QQv hx _ ha.2.1 ha.2.2)) ?_
   iterate 103 refine QU (by first|rfl|exact qlr _|exact qRr|exact trivial) ?_
   refine KB fun a1 => ?_;refine KE fun g1 => ?_;refine QG (by exact jU (Wd gr)) ?_
   refine QI (fun b2 => ?_) (fun b2 => ?_)
   ·exact Kg rfl rfl
   ·have h0:KM x=0:=(V7 _).symm.trans (bne_eq_false_iff_eq.1 b2)
    iterate 2 refine Kx ?_
    refine J6 ?_;refine K3 ?_;refine KY fun z1 y1 => ?_;obtain rfl:z1=false:=y1.trans (f1 h0);refine J6 ?_;refine Kx ?_;refine K3 ?_;refine KY fun z2 y2 => ?_;obtain rfl:z2=false:=y2.trans ((Bool.false_or _).trans (f2 h0));refine QI (fun b3 => ?_) (fun b3 => ?_)
    ·cases b3
    ·refine QU (by exact h4 h0) ?_
     iterate 12 refine QU (by first|rfl|exact qlr _|exact qRr|exact trivial) ?_
     refine KB fun a2 => ?_;refine KE fun g2 => ?_;exact Kg rfl rfl
  ·refine QU (by exact QMA hx false fun h=>by cases h) ?_
   iterate 101 refine QU (by first|rfl|exact qlr _|exact qRr|exact trivial) ?_
   refine KB fun a3 => ?_;refine KE fun g3 => ?_;refine QG (by exact jU (Wd gr)) ?_
   refine QI (fun b4 => ?_) (fun b4 => ?_)
   ·exact Kg rfl rfl
   ·have h0:KM x=0:=(V7 _).symm.trans (bne_eq_false_iff_eq.1 b4)
    iterate 2 refine Kx ?_
    refine J6 ?_;refine K3 ?_;refine KY fun z3 y3 => ?_;obtain rfl:z3=false:=y3.trans (f1 h0);refine J6 ?_;refine Kx ?_;refine K3 ?_;refine KY fun z4 y4 => ?_;obtain rfl:z4=false:=y4.trans ((Bool.false_or _).trans (f2 h0));refine QI (fun b5 => ?_) (fun b5 => ?_)
    ·cases b5
    ·refine QU (by exact h4 h0) ?_
     iterate 12 refine QU (by first|rfl|exact qlr _|exact qRr|exact trivial) ?_
     refine KB fun a4 => ?_;refine KE fun g4 => ?_;exact Kg rfl rfl
end Go.Proofs.Ytbpffdkemeoajaa
