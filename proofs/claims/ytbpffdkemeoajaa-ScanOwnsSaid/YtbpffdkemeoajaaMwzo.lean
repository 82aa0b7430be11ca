/- - -/
import Derived.Test.YtbpffdkemeoajaaMwzn
set_option maxRecDepth 100000
namespace Go.Proofs.Ytbpffdkemeoajaa
open Go Go.SX
variable {x:QE}
theorem QYN{c s:Int}(h:jk x c s=false):x.d.ps.n≤14∧x.scans.n≤18∧x.hang.n≤18:=by
 simp only[jk,Bool.or_eq_false_iff,decide_eq_false_iff_not]at h;omega
theorem qe(h:x.d.ps.n≤14∧x.scans.n≤18∧x.hang.n≤18):(decide (x.d.ps.n≤x.d.ps.n)&&(decide (x.scans.n≤x.scans.n)&&(decide (x.hang.n≤x.hang.n)&&true))&&decide (x.d.ps.n≤(1000:Nat)∧x.scans.n≤(1000:Nat)∧x.hang.n≤(1000:Nat)))=true:=by
 simp;omega
theorem W5{m n:Nat}{f g:Nat→Nat→Int}:QC m n (Qa 0 f g) g:=fun i _=>by
 have e:Qa 0 f g i=g i:=funext fun j=>by rw[X6,if_neg (Nat.not_lt_zero _),Nat.sub_zero]
 show eqF m 0 (Qa 0 f g i) (g i);rw[e];exact Yk _ _ _
theorem QNs(x:QE):(owO x).cells.length≤x.scans.n∧(owO x).told.length=(owO x).cells.length∧(owO x).a.length≤x.scans.n∧(owO x).b.length≤x.scans.n:=by
 show(KO x).1.length≤x.scans.n∧(Kh x).1.length=(KO x).1.length∧(Qz x).1.length≤x.scans.n∧(Qz x).2.1.length≤x.scans.n;rw[QRI,QXx]
 by_cases h:V0 x=0
 ·obtain⟨hx,_,_⟩:=QVF h;have px:=((QHL x).2.2 h).len;have hl:∀ l∈Kr x,l.length=x.scans.n:=fun l hl=>((QAX hx).1 hl).len;rw[h,px];simp only[beq_self_eq_true,cond_true,QJO];refine⟨qlr _,by trivial,?_,?_⟩
  ·cases e:Kr x with
   | nil=>simp
   | cons a L=>rw[List.headD_cons,hl a (by rw[e];simp)];exact qlr _
  ·rw[List.getD_eq_getElem?_getD];cases e:(Kr x)[1]? with
   | none=>simp
   | some a=>rw[Option.getD_some,hl a (List.mem_of_getElem? e)];exact qlr _
 ·have e:(V0 x==0)=false:=by simpa using h
  rw[((QHL x).2.1 h).1,e];simp
theorem QYU(h:x.d.ps.n≤14∧x.scans.n≤18∧x.hang.n≤18):owP x:=by
 have:=QNs x;unfold owP;omega
def HC:WF (QE×Unit):=fun|(x,_)=>(true,.bool false true,[])
theorem QYV(x:QE):KR (mkS Try.prog KK) (owH Try.prog x) Try.f11 (QX.vals 0 ((x,()):QE×Unit)) (QX.blks 0 ((x,()):QE×Unit)) 8 = .need (decide (x.d.ps.n≤x.d.ps.n)&&(decide
  (x.scans.n≤x.scans.n)&&(decide (x.hang.n≤x.hang.n)&&(true&&(true&&true))))&&true) (.br (jk x (4:Int) (4:Int)) (.leaf (.bool true true) ([])) (.need (true &&
  (decide (x.d.ps.n≤x.d.ps.n)&&decide ((0+x.d.ps.n+(0+x.d.ps.n) / 4+192)*224≤281474976710656∧0+x.d.ps.n≤9223372036854775807))) (.need (true&&(decide (x.scans.n
  ≤ x.scans.n)&&decide ((0+x.scans.n+(0+x.scans.n) / 4+192)*224≤281474976710656∧0+x.scans.n≤9223372036854775807))) (.need (true&&(decide (x.hang.n≤x.hang.n) &&
  decide ((0+x.hang.n+(0+x.hang.n) / 4+192)*32≤281474976710656∧0+x.hang.n≤9223372036854775807))) (.need (decide (x.d.ps.n≤x.d.ps.n)&&(decide (x.scans.n ≤
  x.scans.n)&&(decide (x.hang.n≤x.hang.n)&&true))&&decide (x.d.ps.n≤1000∧x.scans.n≤1000∧x.hang.n≤1000)) (.need (decide (x.d.ps.n≤x.d.ps.n)&&(decide (x.scans.n ≤
  x.scans.n)&&(decide (x.hang.n≤x.hang.n)&&true))&&decide (x.d.ps.n≤1000∧x.scans.n≤1000∧x.hang.n≤1000)) (.need (decide (x.d.ps.n≤x.d.ps.n)&&(decide (x.scans.n ≤
  x.scans.n)&&(decide (x.hang.n≤x.hang.n)&&true))&&decide (x.d.ps.n≤1000∧x.scans.n≤1000∧x.hang.n≤1000)) (.need (true&&(decide ((KO x).1.length≤(KO
  x).1.length)&&decide ((0+(KO x).1.length+(0+(KO x).1.length) / 4+192)*8≤281474976710656∧0+(KO x).1.length≤9223372036854775807))) (.need (true &&
  (decide ((Kh x).1.length≤(Kh x).1.length)&&decide ((0+(Kh x).1.length+(0+(Kh x).1.length) / 4+192)*16≤281474976710656∧0+(Kh x).1.length ≤
  9223372036854775807))) (.need (true&&(decide ((Qz x).1.length≤(Qz x).1.length)&&decide ((0+(Qz x).1.length+(0+(Qz x).1.length) / 4+192)*16≤281474976710656
  ∧ 0+(Qz x).1.length≤9223372036854775807))) (.need (true&&(decide ((Qz x).2.1.length≤(Qz x).2.1.length)&&decide ((0+(Qz x).2.1.length+(0+(Qz x).2.1.length)
  / 4+192)*16≤281474976710656∧0+(Qz x).2.1.length≤9223372036854775807))) (.ask (owP x) (.ask (0=0) (.ask (0=0) (.ask (0=0) (.ask (0+x.d.ps.n=x.d.ps.n) (.ask
  (cO=cO) (.ask (0=0) (.ask (0+x.scans.n=x.scans.n) (.ask (cO=cO) (.ask (0=0) (.ask (0+x.hang.n=x.hang.n) (.ask (cO=cO) (.ask
  ((KO x).2.2=(owO x).e) (.ask ((Kh x).2=(owO x).f) (.ask ((Qz x).2.2.2=(owO x).g) (.ask (0=0) (.ask (0+(KO x).1.length=(owO x).cells.length) (.ask (Cap.of
  0=cO) (.ask (0=0) (.ask (0+(Kh x).1.length=(owO x).told.length) (.ask (cO=cO) (.ask (0=0) (.ask (0+(Qz x).1.length=(owO x).a.length) (.ask
  (cO=cO) (.ask (0=0) (.ask (0+(Qz x).2.1.length=(owO x).b.length) (.ask (cO=cO) (.ask (0=0) (.ask ((KO x).1.length=(owO x).cells.length)
  (.ask (cO=cO) (.ask (0=0) (.ask ((Kh x).1.length=(owO x).told.length) (.ask (cO=cO) (.ask (0=0) (.ask ((Qz x).1.length=(owO x).a.length)
  (.ask (cO=cO) (.ask (0=0) (.ask ((Qz x).2.1.length=(owO x).b.length) (.ask (cO=cO) (.ask ((↑(KO x).1.length:Int)=(↑(owO x).cells.length :
  Int)) (.ask ((0:Int)=0) (.ask ((owO x).cells.length≤(KO x).1.length) (.ask (QC 1 (owO x).cells.length (fun i=>QA.enc ((KO x).1.getD i 0)) (cI (owO x))) (.ask
  ((owO x).told.length≤(Kh x).1.length) (.ask (QC 2 (owO x).told.length (fun i=>QA.enc ((Kh x).1.getD i ⟨0,0⟩)) (sI (owO x).told)) (.ask ((owO x).a.length≤(Qz
  x).1.length) (.ask (QC 2 (owO x).a.length (fun i=>QA.enc ((Qz x).1.getD i ⟨0,0⟩)) fun i=>QA.enc ((owO x).a.getD i ⟨0,0⟩)) (.ask ((owO x).b.length≤(Qz
  x).2.1.length) (.ask (QC 2 (owO x).b.length (fun i=>QA.enc ((Qz x).2.1.getD i ⟨0,0⟩)) fun i=>QA.enc ((owO x).b.getD i ⟨0,0⟩)) (.ask (x.d.ps.n≤0+x.d.ps.n) (.ask
  (QC 28 x.d.ps.n (Qa 0 (fun x x_1=>(0:Int)) fun i=>QA.enc (x.d.ps.get i)) fun i=>QA.enc (x.d.ps.get i)) (.ask (x.scans.n≤0+x.scans.n) (.ask (QC 28
  x.scans.n (Qa 0 (fun x x_1=>(0:Int)) fun i=>QA.enc (x.scans.get i)) fun i=>QA.enc (x.scans.get i)) (.ask (x.hang.n≤0+x.hang.n) (.ask (QC 4 x.hang.n (Qa 0
  (fun x x_1=>(0:Int)) fun i=>QA.enc (x.hang.get i)) fun i=>QA.enc (x.hang.get i)) (.ask ((owO x).cells.length≤0+(KO x).1.length) (.ask (QC 1 (owO
  x).cells.length (Qa 0 (fun x x_1=>(0:Int)) fun i=>QA.enc ((KO x).1.getD i 0)) fun i=>QA.enc ((owO x).cells.getD i 0)) (.ask ((owO x).told.length≤0+(Kh
  x).1.length) (.ask (QC 2 (owO x).told.length (Qa 0 (fun x x_1=>(0:Int)) fun i=>QA.enc ((Kh x).1.getD i ⟨0,0⟩)) fun i=>QA.enc ((owO x).told.getD i ⟨0,0⟩))
  (.ask ((owO x).a.length≤0+(Qz x).1.length) (.ask (QC 2 (owO x).a.length (Qa 0 (fun x x_1=>(0:Int)) fun i=>QA.enc ((Qz x).1.getD i ⟨0,0⟩)) fun i=>QA.enc
  ((owO x).a.getD i ⟨0,0⟩)) (.ask ((owO x).b.length≤0+(Qz x).2.1.length) (.ask (QC 2 (owO x).b.length (Qa 0 (fun x x_1=>(0:Int)) fun i=>QA.enc ((Qz x).2.1.getD
  i ⟨0,0⟩)) fun i=>QA.enc ((owO x).b.getD i ⟨0,0⟩)) (.ask (x.d.play.length=x.d.play.length) (.ask (x.d.play.slack=x.d.play.slack) (.ask (x.d.play.loose=x.d.play.loose)
  (.ask (x.d.play.damp.lo=x.d.play.damp.lo) (.ask (x.d.play.damp.hi=x.d.play.damp.hi) (.ask (x.d.wide=x.d.wide) (.ask (x.d.high=x.d.high) (.ask (x.d.turn=x.d.turn) (.ask (0
  = 0) (.ask (x.d.ps.n=x.d.ps.n) (.ask (cO=cO) (.ask (0=0) (.ask (x.scans.n=x.scans.n) (.ask (cO=cO) (.ask (0=0) (.ask (x.hang.n=x.hang.n) (.ask
  (cO=cO) (.ask (x.lost=x.lost) (.ask (x.foreign=x.foreign) (.ask (x.d.ps.n≤x.d.ps.n) (.ask (QC 28 x.d.ps.n (fun i=>QA.enc (x.d.ps.get i)) fun i=>
  QA.enc (x.d.ps.get i)) (.ask (x.scans.n≤x.scans.n) (.ask (QC 28 x.scans.n (fun i=>QA.enc (x.scans.get i)) fun i=>QA.enc (x.scans.get i)) (.ask (x.hang.n≤x.hang.n)
  (.ask (QC 4 x.hang.n (fun i=>QA.enc (x.hang.get i)) fun i=>QA.enc (x.hang.get i)) (.asm (True) (.all (fun(g0:Nat→Value) => .ask (owP x) (.ask (0=0) (.ask (0=0)
  (.ask (0=0) (.ask (x.d.ps.n=x.d.ps.n) (.ask (cO=cO) (.ask (0=0) (.ask (x.scans.n=x.scans.n) (.ask (cO=cO) (.ask (0=0) (.ask (x.hang.n =
  x.hang.n) (.ask (cO=cO) (.ask ((owO x).e=(owO x).e) (.ask ((owO x).f=(owO x).f) (.ask ((owO x).g=(owO x).g) (.ask (0=0) (.ask ((owO x).cells.length=(owO
  x).cells.length) (.ask (cO=cO) (.ask (0=0) (.ask ((owO x).told.length=(owO x).told.length) (.ask (cO=cO) (.ask (0=0) (.ask ((owO x).a.length=(owO
  x).a.length) (.ask (cO=cO) (.ask (0=0) (.ask ((owO x).b.length=(owO x).b.length) (.ask (cO=cO) (.ask (0=0) (.ask (2=2) (.ask (Cap.lit 2=Cap.lit
  2) (.ask ((2:Int)=2) (.ask ((0:Int)=0) (.ask (0=0) (.ask ((owO x).a.length=(owO x).a.length) (.ask (cO=cO) (.ask ((↑(owO x).a.length:Int)=(↑(owO
  x).a.length:Int)) (.ask ((0:Int)=0) (.ask ((owO x).a.length≤(owO x).a.length) (.ask (QC 2 (owO x).a.length (fun i=>QA.enc ((owO x).a.getD i ⟨0,0⟩)) (sI (owO x).a))
  (.ask ((owO x).b.length≤(owO x).b.length) (.ask (QC 2 (owO x).b.length (fun i=>QA.enc ((owO x).b.getD i ⟨0,0⟩)) fun i=>QA.enc ((owO x).b.getD i ⟨0,0⟩)) (.ask (0=0)
  (.ask ((owO x).a.length=(owO x).a.length) (.ask (cO=cO) (.ask (0=0) (.ask ((owO x).b.length=(owO x).b.length) (.ask (cO=cO) (.ask (x.d.ps.n ≤
  x.d.ps.n) (.ask (QC 28 x.d.ps.n (fun i=>QA.enc (x.d.ps.get i)) fun i=>QA.enc (x.d.ps.get i)) (.ask (x.scans.n≤x.scans.n) (.ask (QC 28 x.scans.n (fun i=>QA.enc
  (x.scans.get i)) fun i=>QA.enc (x.scans.get i)) (.ask (x.hang.n≤x.hang.n) (.ask (QC 4 x.hang.n (fun i=>QA.enc (x.hang.get i)) fun i=>QA.enc (x.hang.get i)) (.ask
  ((owO x).cells.length≤(owO x).cells.length) (.ask (QC 1 (owO x).cells.length (fun i=>QA.enc ((owO x).cells.getD i 0)) fun i=>QA.enc ((owO x).cells.getD i 0)) (.ask
  ((owO x).told.length≤(owO x).told.length) (.ask (QC 2 (owO x).told.length (fun i=>QA.enc ((owO x).told.getD i ⟨0,0⟩)) fun i=>QA.enc ((owO x).told.getD i ⟨0,0⟩))
  (.ask ((owO x).a.length≤(owO x).a.length) (.ask (QC 2 (owO x).a.length (fun i=>QA.enc ((owO x).a.getD i ⟨0,0⟩)) fun i=>QA.enc ((owO x).a.getD i ⟨0,0⟩)) (.ask ((owO
  x).b.length≤(owO x).b.length) (.ask (QC 2 (owO x).b.length (fun i=>QA.enc ((owO x).b.getD i ⟨0,0⟩)) fun i=>QA.enc ((owO x).b.getD i ⟨0,0⟩)) (.ask (x.d.play.length =
  x.d.play.length) (.ask (x.d.play.slack=x.d.play.slack) (.ask (x.d.play.loose=x.d.play.loose) (.ask (x.d.play.damp.lo=x.d.play.damp.lo) (.ask (x.d.play.damp.hi =
  x.d.play.damp.hi) (.ask (x.d.wide=x.d.wide) (.ask (x.d.high=x.d.high) (.ask (x.d.turn=x.d.turn) (.ask (0=0) (.ask (x.d.ps.n=x.d.ps.n) (.ask (cO=cO) (.ask (0
  = 0) (.ask (x.scans.n=x.scans.n) (.ask (cO=cO) (.ask (0=0) (.ask (x.hang.n=x.hang.n) (.ask (cO=cO) (.ask (x.lost=x.lost) (.ask (x.foreign =
  x.foreign) (.ask (x.d.ps.n≤x.d.ps.n) (.ask (QC 28 x.d.ps.n (fun i=>QA.enc (x.d.ps.get i)) fun i=>QA.enc (x.d.ps.get i)) (.ask (x.scans.n≤x.scans.n) (.ask (QC 28
  x.scans.n (fun i=>QA.enc (x.scans.get i)) fun i=>QA.enc (x.scans.get i)) (.ask (x.hang.n≤x.hang.n) (.ask (QC 4 x.hang.n (fun i=>QA.enc (x.hang.get i)) fun i=>
  QA.enc (x.hang.get i)) (.asm (True) (.all (fun(g1:Nat→Value) => .ask (owP x) (.ask (0=0) (.ask (0=0) (.ask (0=0) (.ask (x.d.ps.n=x.d.ps.n) (.ask (cO=cO)
  (.ask (0=0) (.ask (x.scans.n=x.scans.n) (.ask (cO=cO) (.ask (0=0) (.ask (x.hang.n=x.hang.n) (.ask (cO=cO) (.ask ((owO x).e=(owO x).e) (.ask
  ((owO x).f=(owO x).f) (.ask ((owO x).g=(owO x).g) (.ask (0=0) (.ask ((owO x).cells.length=(owO x).cells.length) (.ask (cO=cO) (.ask (0=0) (.ask ((owO
  x).told.length=(owO x).told.length) (.ask (cO=cO) (.ask (0=0) (.ask ((owO x).a.length=(owO x).a.length) (.ask (cO=cO) (.ask (0=0) (.ask ((owO
  x).b.length=(owO x).b.length) (.ask (cO=cO) (.ask (0=0) (.ask (2=2) (.ask (Cap.lit 2=Cap.lit 2) (.ask ((2:Int)=2) (.ask ((1:Int)=1) (.ask (0=0) (.ask
  ((owO x).b.length=(owO x).b.length) (.ask (cO=cO) (.ask ((↑(owO x).b.length:Int)=(↑(owO x).b.length:Int)) (.ask ((0:Int)=0) (.ask ((owO x).a.length≤(owO
  x).a.length) (.ask (QC 2 (owO x).a.length (JQ (sI (owO x).a) (owO x).a.length) (JQ (sI (owO x).a) (owO x).a.length)) (.ask ((owO x).b.length≤(owO x).b.length) (.ask
  (QC 2 (owO x).b.length (fun i=>QA.enc ((owO x).b.getD i ⟨0,0⟩)) (sI (owO x).b)) (.ask (0=0) (.ask ((owO x).a.length=(owO x).a.length) (.ask (cO=cO) (.ask
  (0=0) (.ask ((owO x).b.length=(owO x).b.length) (.ask (cO=cO) (.ask (x.d.ps.n≤x.d.ps.n) (.ask (QC 28 x.d.ps.n (fun i=>QA.enc (x.d.ps.get i)) fun i=>
  QA.enc (x.d.ps.get i)) (.ask (x.scans.n≤x.scans.n) (.ask (QC 28 x.scans.n (fun i=>QA.enc (x.scans.get i)) fun i=>QA.enc (x.scans.get i)) (.ask (x.hang.n≤x.hang.n)
  (.ask (QC 4 x.hang.n (fun i=>QA.enc (x.hang.get i)) fun i=>QA.enc (x.hang.get i)) (.ask ((owO x).cells.length≤(owO x).cells.length) (.ask (QC 1 (owO
  x).cells.length (fun i=>QA.enc ((owO x).cells.getD i 0)) fun i=>QA.enc ((owO x).cells.getD i 0)) (.ask ((owO x).told.length≤(owO x).told.length) (.ask (QC 2 (owO
  x).told.length (fun i=>QA.enc ((owO x).told.getD i ⟨0,0⟩)) fun i=>QA.enc ((owO x).told.getD i ⟨0,0⟩)) (.ask ((owO x).a.length≤(owO x).a.length) (.ask (QC 2 (owO
  x).a.length (fun i=>QA.enc ((owO x).a.getD i ⟨0,0⟩)) fun i=>QA.enc ((owO x).a.getD i ⟨0,0⟩)) (.ask ((owO x).b.length≤(owO x).b.length) (.ask (QC 2 (owO x).b.length
  (fun i=>QA.enc ((owO x).b.getD i ⟨0,0⟩)) fun i=>QA.enc ((owO x).b.getD i ⟨0,0⟩)) (.ask (x.d.play.length=x.d.play.length) (.ask (x.d.play.slack=x.d.play.slack) (.ask
  (x.d.play.loose=x.d.play.loose) (.ask (x.d.play.damp.lo=x.d.play.damp.lo) (.ask (x.d.play.damp.hi=x.d.play.damp.hi) (.ask (x.d.wide=x.d.wide) (.ask (x.d.high=x.d.high)
  (.ask (x.d.turn=x.d.turn) (.ask (0=0) (.ask (x.d.ps.n=x.d.ps.n) (.ask (cO=cO) (.ask (0=0) (.ask (x.scans.n=x.scans.n) (.ask (cO=cO) (.ask (0 =
  0) (.ask (x.hang.n=x.hang.n) (.ask (cO=cO) (.ask (x.lost=x.lost) (.ask (x.foreign=x.foreign) (.ask (x.d.ps.n≤x.d.ps.n) (.ask (QC 28 x.d.ps.n (fun i=>
  QA.enc (x.d.ps.get i)) fun i=>QA.enc (x.d.ps.get i)) (.ask (x.scans.n≤x.scans.n) (.ask (QC 28 x.scans.n (fun i=>QA.enc (x.scans.get i)) fun i=>QA.enc
  (x.scans.get i)) (.ask (x.hang.n≤x.hang.n) (.ask (QC 4 x.hang.n (fun i=>QA.enc (x.hang.get i)) fun i=>QA.enc (x.hang.get i)) (.asm (True) (.all (fun(g2:Nat→Value)
  => .need (decide (x.d.ps.n≤x.d.ps.n)&&(decide (x.scans.n≤x.scans.n)&&(decide (x.hang.n≤x.hang.n)&&true))&&decide (x.d.ps.n≤1000∧x.scans.n≤1000∧x.hang.n ≤
  1000)) (.need (decide (x.d.ps.n≤x.d.ps.n)&&true&&decide (x.d.ps.n≤1000)) (.need (decide (x.d.ps.n≤x.d.ps.n)&&(true&&true)&&decide (x.d.ps.n≤900)) (.need (decide
  (x.d.ps.n≤x.d.ps.n)&&(decide (x.scans.n≤x.scans.n)&&(decide (x.hang.n≤x.hang.n)&&true))&&decide (x.d.ps.n≤1000∧x.scans.n≤1000∧x.hang.n≤1000)) (.need (decide
  (x.d.ps.n≤x.d.ps.n)&&(decide (x.scans.n≤x.scans.n)&&(decide (x.hang.n≤x.hang.n)&&true))&&decide (x.d.ps.n≤1000∧x.scans.n≤1000∧x.hang.n≤1000)) (.need (decide
  (x.d.ps.n≤x.d.ps.n)&&(decide (x.scans.n≤x.scans.n)&&(decide (x.hang.n≤x.hang.n)&&true))&&decide (x.d.ps.n≤1000∧x.scans.n≤1000∧x.hang.n≤1000)) (.ask (owP x)
  (.ask (0=0) (.ask (0=0) (.ask (0=0) (.ask (x.d.ps.n=x.d.ps.n) (.ask (cO=cO) (.ask (0=0) (.ask (x.scans.n=x.scans.n) (.ask (cO=cO) (.ask (0 =
  0) (.ask (x.hang.n=x.hang.n) (.ask (cO=cO) (.ask ((owO x).e=(owO x).e) (.ask ((owO x).f=(owO x).f) (.ask ((owO x).g=(owO x).g) (.ask (0=0) (.ask ((owO
  x).cells.length=(owO x).cells.length) (.ask (cO=cO) (.ask (0=0) (.ask ((owO x).told.length=(owO x).told.length) (.ask (cO=cO) (.ask (0=0) (.ask
  ((owO x).a.length=(owO x).a.length) (.ask (cO=cO) (.ask (0=0) (.ask ((owO x).b.length=(owO x).b.length) (.ask (cO=cO) (.ask (0=0) (.ask ((KO
  x).1.length=(owO x).cells.length) (.ask (cO=cO) (.ask ((KO x).2.2=(owO x).e) (.ask (0=0) (.ask ((Kh x).1.length=(owO x).told.length) (.ask (cO =
  cO) (.ask ((Kh x).2=(owO x).f) (.ask (0=0) (.ask ((Qz x).1.length=(owO x).a.length) (.ask (cO=cO) (.ask (0=0) (.ask ((Qz x).2.1.length=(owO
  x).b.length) (.ask (cO=cO) (.ask ((Qz x).2.2.2=(owO x).g) (.ask ((x.d.ps.n:Int)=(x.d.ps.n:Int)) (.ask ((0:Int)=0) (.ask ((owO x).cells.length≤(KO
  x).1.length) (.ask (QC 1 (owO x).cells.length (fun i=>QA.enc ((KO x).1.getD i 0)) fun i=>QA.enc ((owO x).cells.getD i 0)) (.ask ((owO x).told.length≤(Kh
  x).1.length) (.ask (QC 2 (owO x).told.length (fun i=>QA.enc ((Kh x).1.getD i ⟨0,0⟩)) fun i=>QA.enc ((owO x).told.getD i ⟨0,0⟩)) (.ask ((owO x).a.length≤(Qz
  x).1.length) (.ask (QC 2 (owO x).a.length (fun i=>QA.enc ((Qz x).1.getD i ⟨0,0⟩)) fun i=>QA.enc ((owO x).a.getD i ⟨0,0⟩)) (.ask ((owO x).b.length≤(Qz
  x).2.1.length) (.ask (QC 2 (owO x).b.length (fun i=>QA.enc ((Qz x).2.1.getD i ⟨0,0⟩)) fun i=>QA.enc ((owO x).b.getD i ⟨0,0⟩)) (.ask (x.d.ps.n≤x.d.ps.n) (.ask
  (QC 28 x.d.ps.n (fun i=>QA.enc (x.d.ps.get i)) fun i=>QA.enc (x.d.ps.get i)) (.ask (x.scans.n≤x.scans.n) (.ask (QC 28 x.scans.n (fun i=>QA.enc (x.scans.get i))
  fun i=>QA.enc (x.scans.get i)) (.ask (x.hang.n≤x.hang.n) (.ask (QC 4 x.hang.n (fun i=>QA.enc (x.hang.get i)) fun i=>QA.enc (x.hang.get i)) (.ask ((owO
  x).cells.length≤(owO x).cells.length) (.ask (QC 1 (owO x).cells.length (fun i=>QA.enc ((owO x).cells.getD i 0)) fun i=>QA.enc ((owO x).cells.getD i 0)) (.ask ((owO
  x).told.length≤(owO x).told.length) (.ask (QC 2 (owO x).told.length (fun i=>QA.enc ((owO x).told.getD i ⟨0,0⟩)) fun i=>QA.enc ((owO x).told.getD i ⟨0,0⟩)) (.ask
  ((owO x).a.length≤(owO x).a.length) (.ask (QC 2 (owO x).a.length (fun i=>QA.enc ((owO x).a.getD i ⟨0,0⟩)) fun i=>QA.enc ((owO x).a.getD i ⟨0,0⟩)) (.ask ((owO
  x).b.length≤(owO x).b.length) (.ask (QC 2 (owO x).b.length (fun i=>QA.enc ((owO x).b.getD i ⟨0,0⟩)) fun i=>QA.enc ((owO x).b.getD i ⟨0,0⟩)) (.ask (x.d.play.length =
  x.d.play.length) (.ask (x.d.play.slack=x.d.play.slack) (.ask (x.d.play.loose=x.d.play.loose) (.ask (x.d.play.damp.lo=x.d.play.damp.lo) (.ask (x.d.play.damp.hi =
  x.d.play.damp.hi) (.ask (x.d.wide=x.d.wide) (.ask (x.d.high=x.d.high) (.ask (x.d.turn=x.d.turn) (.ask (0=0) (.ask (x.d.ps.n=x.d.ps.n) (.ask (cO=cO) (.ask (0
  = 0) (.ask (x.scans.n=x.scans.n) (.ask (cO=cO) (.ask (0=0) (.ask (x.hang.n=x.hang.n) (.ask (cO=cO) (.ask (x.lost=x.lost) (.ask (x.foreign =
  x.foreign) (.ask (x.d.ps.n≤x.d.ps.n) (.ask (QC 28 x.d.ps.n (fun i=>QA.enc (x.d.ps.get i)) fun i=>QA.enc (x.d.ps.get i)) (.ask (x.scans.n≤x.scans.n) (.ask (QC 28
  x.scans.n (fun i=>QA.enc (x.scans.get i)) fun i=>QA.enc (x.scans.get i)) (.ask (x.hang.n≤x.hang.n) (.ask (QC 4 x.hang.n (fun i=>QA.enc (x.hang.get i)) fun i=>
  QA.enc (x.hang.get i)) (.asm (True) (.all (fun(g3:Nat→Value) => .ask (owP x) (.ask (0=0) (.ask (0=0) (.ask (0=0) (.ask (x.d.ps.n=x.d.ps.n) (.ask (cO=cO)
  (.ask (0=0) (.ask (x.scans.n=x.scans.n) (.ask (cO=cO) (.ask (0=0) (.ask (x.hang.n=x.hang.n) (.ask (cO=cO) (.ask ((owO x).e=(owO x).e) (.ask
  ((owO x).f=(owO x).f) (.ask ((owO x).g=(owO x).g) (.ask (0=0) (.ask ((owO x).cells.length=(owO x).cells.length) (.ask (cO=cO) (.ask (0=0) (.ask ((owO
  x).told.length=(owO x).told.length) (.ask (cO=cO) (.ask (0=0) (.ask ((owO x).a.length=(owO x).a.length) (.ask (cO=cO) (.ask (0=0) (.ask ((owO
  x).b.length=(owO x).b.length) (.ask (cO=cO) (.ask (0=0) (.ask ((owO x).cells.length=(owO x).cells.length) (.ask (cO=cO) (.ask ((owO x).e=(owO
  x).e) (.ask (0=0) (.ask ((owO x).told.length=(owO x).told.length) (.ask (cO=cO) (.ask ((owO x).f=(owO x).f) (.ask (0=0) (.ask ((owO x).a.length=(owO
  x).a.length) (.ask (cO=cO) (.ask (0=0) (.ask ((owO x).b.length=(owO x).b.length) (.ask (cO=cO) (.ask ((owO x).g=(owO x).g) (.ask ((x.scans.n:Int)
  = (x.scans.n:Int)) (.ask ((0:Int)=0) (.ask ((owO x).cells.length≤(owO x).cells.length) (.ask (QC 1 (owO x).cells.length (fun i=>QA.enc ((owO x).cells.getD i 0)) fun
  i=>QA.enc ((owO x).cells.getD i 0)) (.ask ((owO x).told.length≤(owO x).told.length) (.ask (QC 2 (owO x).told.length (fun i=>QA.enc ((owO x).told.getD i ⟨0,0⟩)) fun i
  => QA.enc ((owO x).told.getD i ⟨0,0⟩)) (.ask ((owO x).a.length≤(owO x).a.length) (.ask (QC 2 (owO x).a.length (fun i=>QA.enc ((owO x).a.getD i ⟨0,0⟩)) fun i=>
  QA.enc ((owO x).a.getD i ⟨0,0⟩)) (.ask ((owO x).b.length≤(owO x).b.length) (.ask (QC 2 (owO x).b.length (fun i=>QA.enc ((owO x).b.getD i ⟨0,0⟩)) fun i=>QA.enc
  ((owO x).b.getD i ⟨0,0⟩)) (.ask (x.d.ps.n≤x.d.ps.n) (.ask (QC 28 x.d.ps.n (fun i=>QA.enc (x.d.ps.get i)) fun i=>QA.enc (x.d.ps.get i)) (.ask (x.scans.n≤x.scans.n)
  (.ask (QC 28 x.scans.n (fun i=>QA.enc (x.scans.get i)) fun i=>QA.enc (x.scans.get i)) (.ask (x.hang.n≤x.hang.n) (.ask (QC 4 x.hang.n (fun i=>QA.enc (x.hang.get
  i)) fun i=>QA.enc (x.hang.get i)) (.ask ((owO x).cells.length≤(owO x).cells.length) (.ask (QC 1 (owO x).cells.length (fun i=>QA.enc ((owO x).cells.getD i 0)) fun i=>
  QA.enc ((owO x).cells.getD i 0)) (.ask ((owO x).told.length≤(owO x).told.length) (.ask (QC 2 (owO x).told.length (fun i=>QA.enc ((owO x).told.getD i ⟨0,0⟩)) fun i=>
  QA.enc ((owO x).told.getD i ⟨0,0⟩)) (.ask ((owO x).a.length≤(owO x).a.length) (.ask (QC 2 (owO x).a.length (fun i=>QA.enc ((owO x).a.getD i ⟨0,0⟩)) fun i=>QA.enc
  ((owO x).a.getD i ⟨0,0⟩)) (.ask ((owO x).b.length≤(owO x).b.length) (.ask (QC 2 (owO x).b.length (fun i=>QA.enc ((owO x).b.getD i ⟨0,0⟩)) fun i=>QA.enc ((owO
  x).b.getD i ⟨0,0⟩)) (.ask (x.d.play.length=x.d.play.length) (.ask (x.d.play.slack=x.d.play.slack) (.ask (x.d.play.loose=x.d.play.loose) (.ask (x.d.play.damp.lo =
  x.d.play.damp.lo) (.ask (x.d.play.damp.hi=x.d.play.damp.hi) (.ask (x.d.wide=x.d.wide) (.ask (x.d.high=x.d.high) (.ask (x.d.turn=x.d.turn) (.ask (0=0) (.ask (x.d.ps.n =
  x.d.ps.n) (.ask (cO=cO) (.ask (0=0) (.ask (x.scans.n=x.scans.n) (.ask (cO=cO) (.ask (0=0) (.ask (x.hang.n=x.hang.n) (.ask (cO=cO)
  (.ask (x.lost=x.lost) (.ask (x.foreign=x.foreign) (.ask (x.d.ps.n≤x.d.ps.n) (.ask (QC 28 x.d.ps.n (fun i=>QA.enc (x.d.ps.get i)) fun i=>QA.enc (x.d.ps.get i))
  (.ask (x.scans.n≤x.scans.n) (.ask (QC 28 x.scans.n (fun i=>QA.enc (x.scans.get i)) fun i=>QA.enc (x.scans.get i)) (.ask (x.hang.n≤x.hang.n) (.ask (QC 4 x.hang.n
  (fun i=>QA.enc (x.hang.get i)) fun i=>QA.enc (x.hang.get i)) (.asm (True) (.all (fun(g4:Nat→Value) => .ask (owP x) (.ask (0=0) (.ask (0=0) (.ask (0=0) (.ask
  (x.d.ps.n=x.d.ps.n) (.ask (cO=cO) (.ask (0=0) (.ask (x.scans.n=x.scans.n) (.ask (cO=cO) (.ask (0=0) (.ask (x.hang.n=x.hang.n) (.ask (cO =
  cO) (.ask ((owO x).e=(owO x).e) (.ask ((owO x).f=(owO x).f) (.ask ((owO x).g=(owO x).g) (.ask (0=0) (.ask ((owO x).cells.length=(owO x).cells.length) (.ask (cO
  = cO) (.ask (0=0) (.ask ((owO x).told.length=(owO x).told.length) (.ask (cO=cO) (.ask (0=0) (.ask ((owO x).a.length=(owO x).a.length) (.ask (cO =
  cO) (.ask (0=0) (.ask ((owO x).b.length=(owO x).b.length) (.ask (cO=cO) (.ask (0=0) (.ask ((owO x).cells.length=(owO x).cells.length) (.ask (cO =
  cO) (.ask ((owO x).e=(owO x).e) (.ask (0=0) (.ask ((owO x).told.length=(owO x).told.length) (.ask (cO=cO) (.ask ((owO x).f=(owO x).f) (.ask (0=0) (.ask
  ((owO x).a.length=(owO x).a.length) (.ask (cO=cO) (.ask (0=0) (.ask ((owO x).b.length=(owO x).b.length) (.ask (cO=cO) (.ask ((owO x).g=(owO x).g)
  (.ask ((x.hang.n:Int)=(x.hang.n:Int)) (.ask ((0:Int)=0) (.ask ((owO x).cells.length≤(owO x).cells.length) (.ask (QC 1 (owO x).cells.length (fun i=>QA.enc ((owO
  x).cells.getD i 0)) fun i=>QA.enc ((owO x).cells.getD i 0)) (.ask ((owO x).told.length≤(owO x).told.length) (.ask (QC 2 (owO x).told.length (fun i=>QA.enc ((owO
  x).told.getD i ⟨0,0⟩)) fun i=>QA.enc ((owO x).told.getD i ⟨0,0⟩)) (.ask ((owO x).a.length≤(owO x).a.length) (.ask (QC 2 (owO x).a.length (fun i=>QA.enc ((owO
  x).a.getD i ⟨0,0⟩)) fun i=>QA.enc ((owO x).a.getD i ⟨0,0⟩)) (.ask ((owO x).b.length≤(owO x).b.length) (.ask (QC 2 (owO x).b.length (fun i=>QA.enc ((owO x).b.getD i
  ⟨0,0⟩)) fun i=>QA.enc ((owO x).b.getD i ⟨0,0⟩)) (.ask (x.d.ps.n≤x.d.ps.n) (.ask (QC 28 x.d.ps.n (fun i=>QA.enc (x.d.ps.get i)) fun i=>QA.enc (x.d.ps.get i))
  (.ask (x.scans.n≤x.scans.n) (.ask (QC 28 x.scans.n (fun i=>QA.enc (x.scans.get i)) fun i=>QA.enc (x.scans.get i)) (.ask (x.hang.n≤x.hang.n) (.ask (QC 4 x.hang.n
  (fun i=>QA.enc (x.hang.get i)) fun i=>QA.enc (x.hang.get i)) (.ask ((owO x).cells.length≤(owO x).cells.length) (.ask (QC 1 (owO x).cells.length (fun i=>QA.enc
  ((owO x).cells.getD i 0)) fun i=>QA.enc ((owO x).cells.getD i 0)) (.ask ((owO x).told.length≤(owO x).told.length) (.ask (QC 2 (owO x).told.length (fun i=>QA.enc ((owO
  x).told.getD i ⟨0,0⟩)) fun i=>QA.enc ((owO x).told.getD i ⟨0,0⟩)) (.ask ((owO x).a.length≤(owO x).a.length) (.ask (QC 2 (owO x).a.length (fun i=>QA.enc ((owO
  x).a.getD i ⟨0,0⟩)) fun i=>QA.enc ((owO x).a.getD i ⟨0,0⟩)) (.ask ((owO x).b.length≤(owO x).b.length) (.ask (QC 2 (owO x).b.length (fun i=>QA.enc ((owO x).b.getD i
  ⟨0,0⟩)) fun i=>QA.enc ((owO x).b.getD i ⟨0,0⟩)) (.ask (x.d.play.length=x.d.play.length) (.ask (x.d.play.slack=x.d.play.slack) (.ask (x.d.play.loose=x.d.play.loose) (.ask
  (x.d.play.damp.lo=x.d.play.damp.lo) (.ask (x.d.play.damp.hi=x.d.play.damp.hi) (.ask (x.d.wide=x.d.wide) (.ask (x.d.high=x.d.high) (.ask (x.d.turn=x.d.turn) (.ask (0=0)
  (.ask (x.d.ps.n=x.d.ps.n) (.ask (cO=cO) (.ask (0=0) (.ask (x.scans.n=x.scans.n) (.ask (cO=cO) (.ask (0=0) (.ask (x.hang.n=x.hang.n) (.ask
  (cO=cO) (.ask (x.lost=x.lost) (.ask (x.foreign=x.foreign) (.ask (x.d.ps.n≤x.d.ps.n) (.ask (QC 28 x.d.ps.n (fun i=>QA.enc (x.d.ps.get i)) fun i=>
  QA.enc (x.d.ps.get i)) (.ask (x.scans.n≤x.scans.n) (.ask (QC 28 x.scans.n (fun i=>QA.enc (x.scans.get i)) fun i=>QA.enc (x.scans.get i)) (.ask (x.hang.n≤x.hang.n)
  (.ask (QC 4 x.hang.n (fun i=>QA.enc (x.hang.get i)) fun i=>QA.enc (x.hang.get i)) (.asm (True) (.all (fun(g5:Nat→Value) => .need (decide ((owO x).cells.length ≤
  (owO x).cells.length)&&(decide ((owO x).cells.length≤(owO x).cells.length)&&true)&&decide ((owO x).cells.length≤1000∧(owO x).cells.length≤1000)) (.need (!Vb (Rw.mk
  (owO x).cells.length fun i=>(owO x).cells.getD i 0) (Rw.mk (owO x).cells.length fun i=>(owO x).cells.getD i 0)||decide ((owO x).told.length≤(owO x).told.length)&&(decide
  ((owO x).told.length≤(owO x).told.length)&&true)&&decide ((owO x).told.length≤1000∧(owO x).told.length≤1000)&&(Vb (Rw.mk (owO x).cells.length fun i=>(owO
  x).cells.getD i 0) (Rw.mk (owO x).cells.length fun i=>(owO x).cells.getD i 0)&&Vb (Rw.mk (owO x).cells.length fun i=>(owO x).cells.getD i 0) (Rw.mk (owO x).cells.length fun
  i=>(owO x).cells.getD i 0))) (.need (!Vb (Rw.mk (owO x).cells.length fun i=>(owO x).cells.getD i 0) (Rw.mk (owO x).cells.length fun i=>(owO x).cells.getD i 0)||Vb
  (Rw.mk (owO x).cells.length fun i=>(owO x).cells.getD i 0) (Rw.mk (owO x).cells.length fun i=>(owO x).cells.getD i 0)) (.bnd (Vb (Rw.mk (owO x).cells.length fun i=>(owO
  x).cells.getD i 0) (Rw.mk (owO x).cells.length fun i=>(owO x).cells.getD i 0)&&Xp (Rw.mk (owO x).told.length fun i=>(owO x).told.getD i ⟨0,0⟩) (Rw.mk (owO x).told.length
  fun i=>(owO x).told.getD i ⟨0,0⟩)) (fun(x6:Bool) => .need (!x6||decide ((owO x).a.length≤(owO x).a.length)&&(decide ((owO x).a.length≤(owO x).a.length)&&true) &&
  decide ((owO x).a.length≤1000∧(owO x).a.length≤1000)&&(x6&&x6)) (.need (!x6||x6) (.bnd (x6&&Xp (Rw.mk (owO x).a.length fun i=>(owO x).a.getD i ⟨0,0⟩) (Rw.mk (owO
  x).a.length fun i=>(owO x).a.getD i ⟨0,0⟩)) (fun(x7:Bool) => .need (!x7||decide ((owO x).b.length≤(owO x).b.length)&&(decide ((owO x).b.length≤(owO x).b.length) &&
  true)&&decide ((owO x).b.length≤1000∧(owO x).b.length≤1000)&&(x7&&x7)) (.need (!x7||x7) (.bnd (x7&&Xp (Rw.mk (owO x).b.length fun i=>(owO x).b.getD i ⟨0,0⟩)
  (Rw.mk (owO x).b.length fun i=>(owO x).b.getD i ⟨0,0⟩)) (fun(x8:Bool) => .need (!x8||x8&&x8) (.need (!x8||x8) (.bnd (x8&&(owO x).e==(owO x).e) (fun(x9:Bool)=>
  .need (!x9||x9&&x9) (.need (!x9||x9) (.bnd (x9&&(owO x).f==(owO x).f) (fun(x10:Bool) => .need (!x10||x10&&x10) (.need (!x10||x10) (.bnd (x10&&(owO x).g==(owO
  x).g) (fun(x11:Bool) => .need (!x11||x11) (.bnd (x11||false) (fun(x12:Bool) => .leaf (.bool false x12)
  ([]))))))))))))))))))))))))))))))))))))))))))))))))))))))))))))))))))))))))))))))))))))))))))))))))))))))))))))))))))))))))))))))))))))))))))))))))))))))))))))))))))))))))))))))))))))))))))))))))))))))))))))))))))))))))))))))))))))))))))))))))))))))))))))))))))))))))))))))))))))))))))))))))))))))))))))))))))))))))))))))))))))))))))))))))))))))))))))))))))))))))))))))))))))))))))))))))))))))))))))))))))))))))))))))))))))))))))))))))))))))))))))))))))))))))))))))))))))))))))))))))))))))))))))))))))))))))))))))))))))))))))))))))))))))))))))))))))))))))))))))))))))))))))))))))))))))))):=by kernel_rfl
theorem QV6:JN (mkS Try.prog KK) (Qo Try.f11) 8 HC (fun x_=>(owH Try.prog x_.1)):=by
 refine⟨?_⟩;rintro⟨x,⟨⟩⟩ hp G h1 h2;exact QYP x G h1 h2
theorem QUg:JM (mkS Try.prog KK) Try.f11 8 HC (fun x_=>(owH Try.prog x_.1)):=by
 refine⟨?_⟩;rintro⟨x,⟨⟩⟩ hp;refine⟨⟨rfl,by simp[HC],rfl⟩,⟨?_⟩⟩
 rw[QYV x];simp only[HC]at hp;refine QF (by simp) ?_
 refine QI (fun b0 => ?_) (fun b0 => ?_)
 ·exact Kk rfl rfl
 ·have hs:=QYN b0;have P:=QYU hs;have hl:=QNs x;have hl2:(KO x).1.length≤x.scans.n∧(Kh x).1.length=(KO x).1.length∧(Qz x).1.length≤x.scans.n∧(Qz x).2.1.length≤x.scans.n:=hl;refine QF (by simp;omega) ?_
  refine QF (by simp;omega) ?_
  refine QF (by simp;omega) ?_
  refine QF (by exact qe hs) ?_
  refine QF (by exact qe hs) ?_
  refine QF (by exact qe hs) ?_
  refine QF (by simp;omega) ?_
  refine QF (by simp;omega) ?_
  refine QF (by simp;omega) ?_
  refine QF (by simp;omega) ?_
  refine QR (by exact P) ?_
  iterate 49 refine QR (by first|rfl|exact qlr _|exact qRr|exact trivial|exact Nat.zero_add _|exact Nat.le_of_eq (Nat.zero_add _).symm) ?_
  refine QR (by exact W5) ?_
  iterate 1 refine QR (by first|rfl|exact qlr _|exact qRr|exact trivial|exact Nat.zero_add _|exact Nat.le_of_eq (Nat.zero_add _).symm) ?_
  refine QR (by exact W5) ?_
  iterate 1 refine QR (by first|rfl|exact qlr _|exact qRr|exact trivial|exact Nat.zero_add _|exact Nat.le_of_eq (Nat.zero_add _).symm) ?_
  refine QR (by exact W5) ?_
  iterate 1 refine QR (by first|rfl|exact qlr _|exact qRr|exact trivial|exact Nat.zero_add _|exact Nat.le_of_eq (Nat.zero_add _).symm) ?_
  refine QR (by exact W5) ?_
  iterate 1 refine QR (by first|rfl|exact qlr _|exact qRr|exact trivial|exact Nat.zero_add _|exact Nat.le_of_eq (Nat.zero_add _).symm) ?_
  refine QR (by exact W5) ?_
  iterate 1 refine QR (by first|rfl|exact qlr _|exact qRr|exact trivial|exact Nat.zero_add _|exact Nat.le_of_eq (Nat.zero_add _).symm) ?_
  refine QR (by exact W5) ?_
  iterate 1 refine QR (by first|rfl|exact qlr _|exact qRr|exact trivial|exact Nat.zero_add _|exact Nat.le_of_eq (Nat.zero_add _).symm) ?_
  refine QR (by exact W5) ?_
  iterate 25 refine QR (by first|rfl|exact qlr _|exact qRr|exact trivial|exact Nat.zero_add _|exact Nat.le_of_eq (Nat.zero_add _).symm) ?_
  refine KA fun a0 => ?_;refine Q6 fun g0 => ?_;refine QR (by exact P) ?_
  iterate 85 refine QR (by first|rfl|exact qlr _|exact qRr|exact trivial|exact Nat.zero_add _|exact Nat.le_of_eq (Nat.zero_add _).symm) ?_
  refine KA fun a1 => ?_;refine Q6 fun g1 => ?_;refine QR (by exact P) ?_
  iterate 85 refine QR (by first|rfl|exact qlr _|exact qRr|exact trivial|exact Nat.zero_add _|exact Nat.le_of_eq (Nat.zero_add _).symm) ?_
  refine KA fun a2 => ?_;refine Q6 fun g2 => ?_;refine QF (by exact qe hs) ?_
  refine QF (by simp;omega) ?_
  refine QF (by simp;omega) ?_
  refine QF (by exact qe hs) ?_
  refine QF (by exact qe hs) ?_
  refine QF (by exact qe hs) ?_
  refine QR (by exact P) ?_
  iterate 90 refine QR (by first|rfl|exact qlr _|exact qRr|exact trivial|exact Nat.zero_add _|exact Nat.le_of_eq (Nat.zero_add _).symm) ?_
  refine KA fun a3 => ?_;refine Q6 fun g3 => ?_;refine QR (by exact P) ?_
  iterate 90 refine QR (by first|rfl|exact qlr _|exact qRr|exact trivial|exact Nat.zero_add _|exact Nat.le_of_eq (Nat.zero_add _).symm) ?_
  refine KA fun a4 => ?_;refine Q6 fun g4 => ?_;refine QR (by exact P) ?_
  iterate 90 refine QR (by first|rfl|exact qlr _|exact qRr|exact trivial|exact Nat.zero_add _|exact Nat.le_of_eq (Nat.zero_add _).symm) ?_
  refine KA fun a5 => ?_;refine Q6 fun g5 => ?_;refine QF (by simp;omega) ?_
  refine QF (by rw[QJh];simp;omega) ?_
  refine qk ?_;refine Yb fun z0 y0 => ?_;obtain rfl:z0=true:=y0.trans (by rw[QJh,QEF];rfl)
  refine QF (by simp;omega) ?_
  refine qk ?_;refine Yb fun z1 y1 => ?_;obtain rfl:z1=true:=y1.trans ((Bool.true_and _).trans (QEF _));refine QF (by simp;omega) ?_
  refine qk ?_;refine Yb fun z2 y2 => ?_;obtain rfl:z2=true:=y2.trans ((Bool.true_and _).trans (QEF _));refine QDy ?_;refine qk ?_;refine Yb fun z3 y3 => ?_;obtain rfl:z3=true:=y3.trans (by simp)
  refine QDy ?_;refine qk ?_;refine Yb fun z4 y4 => ?_;obtain rfl:z4=true:=y4.trans (by simp)
  refine QDy ?_;refine qk ?_;refine Yb fun z5 y5 => ?_;obtain rfl:z5=true:=y5.trans (by simp)
  refine qk ?_;refine Yb fun z6 y6 => ?_;obtain rfl:z6=true:=y6.trans (rfl);exact Kk rfl rfl
end Go.Proofs.Ytbpffdkemeoajaa
