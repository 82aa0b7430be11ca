/- - -/
import Derived.Test.YtbpffdkemeoajaaMxzi
open Go.IntKind (i64)
set_option maxRecDepth 100000
namespace Go.Proofs.Ytbpffdkemeoajaa
open Go Go.SX
theorem QLO{x:QD}{c s:Int}(h:Vh x c s=false):x.d.ps.n≤14∧x.scans.n≤18∧x.hang.n≤18:=by
 simp only[Vh,Bool.or_eq_false_iff,decide_eq_false_iff_not]at h;omega
theorem qg{x:QD}(h:x.d.ps.n≤14∧x.scans.n≤18∧x.hang.n≤18):(decide (x.d.ps.n≤x.d.ps.n)&&(decide (x.scans.n≤x.scans.n)&&(decide (x.hang.n≤x.hang.n)&&true))&&decide (x.d.ps.n≤(1000:Nat)∧x.scans.n≤(1000:Nat)∧x.hang.n≤(1000:Nat)))=true:=by
 simp;omega
def stE(g:Nat→Nat→Int)(e c:Nat)(v:Edge):Nat→Nat→Int:=fun i=>bif decide (i=e)then Kt [.int false .i64 v.kind,.int false .i64 v.at_.lo,.int false .i64 v.at_.hi,.int false .i64 v.wide.lo,.int false .i64 v.wide.hi,.int false .i64 v.deep.lo,.int false .i64 v.deep.hi] c (g e)else g i
theorem QMu(x:QD)(k n:Nat)(f:Nat→Nat→Int):QE 28 n (stE (stE (stE (stE (QP 0 f fun i=>QA.enc (x.scans.get i)) k 7 (x.scans.get k).up) k 14 (x.scans.get k).right) k 21 (x.scans.get k).down) k 0 (x.scans.get k).left) (fun i=>QA.enc ((Qk x k).scans.get i)):=by
 intro i _;have e0:∀ i,QP 0 f (fun i=>QA.enc (x.scans.get i)) i=QA.enc (x.scans.get i):=fun i=>funext fun j=>by rw[VC,if_neg (Nat.not_lt_zero _),Nat.sub_zero]
 by_cases h:i=k
 ·subst h;have e1:(Qk x i).scans.get i=XY (x.scans.get i):=if_pos rfl;show eqF 28 0 _ (QA.enc ((Qk x i).scans.get i));rw[e1];simp only[stE,decide_true,cond_true];exact⟨rfl,rfl,rfl,rfl,rfl,rfl,rfl,rfl,rfl,rfl,rfl,rfl,rfl,rfl,rfl,rfl,rfl,rfl,rfl,rfl,rfl,rfl,rfl,rfl,rfl,rfl,rfl,rfl,trivial⟩
 ·have e1:(Qk x k).scans.get i=x.scans.get i:=if_neg h;show eqF 28 0 _ (QA.enc ((Qk x k).scans.get i));rw[e1];simp only[stE,decide_eq_false h,cond_false];show eqF 28 0 (QP 0 f (fun i=>QA.enc (x.scans.get i)) i) (QA.enc (x.scans.get i));rw[e0];exact qG _ _ _
def HJ:WF (QD×U8n×Unit):=fun|(x,(w,_))=>(decide (0≤w.n∧w.n≤255),.bool false true,[])
noncomputable abbrev QKD(w:U8n)(x:QD):List AV:=
  [vi (x.scans.get ((i64.wrap w.n).tmod (x.scans.n:Int)).toNat).down.kind,vi (x.scans.get ((i64.wrap w.n).tmod (x.scans.n :
  Int)).toNat).down.at_.lo,vi (x.scans.get ((i64.wrap w.n).tmod (x.scans.n:Int)).toNat).down.at_.hi,vi (x.scans.get ((i64.wrap w.n).tmod
  (x.scans.n:Int)).toNat).down.wide.lo,vi (x.scans.get ((i64.wrap w.n).tmod (x.scans.n:Int)).toNat).down.wide.hi,vi (x.scans.get
  ((i64.wrap w.n).tmod (x.scans.n:Int)).toNat).down.deep.lo,vi (x.scans.get ((i64.wrap w.n).tmod (x.scans.n:Int)).toNat).down.deep.hi]
noncomputable abbrev GB(w:U8n)(x:QD):List AV:=
  [vi (x.scans.get ((i64.wrap w.n).tmod (x.scans.n:Int)).toNat).right.kind,vi (x.scans.get ((i64.wrap w.n).tmod (x.scans.n :
  Int)).toNat).right.at_.lo,vi (x.scans.get ((i64.wrap w.n).tmod (x.scans.n:Int)).toNat).right.at_.hi,vi (x.scans.get ((i64.wrap
  w.n).tmod (x.scans.n:Int)).toNat).right.wide.lo,vi (x.scans.get ((i64.wrap w.n).tmod (x.scans.n:Int)).toNat).right.wide.hi,vi (x.scans.get
  ((i64.wrap w.n).tmod (x.scans.n:Int)).toNat).right.deep.lo,vi (x.scans.get ((i64.wrap w.n).tmod (x.scans.n:Int)).toNat).right.deep.hi]
noncomputable abbrev ZZ(w:U8n)(x:QD):List AV:=
  [vi (x.scans.get ((i64.wrap w.n).tmod (x.scans.n:Int)).toNat).up.kind,vi (x.scans.get ((i64.wrap w.n).tmod (x.scans.n :
  Int)).toNat).up.at_.lo,vi (x.scans.get ((i64.wrap w.n).tmod (x.scans.n:Int)).toNat).up.at_.hi,vi (x.scans.get ((i64.wrap w.n).tmod
  (x.scans.n:Int)).toNat).up.wide.lo,vi (x.scans.get ((i64.wrap w.n).tmod (x.scans.n:Int)).toNat).up.wide.hi,vi (x.scans.get ((i64.wrap
  w.n).tmod (x.scans.n:Int)).toNat).up.deep.lo,vi (x.scans.get ((i64.wrap w.n).tmod (x.scans.n:Int)).toNat).up.deep.hi]
theorem QO5(x:QD)(w:U8n):KY (mkS Try.prog Ks) (tuH Try.prog x w) Try.f10 (QS.vals 0 ((x,w,()):QD×U8n×Unit)) (QS.blks 0 ((x,w,()):QD×U8n×Unit)) 8 = .need (decide (x.d.ps.n ≤
  x.d.ps.n)&&(decide (x.scans.n≤x.scans.n)&&(decide (x.hang.n≤x.hang.n)&&(true&&(true&&true))))&&true) (.need (!!Vh x (4:Int) (4:Int)||decide (x.d.ps.n ≤
  x.d.ps.n)&&(decide (x.scans.n≤x.scans.n)&&(decide (x.hang.n≤x.hang.n)&&true))&&decide (x.d.ps.n≤1000∧x.scans.n≤1000∧x.hang.n≤1000) && !Vh x (4:Int) (4 :
  Int)) (.need (!!Vh x (4:Int) (4:Int) || !Vh x (4:Int) (4:Int)) (.need (Vh x (4:Int) (4:Int) || !Vh x (4:Int) (4:Int)) (.bnd (Vh x (4:Int) (4 :
  Int) || !x.ok) (fun(x0:Bool) => .need (!!x0 || !x0) (.need (!!x0 || !x0) (.need (!!x0 || !x0) (.need (x0 || !x0) (.bnd (x0||(x.scans.n:Int)==0) (fun(x1:Bool) => .br (x1)
  (.leaf (.bool true true) ([])) (.need (decide (x.d.ps.n≤x.d.ps.n)&&(decide (x.scans.n≤x.scans.n)&&(decide (x.hang.n≤x.hang.n)&&true))&&decide (x.d.ps.n≤1000 ∧
  x.scans.n≤1000∧x.hang.n≤1000)) (.need (decide (x.d.ps.n≤x.d.ps.n)&&(decide (x.scans.n≤x.scans.n)&&(decide (x.hang.n≤x.hang.n)&&true))&&decide (x.d.ps.n≤1000 ∧
  x.scans.n≤1000∧x.hang.n≤1000)) (.need (!decide ((x.scans.n:Int)=0)) (.need (true&&(decide (x.scans.n≤x.scans.n)&&decide ((0+x.scans.n+(0+x.scans.n) / 4+192)
  * 224≤281474976710656∧0+x.scans.n≤9223372036854775807))) (.need (decide ((0:Int)≤(i64.wrap w.n).tmod (x.scans.n:Int)∧(i64.wrap w.n).tmod (x.scans.n :
  Int)<(x.scans.n:Int))&&decide (x.scans.n≤x.scans.n)) (.need (decide (((i64.wrap w.n).tmod (x.scans.n:Int)).toNat<x.scans.n)) (.need (decide ((0:Int) ≤
  (i64.wrap w.n).tmod (x.scans.n:Int)∧(i64.wrap w.n).tmod (x.scans.n:Int)<(↑(0+x.scans.n):Int))&&decide (0+x.scans.n≤0+x.scans.n)) (.need (decide
  (((i64.wrap w.n).tmod (x.scans.n:Int)).toNat<0+x.scans.n)) (.need (decide ((0:Int)≤(i64.wrap w.n).tmod (x.scans.n:Int)∧(i64.wrap w.n).tmod
  (x.scans.n:Int)<(x.scans.n:Int))&&decide (x.scans.n≤x.scans.n)) (.need (decide (((i64.wrap w.n).tmod (x.scans.n:Int)).toNat<x.scans.n)) (.need (decide ((0 :
  Int)≤(i64.wrap w.n).tmod (x.scans.n:Int)∧(i64.wrap w.n).tmod (x.scans.n:Int)<(↑(0+x.scans.n):Int))&&decide (0+x.scans.n≤0+x.scans.n)) (.need
  (decide (((i64.wrap w.n).tmod (x.scans.n:Int)).toNat<0+x.scans.n)) (.need (decide ((0:Int)≤(i64.wrap w.n).tmod (x.scans.n:Int)∧(i64.wrap
  w.n).tmod (x.scans.n:Int)<(x.scans.n:Int))&&decide (x.scans.n≤x.scans.n)) (.need (decide (((i64.wrap w.n).tmod (x.scans.n:Int)).toNat<x.scans.n)) (.need
  (decide ((0:Int)≤(i64.wrap w.n).tmod (x.scans.n:Int)∧(i64.wrap w.n).tmod (x.scans.n:Int)<(↑(0+x.scans.n):Int))&&decide (0+x.scans.n≤0 +
  x.scans.n)) (.need (decide (((i64.wrap w.n).tmod (x.scans.n:Int)).toNat<0+x.scans.n)) (.need (decide ((0:Int)≤(i64.wrap w.n).tmod (x.scans.n:Int) ∧
  (i64.wrap w.n).tmod (x.scans.n:Int)<(x.scans.n:Int))&&decide (x.scans.n≤x.scans.n)) (.need (decide (((i64.wrap w.n).tmod (x.scans.n:Int)).toNat <
  x.scans.n)) (.need (decide ((0:Int)≤(i64.wrap w.n).tmod (x.scans.n:Int)∧(i64.wrap w.n).tmod (x.scans.n:Int)<(↑(0+x.scans.n):Int))&&decide (0 +
  x.scans.n≤0+x.scans.n)) (.need (decide (((i64.wrap w.n).tmod (x.scans.n:Int)).toNat<0+x.scans.n)) (.ask (tuP x w) (.ask (0=0) (.ask (0=0) (.ask (0=0) (.ask
  ((QY x).1.length=(tuO x).cells.length) (.ask (cO=cO) (.ask ((QY x).2.1=(tuO x).al) (.ask ((QY x).2.2=(tuO x).e) (.ask ((miV x).1=(tuO x).su)
  (.ask ((miV x).2.1=(tuO x).ma) (.ask ((x.scans.n:Int)=(x.scans.n:Int)) (.ask ((i64.wrap w.n).tmod (x.scans.n:Int)=(↑(tuK x w):Int)) (.ask (0=0) (.ask (0=0)
  (.ask (0=0) (.ask (0=0) (.ask ((x.hang.n:Int)=(x.hang.n:Int)) (.ask ((0:Int)=0) (.ask (x.d.play.length=x.d.play.length) (.ask (x.d.play.slack=x.d.play.slack) (.ask
  (x.d.play.loose=x.d.play.loose) (.ask (x.d.play.damp.lo=x.d.play.damp.lo) (.ask (x.d.play.damp.hi=x.d.play.damp.hi) (.ask (x.d.wide=x.d.wide) (.ask (x.d.high=x.d.high)
  (.ask (x.d.turn=x.d.turn) (.ask (0=0) (.ask (x.d.ps.n=x.d.ps.n) (.ask (cO=cO) (.ask (0=0) (.ask (0+x.scans.n=x.scans.n) (.ask (cO=cO) (.ask
  (0=0) (.ask (x.lost=x.lost) (.ask (x.foreign=x.foreign) (.ask (x.d.play.length=x.d.play.length) (.ask (x.d.play.slack=x.d.play.slack) (.ask (x.d.play.loose =
  x.d.play.loose) (.ask (x.d.play.damp.lo=x.d.play.damp.lo) (.ask (x.d.play.damp.hi=x.d.play.damp.hi) (.ask (x.d.wide=x.d.wide) (.ask (x.d.high=x.d.high) (.ask (x.d.turn =
  x.d.turn) (.ask (0=0) (.ask (x.d.ps.n=x.d.ps.n) (.ask (cO=cO) (.ask (0=0) (.ask (0=0) (.ask (x.lost=x.lost) (.ask (x.foreign=x.foreign) (.ask (x.scans.n ≤
  0+x.scans.n) (.ask (QE 28 x.scans.n (fun i=>bif decide (i=((i64.wrap w.n).tmod (x.scans.n:Int)).toNat)then Kt [vi (x.scans.get ((i64.wrap
  w.n).tmod (x.scans.n:Int)).toNat).left.kind,vi (x.scans.get ((i64.wrap w.n).tmod (x.scans.n:Int)).toNat).left.at_.lo,vi (x.scans.get
  ((i64.wrap w.n).tmod (x.scans.n:Int)).toNat).left.at_.hi,vi (x.scans.get ((i64.wrap w.n).tmod (x.scans.n:Int)).toNat).left.wide.lo,.int false .i64
  (x.scans.get ((i64.wrap w.n).tmod (x.scans.n:Int)).toNat).left.wide.hi,vi (x.scans.get ((i64.wrap w.n).tmod (x.scans.n:Int)).toNat).left.deep.lo,
  .int false .i64 (x.scans.get ((i64.wrap w.n).tmod (x.scans.n:Int)).toNat).left.deep.hi] 0 (bif decide (((i64.wrap w.n).tmod (x.scans.n:Int)).toNat =
  ((i64.wrap w.n).tmod (x.scans.n:Int)).toNat)then Kt (QKD w x) 21 (bif decide (((i64.wrap w.n).tmod (x.scans.n:Int)).toNat=((i64.wrap w.n).tmod
  (x.scans.n:Int)).toNat)then Kt (GB w x) 14 (bif decide (((i64.wrap w.n).tmod (x.scans.n:Int)).toNat=((i64.wrap w.n).tmod (x.scans.n:Int)).toNat)then
  Kt (ZZ w x) 7 (QP 0 (fun x x_1=>(0:Int)) (fun i=>QA.enc (x.scans.get i)) ((i64.wrap w.n).tmod (x.scans.n:Int)).toNat)else QP 0 (fun x x_1=>(0:Int))
  (fun i=>QA.enc (x.scans.get i)) ((i64.wrap w.n).tmod (x.scans.n:Int)).toNat)else bif decide (((i64.wrap w.n).tmod (x.scans.n:Int)).toNat =
  ((i64.wrap w.n).tmod (x.scans.n:Int)).toNat)then Kt (ZZ w x) 7 (QP 0 (fun x x_1=>(0:Int)) (fun i=>QA.enc (x.scans.get i)) ((i64.wrap w.n).tmod
  (x.scans.n:Int)).toNat)else QP 0 (fun x x_1=>(0:Int)) (fun i=>QA.enc (x.scans.get i)) ((i64.wrap w.n).tmod (x.scans.n:Int)).toNat)else bif decide
  (((i64.wrap w.n).tmod (x.scans.n:Int)).toNat=((i64.wrap w.n).tmod (x.scans.n:Int)).toNat)then Kt (GB w x) 14 (bif decide (((i64.wrap w.n).tmod
  (x.scans.n:Int)).toNat=((i64.wrap w.n).tmod (x.scans.n:Int)).toNat)then Kt (ZZ w x) 7 (QP 0 (fun x x_1=>(0:Int)) (fun i=>QA.enc (x.scans.get i))
  ((i64.wrap w.n).tmod (x.scans.n:Int)).toNat)else QP 0 (fun x x_1=>(0:Int)) (fun i=>QA.enc (x.scans.get i)) ((i64.wrap w.n).tmod (x.scans.n :
  Int)).toNat)else bif decide (((i64.wrap w.n).tmod (x.scans.n:Int)).toNat=((i64.wrap w.n).tmod (x.scans.n:Int)).toNat)then Kt (ZZ w x) 7 (QP 0 (fun x
  x_1=>(0:Int)) (fun i=>QA.enc (x.scans.get i)) ((i64.wrap w.n).tmod (x.scans.n:Int)).toNat)else QP 0 (fun x x_1=>(0:Int)) (fun i=>QA.enc (x.scans.get
  i)) ((i64.wrap w.n).tmod (x.scans.n:Int)).toNat)else bif decide (i=((i64.wrap w.n).tmod (x.scans.n:Int)).toNat)then Kt (QKD w x) 21 (bif decide
  (((i64.wrap w.n).tmod (x.scans.n:Int)).toNat=((i64.wrap w.n).tmod (x.scans.n:Int)).toNat)then Kt (GB w x) 14 (bif decide (((i64.wrap w.n).tmod
  (x.scans.n:Int)).toNat=((i64.wrap w.n).tmod (x.scans.n:Int)).toNat)then Kt (ZZ w x) 7 (QP 0 (fun x x_1=>(0:Int)) (fun i=>QA.enc (x.scans.get i))
  ((i64.wrap w.n).tmod (x.scans.n:Int)).toNat)else QP 0 (fun x x_1=>(0:Int)) (fun i=>QA.enc (x.scans.get i)) ((i64.wrap w.n).tmod (x.scans.n :
  Int)).toNat)else bif decide (((i64.wrap w.n).tmod (x.scans.n:Int)).toNat=((i64.wrap w.n).tmod (x.scans.n:Int)).toNat)then Kt (ZZ w x) 7 (QP 0 (fun x
  x_1=>(0:Int)) (fun i=>QA.enc (x.scans.get i)) ((i64.wrap w.n).tmod (x.scans.n:Int)).toNat)else QP 0 (fun x x_1=>(0:Int)) (fun i=>QA.enc (x.scans.get
  i)) ((i64.wrap w.n).tmod (x.scans.n:Int)).toNat)else bif decide (i=((i64.wrap w.n).tmod (x.scans.n:Int)).toNat)then Kt (GB w x) 14 (bif decide
  (((i64.wrap w.n).tmod (x.scans.n:Int)).toNat=((i64.wrap w.n).tmod (x.scans.n:Int)).toNat)then Kt (ZZ w x) 7 (QP 0 (fun x x_1=>(0:Int)) (fun i=>
  QA.enc (x.scans.get i)) ((i64.wrap w.n).tmod (x.scans.n:Int)).toNat)else QP 0 (fun x x_1=>(0:Int)) (fun i=>QA.enc (x.scans.get i)) ((i64.wrap
  w.n).tmod (x.scans.n:Int)).toNat)else bif decide (i=((i64.wrap w.n).tmod (x.scans.n:Int)).toNat)then Kt (ZZ w x) 7 (QP 0 (fun x x_1=>(0:Int)) (fun i=>
  QA.enc (x.scans.get i)) ((i64.wrap w.n).tmod (x.scans.n:Int)).toNat)else QP 0 (fun x x_1=>(0:Int)) (fun i=>QA.enc (x.scans.get i)) i) fun i=>QA.enc
  ((Qk x (tuK x w)).scans.get i)) (.ask (0=0) (.ask (0=0) (.ask (0=0) (.ask ((tuO x).cells.length≤(QY x).1.length) (.ask (QE 1 (tuO x).cells.length (fun i=>
  QA.enc ((QY x).1.getD i 0)) fun i=>QA.enc ((tuO x).cells.getD i 0)) (.ask (x.d.play.length=x.d.play.length) (.ask (x.d.play.slack=x.d.play.slack) (.ask
  (x.d.play.loose=x.d.play.loose) (.ask (x.d.play.damp.lo=x.d.play.damp.lo) (.ask (x.d.play.damp.hi=x.d.play.damp.hi) (.ask (x.d.wide=x.d.wide) (.ask (x.d.high=x.d.high)
  (.ask (x.d.turn=x.d.turn) (.ask (0=0) (.ask (x.d.ps.n=x.d.ps.n) (.ask (cO=cO) (.ask (0=0) (.ask (x.scans.n=x.scans.n) (.ask (cO=cO) (.ask (0 =
  0) (.ask (x.hang.n=x.hang.n) (.ask (cO=cO) (.ask (x.lost=x.lost) (.ask (x.foreign=x.foreign) (.ask (x.d.ps.n≤x.d.ps.n) (.ask (QE 28 x.d.ps.n (fun i=>
  QA.enc (x.d.ps.get i)) fun i=>QA.enc (x.d.ps.get i)) (.ask (x.scans.n≤x.scans.n) (.ask (QE 28 x.scans.n (fun i=>QA.enc (x.scans.get i)) fun i=>QA.enc
  (x.scans.get i)) (.ask (x.hang.n≤x.hang.n) (.ask (QE 4 x.hang.n (fun i=>QA.enc (x.hang.get i)) fun i=>QA.enc (x.hang.get i)) (.asm (True) (.all (fun(g2:Nat→Value)
  => .ask (tuP x w) (.ask (0=0) (.ask (0=0) (.ask (0=0) (.ask ((tuO x).cells.length=(tuO x).cells.length) (.ask (cO=cO) (.ask ((tuO x).al=(tuO x).al) (.ask
  ((tuO x).e=(tuO x).e) (.ask ((tuO x).su=(tuO x).su) (.ask ((tuO x).ma=(tuO x).ma) (.ask ((x.scans.n:Int)=(x.scans.n:Int)) (.ask ((↑(tuK x w):Int)=(↑(tuK x w):Int))
  (.ask (0=0) (.ask (0=0) (.ask (0=0) (.ask (0=0) (.ask ((x.scans.n:Int)=(x.scans.n:Int)) (.ask ((0:Int)=0) (.ask (x.d.play.length=x.d.play.length) (.ask
  (x.d.play.slack=x.d.play.slack) (.ask (x.d.play.loose=x.d.play.loose) (.ask (x.d.play.damp.lo=x.d.play.damp.lo) (.ask (x.d.play.damp.hi=x.d.play.damp.hi) (.ask (x.d.wide =
  x.d.wide) (.ask (x.d.high=x.d.high) (.ask (x.d.turn=x.d.turn) (.ask (0=0) (.ask (x.d.ps.n=x.d.ps.n) (.ask (cO=cO) (.ask (0=0) (.ask (x.scans.n=x.scans.n)
  (.ask (cO=cO) (.ask (0=0) (.ask (x.hang.n=x.hang.n) (.ask (cO=cO) (.ask (x.lost=x.lost) (.ask (x.foreign=x.foreign) (.ask (x.d.play.length =
  x.d.play.length) (.ask (x.d.play.slack=x.d.play.slack) (.ask (x.d.play.loose=x.d.play.loose) (.ask (x.d.play.damp.lo=x.d.play.damp.lo) (.ask (x.d.play.damp.hi =
  x.d.play.damp.hi) (.ask (x.d.wide=x.d.wide) (.ask (x.d.high=x.d.high) (.ask (x.d.turn=x.d.turn) (.ask (0=0) (.ask (x.d.ps.n=x.d.ps.n) (.ask (cO=cO) (.ask (0
  = 0) (.ask (0=0) (.ask (cO=cO) (.ask (0=0) (.ask (x.hang.n=x.hang.n) (.ask (cO=cO) (.ask (x.lost=x.lost) (.ask (x.foreign=x.foreign) (.ask
  (x.scans.n≤x.scans.n) (.ask (QE 28 x.scans.n (fun i=>QA.enc ((Qk x (tuK x w)).scans.get i)) fun i=>QA.enc ((Qk x (tuK x w)).scans.get i)) (.ask (x.hang.n ≤
  x.hang.n) (.ask (QE 4 x.hang.n (fun i=>QA.enc ((Qk x (tuK x w)).hang.get i)) fun i=>QA.enc ((Qk x (tuK x w)).hang.get i)) (.ask (0≤0) (.ask (QE 28 0 (fun i=>
  QA.enc ((Qg x (tuK x w)).scans.get i)) fun i=>QA.enc ((Qg x (tuK x w)).scans.get i)) (.ask (x.hang.n≤x.hang.n) (.ask (QE 4 x.hang.n (fun i=>QA.enc ((Qg x (tuK
  x w)).hang.get i)) fun i=>QA.enc ((Qg x (tuK x w)).hang.get i)) (.ask ((tuO x).cells.length≤(tuO x).cells.length) (.ask (QE 1 (tuO x).cells.length (fun i=>QA.enc
  ((tuO x).cells.getD i 0)) fun i=>QA.enc ((tuO x).cells.getD i 0)) (.ask (x.d.play.length=x.d.play.length) (.ask (x.d.play.slack=x.d.play.slack) (.ask (x.d.play.loose =
  x.d.play.loose) (.ask (x.d.play.damp.lo=x.d.play.damp.lo) (.ask (x.d.play.damp.hi=x.d.play.damp.hi) (.ask (x.d.wide=x.d.wide) (.ask (x.d.high=x.d.high) (.ask (x.d.turn =
  x.d.turn) (.ask (0=0) (.ask (x.d.ps.n=x.d.ps.n) (.ask (cO=cO) (.ask (0=0) (.ask (x.scans.n=x.scans.n) (.ask (cO=cO) (.ask (0=0) (.ask (x.hang.n
  = x.hang.n) (.ask (cO=cO) (.ask (x.lost=x.lost) (.ask (x.foreign=x.foreign) (.ask (x.d.ps.n≤x.d.ps.n) (.ask (QE 28 x.d.ps.n (fun i=>QA.enc (x.d.ps.get
  i)) fun i=>QA.enc (x.d.ps.get i)) (.ask (x.scans.n≤x.scans.n) (.ask (QE 28 x.scans.n (fun i=>QA.enc (x.scans.get i)) fun i=>QA.enc (x.scans.get i)) (.ask (x.hang.n
  ≤ x.hang.n) (.ask (QE 4 x.hang.n (fun i=>QA.enc (x.hang.get i)) fun i=>QA.enc (x.hang.get i)) (.asm (True) (.all (fun(g3:Nat→Value) => .need (decide (x.d.ps.n ≤
  x.d.ps.n)&&(decide (x.scans.n≤x.scans.n)&&(decide (x.hang.n≤x.hang.n)&&true))&&decide (x.d.ps.n≤1000∧x.scans.n≤1000∧x.hang.n≤1000)) (.need (decide (x.d.ps.n ≤
  x.d.ps.n)&&(decide (x.scans.n≤x.scans.n)&&(decide (x.hang.n≤x.hang.n)&&true))&&decide (x.d.ps.n≤1000∧x.scans.n≤1000∧x.hang.n≤1000)) (.need (decide (x.d.ps.n ≤
  x.d.ps.n)&&(decide (x.scans.n≤x.scans.n)&&(decide (x.hang.n≤x.hang.n)&&true))&&decide (x.d.ps.n≤1000∧x.scans.n≤1000∧x.hang.n≤1000)) (.need (!!(QY (QD.mk
  x.d (Rw.mk x.scans.n (Qk x (tuK x w)).scans.get) (Rw.mk x.hang.n (Qk x (tuK x w)).hang.get) x.lost x.foreign)).2.2 != (tuO x).e || !(QY (QD.mk x.d (Rw.mk x.scans.n (Qk
  x (tuK x w)).scans.get) (Rw.mk x.hang.n (Qk x (tuK x w)).hang.get) x.lost x.foreign)).2.2 != (tuO x).e && !(QY (QD.mk x.d (Rw.mk x.scans.n (Qk x (tuK x w)).scans.get)
  (Rw.mk x.hang.n (Qk x (tuK x w)).hang.get) x.lost x.foreign)).2.2 != (tuO x).e) (.need ((QY (QD.mk x.d (Rw.mk x.scans.n (Qk x (tuK x w)).scans.get) (Rw.mk x.hang.n (Qk
  x (tuK x w)).hang.get) x.lost x.foreign)).2.2 != (tuO x).e || !(QY (QD.mk x.d (Rw.mk x.scans.n (Qk x (tuK x w)).scans.get) (Rw.mk x.hang.n (Qk x (tuK x w)).hang.get)
  x.lost x.foreign)).2.2 != (tuO x).e) (.bnd ((QY (QD.mk x.d (Rw.mk x.scans.n (Qk x (tuK x w)).scans.get) (Rw.mk x.hang.n (Qk x (tuK x w)).hang.get) x.lost x.foreign)).2.2
  != (tuO x).e||(QY (QD.mk x.d (Rw.mk x.scans.n (Qg x (tuK x w)).scans.get) (Rw.mk x.hang.n (Qg x (tuK x w)).hang.get) x.lost x.foreign)).2.2 != (tuO x).e) (fun(x4 :
  Bool) => .need (!!x4 || !x4 && !x4) (.need (x4 || !x4) (.bnd (x4||(miV (QD.mk x.d (Rw.mk x.scans.n (Qg x (tuK x w)).scans.get) (Rw.mk x.hang.n (Qg x (tuK x w)).hang.get)
  x.lost x.foreign)).2.2 != (tuO x).e) (fun(x5:Bool) => .need (!!x5 || !x5 && !x5) (.need (x5 || !x5) (.bnd (x5||(QY (QD.mk x.d (Rw.mk x.scans.n (Qk x (tuK x
  w)).scans.get) (Rw.mk x.hang.n (Qk x (tuK x w)).hang.get) x.lost x.foreign)).2.1 != (tuO x).al) (fun(x6:Bool) => .need (!!x6 || !x6 && !x6) (.need (x6 || !x6) (.bnd (x6||(miV
  (QD.mk x.d (Rw.mk x.scans.n (Qg x (tuK x w)).scans.get) (Rw.mk x.hang.n (Qg x (tuK x w)).hang.get) x.lost x.foreign)).1 != (tuO x).su) (fun(x7:Bool) => .need (!!x7 || !x7
  && !x7) (.need (x7 || !x7) (.bnd (x7||(miV (QD.mk x.d (Rw.mk x.scans.n (Qg x (tuK x w)).scans.get) (Rw.mk x.hang.n (Qg x (tuK x w)).hang.get) x.lost x.foreign)).2.1 != (tuO
  x).ma) (fun(x8:Bool) => .need (!!x8||decide ((QY (QD.mk x.d (Rw.mk x.scans.n (Qk x (tuK x w)).scans.get) (Rw.mk x.hang.n (Qk x (tuK x w)).hang.get) x.lost
  x.foreign)).1.length≤(QY (QD.mk x.d (Rw.mk x.scans.n (Qk x (tuK x w)).scans.get) (Rw.mk x.hang.n (Qk x (tuK x w)).hang.get) x.lost x.foreign)).1.length)&&(decide
  ((tuO x).cells.length≤(tuO x).cells.length)&&true)&&decide ((QY (QD.mk x.d (Rw.mk x.scans.n (Qk x (tuK x w)).scans.get) (Rw.mk x.hang.n (Qk x (tuK x w)).hang.get)
  x.lost x.foreign)).1.length≤1000∧(tuO x).cells.length≤1000)&&(!x8 && !x8)) (.need (!!x8 || !x8) (.need (x8 || !x8) (.bnd (x8 || !XR (Rw.mk (QY (QD.mk x.d (Rw.mk
  x.scans.n (Qk x (tuK x w)).scans.get) (Rw.mk x.hang.n (Qk x (tuK x w)).hang.get) x.lost x.foreign)).1.length fun i=>(QY (QD.mk x.d (Rw.mk x.scans.n (Qk x (tuK x
  w)).scans.get) (Rw.mk x.hang.n (Qk x (tuK x w)).hang.get) x.lost x.foreign)).1.getD i 0) (Rw.mk (tuO x).cells.length fun i=>(tuO x).cells.getD i 0)) (fun(x9:Bool) => .need
  (!!x9 || !x9) (.need (!!x9 || !x9) (.need (!!x9 || !x9 && !x9) (.need (x9 || !x9) (.bnd (x9||(↑(QY (QD.mk x.d (Rw.mk x.scans.n (Qg x (tuK x w)).scans.get) (Rw.mk x.hang.n
  (Qg x (tuK x w)).hang.get) x.lost x.foreign)).1.length:Int) != (↑(tuO x).cells.length:Int)) (fun(x10:Bool) => .br (x10) (.leaf (.bool true false) ([])) (.ask (tuP x w)
  (.ask (0=0) (.ask ((tuO x).cells.length=(tuO x).cells.length) (.ask (cO=cO) (.ask ((tuO x).al=(tuO x).al) (.ask ((x.scans.n:Int)=(x.scans.n:Int)) (.ask
  ((↑(tuK x w):Int)=(↑(tuK x w):Int)) (.ask (0=0) (.ask ((QY (QD.mk x.d (Rw.mk x.scans.n (Qg x (tuK x w)).scans.get) (Rw.mk x.hang.n (Qg x (tuK x w)).hang.get)
  x.lost x.foreign)).1.length=(QY (Qg x (tuK x w))).1.length) (.ask (cO=cO) (.ask ((QY (QD.mk x.d (Rw.mk x.scans.n (Qg x (tuK x w)).scans.get) (Rw.mk
  x.hang.n (Qg x (tuK x w)).hang.get) x.lost x.foreign)).2.1=(QY (Qg x (tuK x w))).2.1) (.ask ((↑(tuO x).cells.length:Int)=(↑(tuO x).cells.length:Int)) (.ask ((0 :
  Int)=0) (.ask ((tuO x).cells.length≤(tuO x).cells.length) (.ask (QE 1 (tuO x).cells.length (fun i=>QA.enc ((tuO x).cells.getD i 0)) fun i=>QA.enc ((tuO x).cells.getD
  i 0)) (.ask ((QY (Qg x (tuK x w))).1.length≤(QY (QD.mk x.d (Rw.mk x.scans.n (Qg x (tuK x w)).scans.get) (Rw.mk x.hang.n (Qg x (tuK x w)).hang.get) x.lost
  x.foreign)).1.length) (.ask (QE 1 (QY (Qg x (tuK x w))).1.length (fun i=>QA.enc ((QY (QD.mk x.d (Rw.mk x.scans.n (Qg x (tuK x w)).scans.get) (Rw.mk x.hang.n
  (Qg x (tuK x w)).hang.get) x.lost x.foreign)).1.getD i 0)) fun i=>QA.enc ((QY (Qg x (tuK x w))).1.getD i 0)) (.asm (True) (.all (fun(g11:Nat→Value) => .leaf (.bool
  true true)
  ([])))))))))))))))))))))))))))))))))))))))))))))))))))))))))))))))))))))))))))))))))))))))))))))))))))))))))))))))))))))))))))))))))))))))))))))))))))))))))))))))))))))))))))))))))))))))))))))))))))))))))))))))))))))))))))))))))))))))))))))))))))))))))))))))):=by kernel_rfl
theorem QUi:Kx (mkS Try.prog Ks) (Qq Try.f10) 8 HJ (fun x_=>(tuH Try.prog x_.1 x_.2.1)):=by
 refine⟨?_⟩;rintro⟨x,⟨w,⟨⟩⟩⟩ hp G h1 h2;exact QQW x w G h1 h2
theorem QN0:K3 (mkS Try.prog Ks) Try.f10 8 HJ (fun x_=>(tuH Try.prog x_.1 x_.2.1)):=by
 refine⟨?_⟩;rintro⟨x,⟨w,⟨⟩⟩⟩ hp;refine⟨⟨rfl,by simp[HJ],rfl⟩,⟨?_⟩⟩
 rw[QO5 x w];simp only[HJ]at hp;have ha:=qdt hp;refine QF (by simp) ?_
 refine QF ?_ ?_
 ·cases hq:Vh x 4 4 with
  | true=>rfl
  | false=>rw[qg (QLO hq)];rfl
 refine GI ?_;refine YJ ?_;refine V7 fun z0 y0 => ?_
 iterate 3 refine GI ?_
 refine YJ ?_;refine V7 fun z1 y1 => ?_;refine QK (fun b0 => ?_) (fun b0 => ?_)
 ·exact Ke rfl rfl
 ·have hh:=y1.symm.trans b0;rw[Bool.or_eq_false_iff]at hh;have hh0:=y0.symm.trans hh.1;rw[Bool.or_eq_false_iff]at hh0;have gr:=QLO hh0.1;have hx:x.ok=true:=by simpa using hh0.2
  have hn:x.scans.n≠0:=by simpa using hh.2
  have hk:=QVL x w ha (by omega)
  have T:=QH0 hx hk.1;have P:tuP x w:=⟨hx,hk.1⟩;have l1:(QY x).1.length≤x.scans.n:=T.h.hl
  have l2:(QY (QD.mk x.d (Rw.mk x.scans.n (Qk x (tuK x w)).scans.get) (Rw.mk x.hang.n (Qk x (tuK x w)).hang.get) x.lost x.foreign)).1.length≤x.scans.n:=by
   have e:=congrArg List.length T.t7;exact Nat.le_trans (Nat.le_of_eq e) l1
  have l3:(tuO x).cells.length≤x.scans.n:=l1;have f7:(!XR (Rw.mk (QY (Qk x (tuK x w))).1.length fun i=>(QY (Qk x (tuK x w))).1.getD i 0) (Rw.mk (QY x).1.length fun i=>(QY x).1.getD i 0))=false:=by rw[T.t7,QPE];rfl
  have f8:(((QY (Qg x (tuK x w))).1.length:Int) != ((QY x).1.length:Int))=false:=by rw[T.t8];simp
  refine QF (by exact qg gr) ?_
  refine QF (by exact qg gr) ?_
  refine QF (by simp;omega) ?_
  refine QF (by simp;omega) ?_
  refine QF (by rw[hk.2];simp;omega) ?_
  refine QF (by rw[hk.2];simp;omega) ?_
  refine QF (by rw[hk.2];simp;omega) ?_
  refine QF (by rw[hk.2];simp;omega) ?_
  refine QF (by rw[hk.2];simp;omega) ?_
  refine QF (by rw[hk.2];simp;omega) ?_
  refine QF (by rw[hk.2];simp;omega) ?_
  refine QF (by rw[hk.2];simp;omega) ?_
  refine QF (by rw[hk.2];simp;omega) ?_
  refine QF (by rw[hk.2];simp;omega) ?_
  refine QF (by rw[hk.2];simp;omega) ?_
  refine QF (by rw[hk.2];simp;omega) ?_
  refine QF (by rw[hk.2];simp;omega) ?_
  refine QF (by rw[hk.2];simp;omega) ?_
  refine QF (by rw[hk.2];simp;omega) ?_
  refine QF (by rw[hk.2];simp;omega) ?_
  refine Qa (by exact P) ?_
  iterate 50 refine Qa (by first|rfl|exact qlr _|exact qRr|exact trivial|exact hk.2|exact Nat.zero_add _|exact Nat.le_of_eq (Nat.zero_add _).symm) ?_
  refine Qa (by exact QMu x (tuK x w) _ _) ?_
  iterate 30 refine Qa (by first|rfl|exact qlr _|exact qRr|exact trivial|exact hk.2|exact Nat.zero_add _|exact Nat.le_of_eq (Nat.zero_add _).symm) ?_
  refine KQ fun a0 => ?_;refine KN fun g0 => ?_;refine Qa (by exact P) ?_
  iterate 90 refine Qa (by first|rfl|exact qlr _|exact qRr|exact trivial|exact hk.2|exact Nat.zero_add _|exact Nat.le_of_eq (Nat.zero_add _).symm) ?_
  refine KQ fun a1 => ?_;refine KN fun g1 => ?_;refine QF (by exact qg gr) ?_
  refine QF (by exact qg gr) ?_
  refine QF (by exact qg gr) ?_
  refine jI ?_;refine YJ ?_;refine V7 fun z2 y2 => ?_;obtain rfl:z2=false:=y2.trans (Bool.or_eq_false_iff.2 ⟨T.t1,T.t2⟩);refine jI ?_;refine YJ ?_;refine V7 fun z3 y3 => ?_;obtain rfl:z3=false:=y3.trans ((Bool.false_or _).trans T.t3);refine jI ?_;refine YJ ?_;refine V7 fun z4 y4 => ?_;obtain rfl:z4=false:=y4.trans ((Bool.false_or _).trans T.t4);refine jI ?_;refine YJ ?_;refine V7 fun z5 y5 => ?_;obtain rfl:z5=false:=y5.trans ((Bool.false_or _).trans T.t5);refine jI ?_;refine YJ ?_;refine V7 fun z6 y6 => ?_;obtain rfl:z6=false:=y6.trans ((Bool.false_or _).trans T.t6)
  refine QO2 (fun q=>by first|(simp;done)|(simp at q ⊢;omega)) ?_
  refine GI ?_;refine YJ ?_;refine V7 fun z7 y7 => ?_;obtain rfl:z7=false:=y7.trans ((Bool.false_or _).trans f7)
  iterate 2 refine GI ?_
  refine jI ?_;refine YJ ?_;refine V7 fun z8 y8 => ?_;obtain rfl:z8=false:=y8.trans ((Bool.false_or _).trans f8);refine QK (fun b1 => ?_) (fun b1 => ?_)
  ·cases b1
  ·refine Qa (by exact P) ?_
   iterate 16 refine Qa (by first|rfl|exact qlr _|exact qRr|exact trivial|exact hk.2|exact Nat.zero_add _|exact Nat.le_of_eq (Nat.zero_add _).symm) ?_
   refine KQ fun a2 => ?_;refine KN fun g2 => ?_;exact Ke rfl rfl
end Go.Proofs.Ytbpffdkemeoajaa
