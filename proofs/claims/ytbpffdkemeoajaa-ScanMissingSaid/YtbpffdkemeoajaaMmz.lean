/- open: its round (layer 7). -/
import Derived.Test.YtbpffdkemeoajaaMmy
set_option maxRecDepth 100000
namespace Go.Proofs.Ytbpffdkemeoajaa
open Go.SX
def opJ (x:QE) (k:Nat):JSt:=⟨50,[(1,.ptr 8 0 0),(12,.slz 2 0 x.hang.n (.of 0)),(13,.int false .i64 x.hang.n),(14,.int false .i64 k)],[(8,.cells 0 50 (JG 0 x))]++K9 0 x,40⟩
def QIU:Ex→List Nat
 | .normal=>[1,12,13,14]
 | .exit _=>[1]
 | .ret=>[2,3]
def Ga:JSt:=⟨50,[(2,.nilp),(3,.int false .i64 11)],[],40⟩
def QA7 (x:QE):JSt:=⟨50,[(1,.ptr 8 0 0)],[(8,.cells 0 50 (JG 0 x))]++K9 0 x,40⟩
abbrev Jp:List AV:=
  [.nili,.ptr 50 0 0,.nilp,.int true .i64 (11:Int)]
abbrev Jr (k:Nat) (x:QE):List AV:=
  [.nilp,.ptr 50 0 0,.ptr 8 0 0,.slz 2 0 x.hang.n (Cap.of 0),.int false .i64 (↑x.hang.n:Int),.int false .i64 (IntKind.i64.wrap ((↑k:Int) + (1:Int)))]
abbrev QBv (x:QE):Nat×Blk:=
  (8,.cells 0 50 [.int false .i64 x.d.play.length,.int false .i64 x.d.play.slack,.int false .i64 x.d.play.loose,.int false .i64 x.d.play.damp.lo,.int false .i64 x.d.play.damp.hi,
  .int false .i64 x.d.wide,.int false .i64 x.d.high,.bool false x.d.turn,.slz 0 0 x.d.ps.n (Cap.of 0),.slz 1 0 x.scans.n (Cap.of 0),.slz 2 0 x.hang.n (Cap.of 0),.int false .i64
  x.lost,.int false .i64 x.foreign])
abbrev QBy (x:QE):Nat×Blk:=
  (2,.frz [.int .i64,.int .i64,.int .i64,.int .i64] x.hang.n fun i=>QB.enc (x.hang.get i))
abbrev WW:List CK:=
  [.int .i64,.int .i64,.int .i64,.int .i64,.int .i64,.int .i64,.int .i64,.int .i64,.int .i64,.int .i64,.int .i64,.int .i64,.int .i64,.int .i64,.int .i64,.int .i64,.int
  .i64,.int .i64,.int .i64,.int .i64,.int .i64,.int .i64,.int .i64,.int .i64,.int .i64,.int .i64,.int .i64,.int .i64]
abbrev JV (x:QE):List (Nat×Blk):=
  [(QBv x),(QBy x),(0,.frz WW x.d.ps.n fun i=>QB.enc (x.d.ps.get i)),(1,.frz WW x.scans.n fun i=>QB.enc (x.scans.get i))]
theorem QNz (x:QE) (k:Nat) (g:Nat→Value) :exec (mkF Try.prog VL) (hnd (mkF Try.prog VL) 0) (Qf Try.f49 0) (JSt.inst (opJ x k) g) (KT [] QIU) = .br (decide ((↑k:Int) < (↑x.hang.n:Int))) (.need (decide ((0
  : Int)≤(↑k:Int)∧(↑k:Int) < (↑x.hang.n:Int))&&decide (x.hang.n≤x.hang.n)) (.need (decide (k < x.hang.n)) (.need (decide ((0:Int)≤(x.hang.get k).a∧(x.hang.get k).a
  < (↑x.scans.n:Int))&&decide (x.scans.n≤x.scans.n)) (.need (decide ((0:Int)≤(x.hang.get k).i∧(x.hang.get k).i < (4:Int))) (.br (decide ((x.hang.get k).i=(0:Int)))
  (.need (decide ((x.hang.get k).a.toNat < x.scans.n)) (.need (decide ((0:Int)≤(x.hang.get k).b∧(x.hang.get k).b < (↑x.scans.n:Int))&&decide (x.scans.n≤x.scans.n)) (.need
  (decide ((0:Int)≤(x.hang.get k).j∧(x.hang.get k).j < (4:Int))) (.br (decide ((x.hang.get k).j=(0:Int))) (.need (decide ((x.hang.get k).b.toNat < x.scans.n)) (.need
  (true) (.br ((Q5 x.d.play (x.scans.get (x.hang.get k).a.toNat).up (x.scans.get (x.hang.get k).b.toNat).up).1 == (0:Int)) (.leaf (.tup Jp) ([])) (.leaf (.tup (Jr k x)) ((JV
  x)))))) (.br (decide ((x.hang.get k).j=(1:Int))) (.need (decide ((x.hang.get k).b.toNat < x.scans.n)) (.need (true) (.br ((Q5 x.d.play (x.scans.get (x.hang.get k).a.toNat).up
  (x.scans.get (x.hang.get k).b.toNat).right).1 == (0:Int)) (.leaf (.tup Jp) ([])) (.leaf (.tup (Jr k x)) ((JV x)))))) (.br (decide ((x.hang.get k).j=(2:Int))) (.need
  (decide ((x.hang.get k).b.toNat < x.scans.n)) (.need (true) (.br ((Q5 x.d.play (x.scans.get (x.hang.get k).a.toNat).up (x.scans.get (x.hang.get k).b.toNat).down).1 == (0:Int))
  (.leaf (.tup Jp) ([])) (.leaf (.tup (Jr k x)) ((JV x)))))) (.need (decide ((x.hang.get k).b.toNat < x.scans.n)) (.need (true) (.br ((Q5 x.d.play (x.scans.get (x.hang.get
  k).a.toNat).up (x.scans.get (x.hang.get k).b.toNat).left).1 == (0:Int)) (.leaf (.tup Jp) ([])) (.leaf (.tup (Jr k x)) ((JV x)))))))))))) (.br (decide ((x.hang.get k).i=(1
  : Int))) (.need (decide ((x.hang.get k).a.toNat < x.scans.n)) (.need (decide ((0:Int)≤(x.hang.get k).b∧(x.hang.get k).b < (↑x.scans.n:Int))&&decide (x.scans.n ≤
  x.scans.n)) (.need (decide ((0:Int)≤(x.hang.get k).j∧(x.hang.get k).j < (4:Int))) (.br (decide ((x.hang.get k).j=(0:Int))) (.need (decide ((x.hang.get k).b.toNat <
  x.scans.n)) (.need (true) (.br ((Q5 x.d.play (x.scans.get (x.hang.get k).a.toNat).right (x.scans.get (x.hang.get k).b.toNat).up).1 == (0:Int)) (.leaf (.tup Jp) ([])) (.leaf
  (.tup (Jr k x)) ((JV x)))))) (.br (decide ((x.hang.get k).j=(1:Int))) (.need (decide ((x.hang.get k).b.toNat < x.scans.n)) (.need (true) (.br ((Q5 x.d.play (x.scans.get
  (x.hang.get k).a.toNat).right (x.scans.get (x.hang.get k).b.toNat).right).1 == (0:Int)) (.leaf (.tup Jp) ([])) (.leaf (.tup (Jr k x)) ((JV x)))))) (.br (decide ((x.hang.get
  k).j=(2:Int))) (.need (decide ((x.hang.get k).b.toNat < x.scans.n)) (.need (true) (.br ((Q5 x.d.play (x.scans.get (x.hang.get k).a.toNat).right (x.scans.get (x.hang.get
  k).b.toNat).down).1 == (0:Int)) (.leaf (.tup Jp) ([])) (.leaf (.tup (Jr k x)) ((JV x)))))) (.need (decide ((x.hang.get k).b.toNat < x.scans.n)) (.need (true) (.br ((Q5
  x.d.play (x.scans.get (x.hang.get k).a.toNat).right (x.scans.get (x.hang.get k).b.toNat).left).1 == (0:Int)) (.leaf (.tup Jp) ([])) (.leaf (.tup (Jr k x)) ((JV x))))))))))))
  (.br (decide ((x.hang.get k).i=(2:Int))) (.need (decide ((x.hang.get k).a.toNat < x.scans.n)) (.need (decide ((0:Int)≤(x.hang.get k).b∧(x.hang.get k).b < (↑x.scans.n :
  Int))&&decide (x.scans.n≤x.scans.n)) (.need (decide ((0:Int)≤(x.hang.get k).j∧(x.hang.get k).j < (4:Int))) (.br (decide ((x.hang.get k).j=(0:Int))) (.need (decide
  ((x.hang.get k).b.toNat < x.scans.n)) (.need (true) (.br ((Q5 x.d.play (x.scans.get (x.hang.get k).a.toNat).down (x.scans.get (x.hang.get k).b.toNat).up).1 == (0:Int)) (.leaf
  (.tup Jp) ([])) (.leaf (.tup (Jr k x)) ((JV x)))))) (.br (decide ((x.hang.get k).j=(1:Int))) (.need (decide ((x.hang.get k).b.toNat < x.scans.n)) (.need (true) (.br ((Q5
  x.d.play (x.scans.get (x.hang.get k).a.toNat).down (x.scans.get (x.hang.get k).b.toNat).right).1 == (0:Int)) (.leaf (.tup Jp) ([])) (.leaf (.tup (Jr k x)) ((JV x)))))) (.br
  (decide ((x.hang.get k).j=(2:Int))) (.need (decide ((x.hang.get k).b.toNat < x.scans.n)) (.need (true) (.br ((Q5 x.d.play (x.scans.get (x.hang.get k).a.toNat).down
  (x.scans.get (x.hang.get k).b.toNat).down).1 == (0:Int)) (.leaf (.tup Jp) ([])) (.leaf (.tup (Jr k x)) ((JV x)))))) (.need (decide ((x.hang.get k).b.toNat < x.scans.n))
  (.need (true) (.br ((Q5 x.d.play (x.scans.get (x.hang.get k).a.toNat).down (x.scans.get (x.hang.get k).b.toNat).left).1 == (0:Int)) (.leaf (.tup Jp) ([])) (.leaf (.tup (Jr k
  x)) ((JV x)))))))))))) (.need (decide ((x.hang.get k).a.toNat < x.scans.n)) (.need (decide ((0:Int)≤(x.hang.get k).b∧(x.hang.get k).b < (↑x.scans.n:Int))&&decide
  (x.scans.n≤x.scans.n)) (.need (decide ((0:Int)≤(x.hang.get k).j∧(x.hang.get k).j < (4:Int))) (.br (decide ((x.hang.get k).j=(0:Int))) (.need (decide ((x.hang.get
  k).b.toNat < x.scans.n)) (.need (true) (.br ((Q5 x.d.play (x.scans.get (x.hang.get k).a.toNat).left (x.scans.get (x.hang.get k).b.toNat).up).1 == (0:Int)) (.leaf (.tup Jp)
  ([])) (.leaf (.tup (Jr k x)) ((JV x)))))) (.br (decide ((x.hang.get k).j=(1:Int))) (.need (decide ((x.hang.get k).b.toNat < x.scans.n)) (.need (true) (.br ((Q5 x.d.play
  (x.scans.get (x.hang.get k).a.toNat).left (x.scans.get (x.hang.get k).b.toNat).right).1 == (0:Int)) (.leaf (.tup Jp) ([])) (.leaf (.tup (Jr k x)) ((JV x)))))) (.br (decide
  ((x.hang.get k).j=(2:Int))) (.need (decide ((x.hang.get k).b.toNat < x.scans.n)) (.need (true) (.br ((Q5 x.d.play (x.scans.get (x.hang.get k).a.toNat).left (x.scans.get
  (x.hang.get k).b.toNat).down).1 == (0:Int)) (.leaf (.tup Jp) ([])) (.leaf (.tup (Jr k x)) ((JV x)))))) (.need (decide ((x.hang.get k).b.toNat < x.scans.n)) (.need (true)
  (.br ((Q5 x.d.play (x.scans.get (x.hang.get k).a.toNat).left (x.scans.get (x.hang.get k).b.toNat).left).1 == (0:Int)) (.leaf (.tup Jp) ([])) (.leaf (.tup (Jr k x)) ((JV
  x))))))))))))))))))) (.leaf (.tup [.ptr 0 0 0,.ptr 50 0 0,.ptr 8 0 0]) ([(QBv x),(0,.frz WW x.d.ps.n fun i=>QB.enc (x.d.ps.get i)),(1,.frz WW x.scans.n fun i=>
  QB.enc (x.scans.get i)),(QBy x)])):=by kernel_rfl
theorem QPk :QO 8 [AV.nilp,AV.int true IntKind.i64 (11:Int)] ([]) Ga=(
  some [(11:Int)=(11:Int)]):=by kernel_rfl
theorem QOD (x:QE) (k k':Nat) :QO 8 [.ptr 8 0 0,.slz 2 0 x.hang.n (Cap.of 0),.int false .i64 (↑x.hang.n:Int),.int false .i64 (IntKind.i64.wrap ((↑k:Int) + (1:Int)))] ((JV x)) (opJ x k')=( some [0 =
  0,0=0,0=0,x.hang.n=x.hang.n,Cap.of 0=Cap.of 0,(↑x.hang.n:Int)=(↑x.hang.n:Int),IntKind.i64.wrap ((↑k:Int) + (1:Int))=(↑k':Int),x.d.play.length =
  x.d.play.length,x.d.play.slack=x.d.play.slack,x.d.play.loose=x.d.play.loose,x.d.play.damp.lo=x.d.play.damp.lo,x.d.play.damp.hi=x.d.play.damp.hi,x.d.wide=x.d.wide,
  x.d.high=x.d.high,x.d.turn=x.d.turn,0=0,x.d.ps.n=x.d.ps.n,Cap.of 0=Cap.of 0,0=0,x.scans.n=x.scans.n,Cap.of 0=Cap.of 0,0=0,x.hang.n=x.hang.n,Cap.of 0 =
  Cap.of 0,x.lost=x.lost,x.foreign=x.foreign,x.d.ps.n≤x.d.ps.n,QD 28 x.d.ps.n (fun i=>QB.enc (x.d.ps.get i)) fun i=>QB.enc (x.d.ps.get i),x.scans.n≤x.scans.n,
  QD 28 x.scans.n (fun i=>QB.enc (x.scans.get i)) fun i=>QB.enc (x.scans.get i),x.hang.n≤x.hang.n,QD 4 x.hang.n (fun i=>QB.enc (x.hang.get i)) fun i=>
  QB.enc (x.hang.get i)]):=by kernel_rfl
theorem QS9 (x:QE) :QO 8 [.ptr 8 0 0] ([(QBv x),(0,.frz WW x.d.ps.n fun i=>QB.enc (x.d.ps.get i)),(1,.frz WW x.scans.n fun i=>QB.enc (x.scans.get i)),(QBy x)]) (QA7 x)=( some
  [0=0,0=0,x.d.play.length=x.d.play.length,x.d.play.slack=x.d.play.slack,x.d.play.loose=x.d.play.loose,x.d.play.damp.lo=x.d.play.damp.lo,x.d.play.damp.hi =
  x.d.play.damp.hi,x.d.wide=x.d.wide,x.d.high=x.d.high,x.d.turn=x.d.turn,0=0,x.d.ps.n=x.d.ps.n,Cap.of 0=Cap.of 0,0=0,x.scans.n=x.scans.n,Cap.of 0=Cap.of 0,
  0=0,x.hang.n=x.hang.n,Cap.of 0=Cap.of 0,x.lost=x.lost,x.foreign=x.foreign,x.d.ps.n≤x.d.ps.n,QD 28 x.d.ps.n (fun i=>QB.enc (x.d.ps.get i)) fun i=>QB.enc
  (x.d.ps.get i),x.scans.n≤x.scans.n,QD 28 x.scans.n (fun i=>QB.enc (x.scans.get i)) fun i=>QB.enc (x.scans.get i),x.hang.n≤x.hang.n,QD 4 x.hang.n (fun i=>
  QB.enc (x.hang.get i)) fun i=>QB.enc (x.hang.get i)]):=by kernel_rfl
def Gt (s:QP) (i:Int):Edge:=match decide (i=0) with
 | true=>s.up
 | false=>match decide (i=1) with
  | true=>s.right
  | false=>match decide (i=2) with
   | true=>s.down
   | false=>s.left
def XM (x:QE) (k:Nat):Bool:=(Q5 x.d.play (Gt (x.scans.get (x.hang.get k).a.toNat) (x.hang.get k).i) (Gt (x.scans.get (x.hang.get k).b.toNat) (x.hang.get k).j)).1 == 0
def JZ (x:QE):Bool:=(QK (XM x) x.hang.n 0).isSome
def opR (x:QE) (k:Nat) (e:Ex) (J:JSt):Prop:=(e = .ret∧(QK (XM x) (x.hang.n - k) k).isSome=true∧J=Ga)∨(e = .exit 0∧(QK (XM x) (x.hang.n - k) k).isSome=false∧J=QA7 x)
theorem VX {x:QE} (h:x.ok=true):JI x:=by
 simp only [QE.ok,QE.sz,QW,Bool.and_eq_true,decide_eq_true_eq] at h
 obtain ⟨⟨h1,h2,h3,h4⟩,h5,h6,h7⟩:=h
 refine ⟨QDQ h5,by omega,by omega,fun k hk => ?_⟩
 have hj:Km x k=false:=by
  have:jxO x=none:=by
   cases e:jxO x with
   | none=>rfl
   | some i=>rw [e] at h7;simp [KH] at h7
  exact GI this k (Nat.zero_le _) (by omega)
 have hs:IntKind.i64.wrap ((x.scans.n:Int) - 1)=(x.scans.n:Int) - 1:=w64 (by omega) (by omega)
 simp only [Km,YL,hs,QW,Bool.or_eq_false_iff,Bool.not_eq_false',Bool.and_eq_true,decide_eq_true_eq] at hj
 exact ⟨⟨by omega,by omega⟩,by omega,by omega⟩
theorem QOW (x:QE) (hx:JI x):JK (opJ x) (fun k=>k≤x.hang.n) (fun k=>x.hang.n - k) (opR x) 8 QIU [] (mkF Try.prog VL) (fun _=>hnd (mkF Try.prog VL) 0) (Qf Try.f49 0):=by
 refine ⟨fun k g hk=>KF (QNz x k g) ?_⟩
 have h12:=hx.n
 refine QL (fun h => ?_) (fun h => ?_)
 ·have h:k < x.hang.n:=by have:=of_decide_eq_true h;omega
  obtain ⟨m,hm⟩:∃ m,x.hang.n - k=m + 1:=⟨x.hang.n - k - 1,by omega⟩
  have hm':x.hang.n - (k + 1)=m:=by omega
  have hw:IntKind.i64.wrap ((k:Int) + 1)=((k + 1:Nat):Int):=(w64 (by omega) (by omega)).trans (by omega)
  obtain ⟨⟨b1,b2⟩,b3,b4⟩:=hx.j k h
  have go:XM x k=false→∀ e J,opR x (k + 1) e J→opR x k e J:=fun q e J h=>by
   have hf:QK (XM x) (x.hang.n - k) k=QK (XM x) (x.hang.n - (k + 1)) (k + 1):=by rw [hm,hm',QK,q]
   unfold opR at h ⊢;rw [hf];exact h
  have stop:XM x k=true→opR x k .ret Ga:=fun q => .inl ⟨rfl,by rw [hm,QK,q];rfl,rfl⟩
  generalize hj:x.hang.get k=j at *
  have na:decide (j.a.toNat < x.scans.n)=true:=by simp;omega
  have nb:decide (j.b.toNat < x.scans.n)=true:=by simp;omega
  refine QF (by simp;omega) (QF (by simp;omega) (QF (by simp;omega) (QF (by simp;omega) ?_)))
  refine QL (fun i0 => ?_) (fun i0=>QL (fun i1 => ?_) (fun i1=>QL (fun i2 => ?_) (fun i2 => ?_)))
  all_goals
   refine QF na (QF (by simp;omega) (QF (by simp;omega) ?_))
   refine QL (fun j0 => ?_) (fun j0=>QL (fun j1 => ?_) (fun j1=>QL (fun j2 => ?_) (fun j2 => ?_)))
   all_goals
    refine QF nb (QF rfl (QL (fun q => ?_) (fun q => ?_)))
    ·refine ⟨_,stop ?_,rfl,rfl,_,QPk,⟨rfl,trivial⟩⟩
     simp only [XM,hj,Gt, *]
    ·refine ⟨k + 1,by show k + 1≤x.hang.n;omega,by show x.hang.n - (k + 1) < x.hang.n - k;omega,go ?_,rfl,rfl,_,QOD x k (k + 1),?_⟩
     ·simp only [XM,hj,Gt, *]
     ·repeat' first|exact trivial|with_reducible rfl|exact Nat.le_refl _|exact QD.refl _ _ _|exact hw|refine And.intro ?_ ?_
 ·have h:x.hang.n≤k:=by have:=of_decide_eq_false h;omega
  have hf:QK (XM x) (x.hang.n - k) k=none:=by rw [show x.hang.n - k=0 by omega];rfl
  refine ⟨_,.inr ⟨rfl,by rw [hf];rfl,rfl⟩,rfl,rfl,_,QS9 x,?_⟩
  repeat' first|exact trivial|with_reducible rfl|exact Nat.le_refl _|exact QD.refl _ _ _|refine And.intro ?_ ?_
end Go.Proofs.Ytbpffdkemeoajaa
namespace Go.Proofs.Ytbpffdkemeoajaa
open Go.SX
def opE (x:QE) (e:Int):UC:=⟨8,⟨1,[(0,.agg (JG 0 x))],K9 0 x,8⟩,fun _ => .tup [.nilp,.int false .i64 e],fun _=>[]⟩
def opO (x:QE) (C:List (List QA)):UC:=⟨8,⟨1,[(0,.agg (JG 0 x))],K9 0 x,8⟩,fun m => .tup [.ptr m 0 0,.int true .i64 0],fun m=>srO m (m + 1) x C⟩
def opX (x:QE):List (Prop×Ex×JSt):=[(JZ x=true,.ret,Ga),(JZ x=false,.exit 0,QA7 x)]
def Z1 (pb:List Prop→Bool) (x:QE) (C:List (List QA)):Tab:=QX Qu 75 (Ji pb (nsU x C))
abbrev opH (P:Program) (T:Tab) (x:QE):Hnd:={ hnd (mkE P T) 1 with loop:=fun _=>KC 8 [] (opJ x (0:Nat)) (opX x) }
abbrev QHe:List CK:=
  [.int .i64,.int .i64,.int .i64,.int .i64,.int .i64,.int .i64,.int .i64,.int .i64,.int .i64,.int .i64,.int .i64,.int .i64,.int .i64,.int .i64,.int .i64,.int .i64,.int
  .i64,.int .i64,.int .i64,.int .i64,.int .i64,.int .i64,.int .i64,.int .i64,.int .i64,.int .i64,.int .i64,.int .i64]
abbrev QE8 (C:List (List QA)) (x:QE):List (Nat×Blk):=
  [(48,.cells 0 125 [.int false .i64 x.d.play.length,.int false .i64 x.d.play.slack,.int false .i64 x.d.play.loose,.int false .i64 x.d.play.damp.lo,.int false .i64
  x.d.play.damp.hi,.int false .i64 x.d.wide,.int false .i64 x.d.high,.bool false x.d.turn,.slz 0 0 x.d.ps.n (Cap.of 0),.slz 1 0 x.scans.n (Cap.of 0),.slz 2 0 x.hang.n (Cap.of
  0),.int false .i64 x.lost,.int false .i64 x.foreign,.slz 49 0 C.length (Cap.of 0)]),(0,.frz QHe x.d.ps.n fun i=>QB.enc (x.d.ps.get i)),(1,.frz QHe x.scans.n fun i=>
  QB.enc (x.scans.get i)),(2,.frz [.int .i64,.int .i64,.int .i64,.int .i64] x.hang.n fun i=>QB.enc (x.hang.get i)),(49,.frz2 true 38 [.int .i64,.int .i64] C.length (fun
  i=>(QJ C i).length) fun i j=>QB.enc ((QJ C i).getD j (QA.mk (0:Int) (0:Int))))]
theorem QFC (pb:List Prop→Bool) (x:QE) (C:List (List QA)) :VG (mkE Try.prog (Z1 pb x C)) (opH Try.prog (Z1 pb x C) x) Try.f49 (opO x C) = .need (decide (x.d.ps.n≤x.d.ps.n)&&(decide (x.scans.n≤x.scans.n)&&(decide (x.hang.n
  ≤ x.hang.n)&&true))&&decide (x.d.ps.n≤1000∧x.scans.n≤1000∧x.hang.n≤1000)) (.br (!x.ok) (.leaf (.tup [.nilp,.int true .i64 (1:Int)]) ([])) (.ask (0=0) (.ask (0 =
  0) (.ask (0=0) (.ask (x.hang.n=x.hang.n) (.ask (Cap.of 0=Cap.of 0) (.ask ((↑x.hang.n:Int)=(↑x.hang.n:Int)) (.ask ((0:Int)=(0:Int)) (.ask (x.d.play.length =
  x.d.play.length) (.ask (x.d.play.slack=x.d.play.slack) (.ask (x.d.play.loose=x.d.play.loose) (.ask (x.d.play.damp.lo=x.d.play.damp.lo) (.ask (x.d.play.damp.hi =
  x.d.play.damp.hi) (.ask (x.d.wide=x.d.wide) (.ask (x.d.high=x.d.high) (.ask (x.d.turn=x.d.turn) (.ask (0=0) (.ask (x.d.ps.n=x.d.ps.n) (.ask (Cap.of 0=Cap.of 0) (.ask (0
  = 0) (.ask (x.scans.n=x.scans.n) (.ask (Cap.of 0=Cap.of 0) (.ask (0=0) (.ask (x.hang.n=x.hang.n) (.ask (Cap.of 0=Cap.of 0) (.ask (x.lost=x.lost) (.ask (x.foreign =
  x.foreign) (.ask (x.d.ps.n≤x.d.ps.n) (.ask (QD 28 x.d.ps.n (fun i=>QB.enc (x.d.ps.get i)) fun i=>QB.enc (x.d.ps.get i)) (.ask (x.scans.n≤x.scans.n) (.ask (QD 28
  x.scans.n (fun i=>QB.enc (x.scans.get i)) fun i=>QB.enc (x.scans.get i)) (.ask (x.hang.n≤x.hang.n) (.ask (QD 4 x.hang.n (fun i=>QB.enc (x.hang.get i)) fun i=>
  QB.enc (x.hang.get i)) (.both (.asm (JZ x=true) (.all (fun (g0:Nat→Value) => .leaf (.tup [.nilp,.int false .i64 (11:Int)]) ([])))) (.asm (JZ x=false) (.all
  (fun (g1:Nat→Value) => .need (pb ([x.d.play.length=x.d.play.length,x.d.play.slack=x.d.play.slack,x.d.play.loose=x.d.play.loose,x.d.play.damp.lo=x.d.play.damp.lo,
  x.d.play.damp.hi=x.d.play.damp.hi,x.d.wide=x.d.wide,x.d.high=x.d.high,x.d.turn=x.d.turn,0=0,x.d.ps.n=x.d.ps.n,Cap.of 0=Cap.of 0,0=0,x.scans.n=x.scans.n,
  Cap.of 0=Cap.of 0,0=0,x.hang.n=x.hang.n,Cap.of 0=Cap.of 0,x.lost=x.lost,x.foreign=x.foreign,x.d.ps.n≤x.d.ps.n,QD 28 x.d.ps.n (fun i=>QB.enc (x.d.ps.get
  i)) fun i=>QB.enc (x.d.ps.get i),x.scans.n≤x.scans.n,QD 28 x.scans.n (fun i=>QB.enc (x.scans.get i)) fun i=>QB.enc (x.scans.get i),x.hang.n≤x.hang.n,QD 4
  x.hang.n (fun i=>QB.enc (x.hang.get i)) fun i=>QB.enc (x.hang.get i)])) (.leaf (.tup [.ptr 48 0 0,.int true .i64 (0:Int)]) ((QE8 C
  x)))))))))))))))))))))))))))))))))))))))):=by kernel_rfl
abbrev opN (P : Program) : Hnd := { hnd (mkE P Qu) 1 with loop := fun _ _ _ => .fail "a loop" }
theorem QK4 (x:QE):VG (mkE Try.prog Qu) (opN Try.prog) Try.f49 (opE x 1) =
  QC.need (decide (x.d.ps.n ≤ x.d.ps.n) && (decide (x.scans.n ≤ x.scans.n) && (decide (x.hang.n ≤ x.hang.n) && true)) && decide (x.d.ps.n ≤ (1000 : Nat) ∧ x.scans.n ≤ (1000 : Nat) ∧ x.hang.n ≤ (1000 : Nat))) (QC.br (!x.ok) (QC.leaf (AV.tup [AV.nilp, AV.int true IntKind.i64 (1 : Int)]) ([])) (QC.fail ("a loop"))) := by kernel_rfl
theorem QOr (x:QE) (e:Int):QO 8 [(AV.tup [AV.nilp,AV.int true IntKind.i64 (1:Int)])] ([]) (K2 (opE x e))=(
  some [(1:Int)=e]):=by kernel_rfl
theorem QMO (x:QE) (e:Int):QO 8 [(AV.tup [AV.nilp,AV.int false IntKind.i64 (11:Int)])] ([]) (K2 (opE x e))=(
  some [(11:Int)=e]):=by kernel_rfl
theorem QNe (x:QE) (C:List (List QA)) :QO 8 [(.tup [.ptr 48 0 0,.int true .i64 (0:Int)])] ((QE8 C x)) (K2 (opO x C))=( some [0=0,0=0,(0:Int)=(0:Int),x.d.play.length=x.d.play.length,
  x.d.play.slack=x.d.play.slack,x.d.play.loose=x.d.play.loose,x.d.play.damp.lo=x.d.play.damp.lo,x.d.play.damp.hi=x.d.play.damp.hi,x.d.wide=x.d.wide,x.d.high=x.d.high,
  x.d.turn=x.d.turn,0=0,x.d.ps.n=x.d.ps.n,Cap.of 0=Cap.of 0,0=0,x.scans.n=x.scans.n,Cap.of 0=Cap.of 0,0=0,x.hang.n=x.hang.n,Cap.of 0=Cap.of 0,x.lost =
  x.lost,x.foreign=x.foreign,0=0,C.length=C.length,Cap.of 0=Cap.of 0,C.length=C.length,Kd 2 C.length (fun i=>(QJ C i).length) (fun i=>(QJ C i).length)
  (fun i j=>QB.enc ((QJ C i).getD j (QA.mk (0:Int) (0:Int)))) fun i j=>QB.enc ((QJ C i).getD j (QA.mk (0:Int) (0:Int)))]):=by kernel_rfl
theorem QId (x:QE) (e:Int):(opE x e).Ok:=by
 refine ⟨(by decide:8≤8),rfl,rfl,?_,rfl,fun nid h=>rfl,fun nid h=>rfl⟩
 intro q hq
 simp only [UC.po,opE,List.not_mem_nil] at hq
theorem QRZ (x:QE) (C:List (List QA)):(opO x C).Ok:=by
 refine ⟨(by decide:8≤8),rfl,rfl,?_,rfl,fun nid h => ?_,fun nid h => ?_⟩
 ·intro q hq
  simp only [UC.po,opO,srO,Yl,List.mem_cons,List.not_mem_nil,or_false] at hq
  rcases hq with rfl|rfl
  ·exact ⟨rfl,rfl,rfl,fun h=>absurd (show 8 < 8 from h) (by decide)⟩
  ·exact ⟨rfl,rfl,rfl,fun h=>absurd (show 9 < 8 from h) (by decide)⟩
 ·have e0:=Z9 0 nid
  simp only [UC.va,opO,AV.mapId,AV.mapIdL,Nat.add_zero] at e0 ⊢
  rw [e0]
 ·have e0:=Z9 0 nid
  have e1:=Z9 1 nid
  have l0:=W4 (i:=0) (by decide) nid
  have l1:=W4 (i:=1) (by decide) nid
  have l2:=W4 (i:=2) (by decide) nid
  simp only [UC.po,opO,srO,Yl,JG,Qy.val,List.cons_append,List.nil_append,List.map_cons,List.map_nil,Blk.mapId,AV.mapId,AV.mapIdL,Nat.add_zero,Nat.zero_add] at e0 e1 l0 l1 l2 ⊢
  rw [e0,e1,l0,l1,l2]
structure YN (x:QE):Prop where
 d:x.d.ps.n≤1000
 s:x.scans.n≤1000
 h:x.hang.n≤1000
theorem QBl {x:QE} (hx:JI x):QU (Z1 Qo x (Qr x x.scans.n)):=by
 have:=hx.d.n9
 have:=hx.s
 exact KD.add (QT2 x (by omega) (by omega))
theorem QKC {x:QE} (hx:JI x) (G:Ctx) (hrd:G.rd=none) (hG:G.n=8):Q4 (mkE Try.prog (Z1 Qo x (Qr x x.scans.n))) G (opH Try.prog (Z1 Qo x (Qr x x.scans.n)) x) (Qm Try.f49):=by
 have hE:=QN (QBl hx)
 refine JR (body:=Qf Try.f49 0) hE hrd (by kernel_rfl) ?_
 refine WC (E:=mkF Try.prog VL) rfl (Je (n0:=8) (QGm qS) (by omega) (fun s hs=>Qt (QGm qS) 0 G _ hrd) (fun s hs=>(by decide:8≤40)) ?_ (QOW x hx) (s0:=0) (Nat.zero_le _) ?_)
 ·rintro s e J (⟨_,_,rfl⟩|⟨_,_,rfl⟩)<;>exact (by decide:8≤40)
 ·rintro e J (⟨rfl,h,rfl⟩|⟨rfl,h,rfl⟩)
  ·exact ⟨_,List.mem_cons_self,h,rfl,rfl⟩
  ·exact ⟨_,List.mem_cons_of_mem _ List.mem_cons_self,h,rfl,rfl⟩
theorem QS1 (G:Ctx) (hrd:G.rd=none):Q4 (mkE Try.prog Qu) G (opN Try.prog) (Qm Try.f49):=
 JR (body:=Qf Try.f49 0) (QN KD) hrd (by kernel_rfl) (fun _ _ _ _ _ _ _ h _ _=>h.elim)
theorem QEG (x:QE) (hs:YN x) (hx:x.ok=false):QM Try.prog 49 (uFC (opE x 1)):=by
 refine Jz (E:=mkE Try.prog Qu) (QN KD) Try.func49 (by kernel_rfl) (by kernel_rfl) (QId ..) (fun G h1 _=>QS1 G h1) ⟨?_⟩
 refine KF (QK4 x) ?_
 refine QF (by simp;exact ⟨hs.d,hs.s,hs.h⟩) (QL (fun h => ?_) (fun h => ?_))
 ·exact ⟨rfl,rfl,_,QOr x 1,⟨rfl,trivial⟩⟩
 ·rw [hx] at h;cases h
theorem QIl (x:QE) (hs:YN x) (hx:x.ok=true) (hr:JZ x=true):QM Try.prog 49 (uFC (opE x 11)):=by
 refine Jz (E:=mkE Try.prog (Z1 Qo x (Qr x x.scans.n))) (QN (QBl (VX hx))) Try.func49 (by kernel_rfl) (by kernel_rfl) (QId ..) (QKC (VX hx)) ⟨?_⟩
 generalize Qr x x.scans.n=C
 refine KF (QFC Qo x C) ?_
 refine QF (by simp;exact ⟨hs.d,hs.s,hs.h⟩) (QL (fun h=>by rw [hx] at h;cases h) (fun h => ?_))
 repeat' first|refine Qc (p:=_=_) rfl ?_|refine Qc (p:=_≤_) (Nat.le_refl _) ?_|refine Qc (p:=QD _ _ _ _) (QD.refl _ _ _) ?_
 refine Xc (KQ fun _=>KX fun g => ?_) (KQ fun h3=>by rw [hr] at h3;cases h3)
 exact ⟨rfl,rfl,_,QMO x 11,⟨rfl,trivial⟩⟩
theorem QCg (x:QE) (hs:YN x) (hx:x.ok=true) (hr:JZ x=false):QM Try.prog 49 (uFC (opO x (Qr x x.scans.n))):=by
 refine Jz (E:=mkE Try.prog (Z1 Qo x (Qr x x.scans.n))) (QN (QBl (VX hx))) Try.func49 (by kernel_rfl) (by kernel_rfl) (QRZ ..) (QKC (VX hx)) ⟨?_⟩
 generalize Qr x x.scans.n=C
 refine KF (QFC Qo x C) ?_
 refine QF (by simp;exact ⟨hs.d,hs.s,hs.h⟩) (QL (fun h=>by rw [hx] at h;cases h) (fun h => ?_))
 repeat' first|refine Qc (p:=_=_) rfl ?_|refine Qc (p:=_≤_) (Nat.le_refl _) ?_|refine Qc (p:=QD _ _ _ _) (QD.refl _ _ _) ?_
 refine Xc (KQ fun h3=>by rw [hr] at h3;cases h3) (KQ fun _=>KX fun g => ?_)
 refine QF (Kr.2 ?_) ⟨rfl,rfl,_,QNe x C,?_⟩
 ·repeat' first|exact trivial|with_reducible rfl|exact Nat.le_refl _|exact QD.refl _ _ _|exact Qp _ _ _ _|refine And.intro ?_ ?_
 ·repeat' first|exact trivial|with_reducible rfl|exact Nat.le_refl _|exact QD.refl _ _ _|exact Qp _ _ _ _|refine And.intro ?_ ?_
end Go.Proofs.Ytbpffdkemeoajaa
namespace Go.Proofs.Ytbpffdkemeoajaa
open Go.SX
def mmB (l:List QA) (sure may all:Int):List (Nat×Blk):=[(200,.frz [.int .i64,.int .i64] l.length fun i=>QB.enc (l.getD i ⟨0,0⟩)),(16,.cells 0 3 [.int false .i64 sure]),(24,.cells 0 3 [.int false .i64 may]),(160,.cellsR 0 3 [.int false .i64 all])]
def mmJ (l:List QA) (n sure may all has:Int) (k:Nat):JSt:=⟨34,[(0,.int false .i64 n),(2,.ptr 16 0 0),(3,.ptr 24 0 0),(4,.ptr 160 0 0),(8,.ptr 216 0 0),(11,.slz 200 0 l.length (.of 0)),(12,.int false .i64 l.length),(13,.int false .i64 k)],[(216,.cells 0 92 [.int false .i64 has])]++mmB l sure may all,248⟩
def mmE (n sure may all has:Int):JSt:=⟨34,[(0,.int false .i64 n),(2,.ptr 16 0 0),(3,.ptr 24 0 0),(4,.ptr 160 0 0),(8,.ptr 216 0 0)],[(216,.cells 0 92 [.int false .i64 has]),(16,.cells 0 3 [.int false .i64 sure]),(24,.cells 0 3 [.int false .i64 may]),(160,.cellsR 0 3 [.int false .i64 all])],248⟩
def QFz:Ex→List Nat
 | .normal=>[0,2,3,4,8,11,12,13]
 | .exit _=>[0,2,3,4,8]
 | .ret=>[]
abbrev QEF (k:Nat) (l:List QA) (n:Int):List AV:=
  [.nilp,.ptr 34 0 0,.int false .i64 n,.ptr 16 0 0,.ptr 24 0 0,.ptr 160 0 0,.ptr 216 0 0,.slz 200 0 l.length (Cap.of 0),.int false .i64 (↑l.length:Int),.int false .i64
  (IntKind.i64.wrap ((↑k:Int) + (1:Int)))]
abbrev QHD (all:Int) (has:Int) (k:Nat) (l:List QA) (may:Int) (sure:Int):List (Nat×Blk):=
  [(16,.cells 0 3 [.int false .i64 sure]),(24,.cells 0 3 [.int false .i64 may]),(160,.cellsR 0 3 [.int false .i64 all]),(216,.cells 0 92 [.int false .i64 (IntKind.i64.wrap
  (↑(BitVec.ofInt 64 has ||| BitVec.ofInt 64 (IntKind.i64.wrap ((1:Int) * (2:Int) ^ min (l.getD k (QA.mk (0:Int) (0:Int))).cell.toNat 64))).toNat:Int))]),(200,.frz [.int
  .i64,.int .i64] l.length fun i=>QB.enc (l.getD i (QA.mk (0:Int) (0:Int))))]
theorem QRg (l:List QA) (n sure may all has:Int) (k:Nat) (g:Nat→Value) :exec (mkE Try.prog Qu) (hnd (mkE Try.prog Qu) 3) (Qf Try.f54 0) (JSt.inst (mmJ l n sure may all has k) g) (KT [16,24] QFz) = .br (decide ((↑k:Int) < (↑l.length :
  Int))) (.need (decide ((0:Int)≤(↑k:Int)∧(↑k:Int) < (↑l.length:Int))&&decide (l.length≤l.length)) (.need (decide (k < l.length)) (.br ((l.getD k (QA.mk (0:Int) (0
  : Int))).cell != (-2:Int)) (.need (decide ((0:Int)≤(l.getD k (QA.mk (0:Int) (0:Int))).cell)) (.leaf (.tup (QEF k l n)) ((QHD all has k l may sure)))) (.leaf (.tup
  (QEF k l n)) ([(16,.cells 0 3 [.int false .i64 sure]),(24,.cells 0 3 [.int false .i64 may]),(160,.cellsR 0 3 [.int false .i64 all]),(216,.cells 0 92 [.int false .i64 has]),
  (200,.frz [.int .i64,.int .i64] l.length fun i=>QB.enc (l.getD i (QA.mk (0:Int) (0:Int))))]))))) (.leaf (.tup [.ptr 0 0 0,.ptr 34 0 0,.int false .i64 n,.ptr 16 0 0,
  .ptr 24 0 0,.ptr 160 0 0,.ptr 216 0 0]) ([(16,.cells 0 3 [.int false .i64 sure]),(24,.cells 0 3 [.int false .i64 may]),(160,.cellsR 0 3 [.int false .i64 all]),(216,.cells 0
  92 [.int false .i64 has])])):=by kernel_rfl
theorem QSH (l:List QA) (n sure may all has has':Int) (k k':Nat) :QO 208 [.int false .i64 n,.ptr 16 0 0,.ptr 24 0 0,.ptr 160 0 0,.ptr 216 0 0,.slz 200 0 l.length (Cap.of 0),.int false .i64 (↑l.length:Int),.int false .i64
  (IntKind.i64.wrap ((↑k:Int) + (1:Int)))] ((QHD all has k l may sure)) (mmJ l n sure may all has' k')=( some [n=n,0=0,0=0,0=0,0=0,0=0,0=0,0=0,0=0,0
  = 0,l.length=l.length,Cap.of 0=Cap.of 0,(↑l.length:Int)=(↑l.length:Int),IntKind.i64.wrap ((↑k:Int) + (1:Int))=(↑k':Int),IntKind.i64.wrap (↑(BitVec.ofInt 64
  has ||| BitVec.ofInt 64 (IntKind.i64.wrap ((1:Int) * (2:Int) ^ min (l.getD k (QA.mk (0:Int) (0:Int))).cell.toNat 64))).toNat:Int)=has',l.length≤l.length,QD 2
  l.length (fun i=>QB.enc (l.getD i (QA.mk (0:Int) (0:Int)))) fun i=>QB.enc (l.getD i (QA.mk (0:Int) (0:Int))),sure=sure,may=may,all=all]):=by kernel_rfl
theorem QQs (l:List QA) (n sure may all has has':Int) (k k':Nat):QO 208 [AV.int false IntKind.i64 n,AV.ptr (16:Nat) (0:Nat) (0:Nat),AV.ptr (24:Nat) (0:Nat) (0:Nat),AV.ptr (160:Nat) (0:Nat) (0:Nat),AV.ptr (216:Nat) (0:Nat) (0:Nat),AV.slz (200:Nat) (0:Nat) l.length (Cap.of (0:Nat)),AV.int false IntKind.i64 (↑l.length:Int),AV.int false IntKind.i64 (IntKind.i64.wrap ((↑k:Int) + (1:Int)))] ([((16:Nat),Blk.cells (0:Nat) (3:Nat) [AV.int false IntKind.i64 sure]),((24:Nat),Blk.cells (0:Nat) (3:Nat) [AV.int false IntKind.i64 may]),((160:Nat),Blk.cellsR (0:Nat) (3:Nat) [AV.int false IntKind.i64 all]),((216:Nat),Blk.cells (0:Nat) (92:Nat) [AV.int false IntKind.i64 has]),((200:Nat),Blk.frz [CK.int IntKind.i64,CK.int IntKind.i64] l.length fun i=>QB.enc (l.getD i (QA.mk (0:Int) (0:Int))))]) (mmJ l n sure may all has' k')=(
  some [n=n,(0:Nat)=(0:Nat),(0:Nat)=(0:Nat),(0:Nat)=(0:Nat),(0:Nat)=(0:Nat),(0:Nat)=(0:Nat),(0:Nat)=(0:Nat),(0:Nat)=(0:Nat),(0 :
  Nat)=(0:Nat),(0:Nat)=(0:Nat),l.length=l.length,Cap.of (0:Nat)=Cap.of (0:Nat),(↑l.length:Int)=(↑l.length:Int),IntKind.i64.wrap ((↑k:Int) + (1:Int)) =
  (↑k':Int),has=has',l.length≤l.length,QD (2:Nat) l.length (fun i=>QB.enc (l.getD i (QA.mk (0:Int) (0:Int)))) fun i=>QB.enc (l.getD i (QA.mk (0:Int)
  (0:Int))),sure=sure,may=may,all=all]):=by kernel_rfl
theorem QTN (n sure may all has has':Int):QO 208 [AV.int false IntKind.i64 n,AV.ptr (16:Nat) (0:Nat) (0:Nat),AV.ptr (24:Nat) (0:Nat) (0:Nat),AV.ptr (160:Nat) (0:Nat) (0:Nat),AV.ptr (216:Nat) (0:Nat) (0:Nat)] ([((16:Nat),Blk.cells (0:Nat) (3:Nat) [AV.int false IntKind.i64 sure]),((24:Nat),Blk.cells (0:Nat) (3:Nat) [AV.int false IntKind.i64 may]),((160:Nat),Blk.cellsR (0:Nat) (3:Nat) [AV.int false IntKind.i64 all]),((216:Nat),Blk.cells (0:Nat) (92:Nat) [AV.int false IntKind.i64 has])]) (mmE n sure may all has')=(
  some [n=n,(0:Nat)=(0:Nat),(0:Nat)=(0:Nat),(0:Nat)=(0:Nat),(0:Nat)=(0:Nat),(0:Nat)=(0:Nat),(0:Nat)=(0:Nat),(0:Nat)=(0:Nat),(0 :
  Nat)=(0:Nat),has=has',sure=sure,may=may,all=all]):=by kernel_rfl
def Vc (s c:Int):Int:=IntKind.i64.wrap ((BitVec.ofInt 64 s ||| BitVec.ofInt 64 (IntKind.i64.wrap (1 * 2 ^ min c.toNat 64))).toNat:Nat)
def zo (s:Int) (x:QA):Int:=match x.cell != -2 with
 | true=>Vc s x.cell
 | false=>s
def KJ (l:List QA):Nat→Int
 | 0=>0
 | k + 1=>zo (KJ l k) (l.getD k ⟨0,0⟩)
structure zx (l:List QA):Prop where
 le:l.length≤1000
 s:∀ i,i < l.length→(l.getD i ⟨0,0⟩).cell = -2∨0≤(l.getD i ⟨0,0⟩).cell
theorem QLj (l:List QA) (n sure may all:Int) (hl:zx l):JK (fun k=>mmJ l n sure may all (KJ l k) k) (fun k=>k≤l.length) (fun k=>l.length - k) (fun _ e J=>e = .exit 0∧J=mmE n sure may all (KJ l l.length)) 208 QFz [16,24] (mkE Try.prog Qu) (fun _=>hnd (mkE Try.prog Qu) 3) (Qf Try.f54 0):=by
 refine ⟨fun k g hk=>KF (QRg l n sure may all (KJ l k) k g) ?_⟩
 have hle:=hl.le
 refine QL (fun h => ?_) (fun h => ?_)
 ·have h:k < l.length:=by have:=of_decide_eq_true h;omega
  have hw:IntKind.i64.wrap ((k:Int) + 1)=((k + 1:Nat):Int):=(w64 (by omega) (by omega)).trans (by omega)
  have hs:=hl.s k h
  refine QF (by simp;omega) (QF (by simp;omega) (QL (fun hc=>QF ?_ ?_) (fun hc => ?_)))
  ·have:¬ (l.getD k ⟨0,0⟩).cell = -2:=by simpa using hc
   exact decide_eq_true (by omega)
  ·refine ⟨k + 1,h,by show l.length - (k + 1) < l.length - k;omega,fun _ _ h=>h,rfl,rfl,_,QSH l n sure may all (KJ l k) (KJ l (k + 1)) k (k + 1),?_⟩
   have e:Vc (KJ l k) (l.getD k ⟨0,0⟩).cell=KJ l (k + 1):=by simp only [KJ,zo,hc]
   repeat' first|exact trivial|with_reducible rfl|exact Nat.le_refl _|exact QD.refl _ _ _|exact hw|exact e|refine And.intro ?_ ?_
  ·refine ⟨k + 1,h,by show l.length - (k + 1) < l.length - k;omega,fun _ _ h=>h,rfl,rfl,_,QQs l n sure may all (KJ l k) (KJ l (k + 1)) k (k + 1),?_⟩
   have e:KJ l k=KJ l (k + 1):=by simp only [KJ,zo,hc]
   repeat' first|exact trivial|with_reducible rfl|exact Nat.le_refl _|exact QD.refl _ _ _|exact hw|exact e|refine And.intro ?_ ?_
 ·have:k=l.length:=by have:=of_decide_eq_false h;omega
  subst this
  refine ⟨_,⟨rfl,rfl⟩,rfl,rfl,_,QTN n sure may all _ _,?_⟩
  repeat' first|exact trivial|with_reducible rfl|exact Nat.le_refl _|refine And.intro ?_ ?_
abbrev mmH (P:Program) (l:List QA) (n sure may all has:Int):Hnd:={ hnd (mkE P Qu) 1 with loop:=fun _=>KC 208 [16,24] (mmJ l n sure may all 0 (0:Nat)) [(True,.exit 0,mmE n sure may all has)] }
theorem QS3 (l:List QA) (n sure may all:Int) (hl:zx l) (G:Ctx) (hrd:G.rd=none) (hG:G.n=208):Q4 (mkE Try.prog Qu) G (mmH Try.prog l n sure may all (KJ l l.length)) (Qm Try.f54):=by
 refine JR (body:=Qf Try.f54 0) (QN KD) hrd (by kernel_rfl) ?_
 refine Je (n0:=208) (QN KD) (by omega) (fun s hs=>Qt (QN KD) 3 G _ hrd) (fun s hs=>(by decide:208≤248)) ?_ (QLj l n sure may all hl) (s0:=0) (Nat.zero_le _) ?_
 ·rintro s e J ⟨_,rfl⟩;exact (by decide:208≤248)
 ·rintro e J ⟨rfl,rfl⟩
  exact ⟨_,List.mem_cons_self,trivial,rfl,rfl⟩
def K0 (a b:Int):Int:=IntKind.i64.wrap ((BitVec.ofInt 64 a &&& ~~~BitVec.ofInt 64 b).toNat:Nat)
def orN (a b:Int):Int:=IntKind.i64.wrap ((BitVec.ofInt 64 a ||| BitVec.ofInt 64 b).toNat:Nat)
def mmU (l:List QA) (n sure may all has:Int):UC:=⟨32,⟨5,[(0,.int false .i64 n),(1,.slz 200 0 l.length (.of 0)),(2,.ptr 16 0 0),(3,.ptr 24 0 0),(4,.ptr 160 0 0)],mmB l sure may all,208⟩,fun _ => .int false .i64 n,fun _=>[(16,.cells 0 3 [.int false .i64 (K0 sure has)]),(24,.cells 0 3 [.int false .i64 (orN may (K0 all has))])]⟩
theorem QSi (l:List QA) (n sure may all has:Int):VG (mkE Try.prog Qu) (mmH Try.prog l n sure may all has) Try.f54 (mmU l n sure may all has) =
  QC.ask (n=n) (QC.ask ((0:Nat)=(0:Nat)) (QC.ask ((0:Nat)=(0:Nat)) (QC.ask ((0:Nat)=(0:Nat)) (QC.ask ((0:Nat)=(0:Nat)) (QC.ask ((0:Nat)=(0 :
  Nat)) (QC.ask ((0:Nat)=(0:Nat)) (QC.ask ((0:Nat)=(0:Nat)) (QC.ask ((0:Nat)=(0:Nat)) (QC.ask ((0:Nat)=(0:Nat)) (QC.ask (l.length=l.length)
  (QC.ask (Cap.of (0:Nat)=Cap.of (0:Nat)) (QC.ask ((↑l.length:Int)=(↑l.length:Int)) (QC.ask ((0:Int)=(0:Int)) (QC.ask ((0:Int)=(0:Int)) (QC.ask
  (l.length≤l.length) (QC.ask (QD (2:Nat) l.length (fun i=>QB.enc (l.getD i (QA.mk (0:Int) (0:Int)))) fun i=>QB.enc (l.getD i (QA.mk (0:Int) (0:Int))))
  (QC.ask (sure=sure) (QC.ask (may=may) (QC.ask (all=all) (QC.asm (True) (QC.all (fun (g0:Nat→Value)=>QC.leaf (AV.int false IntKind.i64 n) ([((16:Nat),
  Blk.cells (0:Nat) (3:Nat) [AV.int false IntKind.i64 (IntKind.i64.wrap (↑(BitVec.ofInt (64:Nat) sure &&& ~~~BitVec.ofInt (64:Nat) has).toNat:Int))]),((24:Nat),Blk.cells
  (0:Nat) (3:Nat) [AV.int false IntKind.i64 (IntKind.i64.wrap (↑(BitVec.ofInt (64:Nat) may ||| BitVec.ofInt (64:Nat) (IntKind.i64.wrap (↑(BitVec.ofInt (64:Nat) all &&&
  ~~~BitVec.ofInt (64:Nat) has).toNat:Int))).toNat:Int))])]))))))))))))))))))))))):=by kernel_rfl
theorem QOe (l:List QA) (n sure may all has:Int):QO 208 [(AV.int false IntKind.i64 n)] ([((16:Nat),Blk.cells (0:Nat) (3:Nat) [AV.int false IntKind.i64 (IntKind.i64.wrap (↑(BitVec.ofInt (64:Nat) sure &&& ~~~BitVec.ofInt (64:Nat) has).toNat:Int))]),((24:Nat),Blk.cells (0:Nat) (3:Nat) [AV.int false IntKind.i64 (IntKind.i64.wrap (↑(BitVec.ofInt (64:Nat) may ||| BitVec.ofInt (64:Nat) (IntKind.i64.wrap (↑(BitVec.ofInt (64:Nat) all &&& ~~~BitVec.ofInt (64:Nat) has).toNat:Int))).toNat:Int))])]) (K2 (mmU l n sure may all has))=(
  some [n=n,IntKind.i64.wrap (↑(BitVec.ofInt (64:Nat) sure &&& ~~~BitVec.ofInt (64:Nat) has).toNat:Int)=K0 sure has,IntKind.i64.wrap (↑(BitVec.ofInt (64:Nat) may |||
  BitVec.ofInt (64:Nat) (IntKind.i64.wrap (↑(BitVec.ofInt (64:Nat) all &&& ~~~BitVec.ofInt (64:Nat) has).toNat:Int))).toNat:Int)=orN may (K0 all has)]):=by kernel_rfl
theorem QKs (l:List QA) (n sure may all:Int) (hl:zx l):QM Try.prog 54 (uFC (mmU l n sure may all (KJ l l.length))):=by
 refine Jz (E:=mkE Try.prog Qu) (QN KD) Try.func54 (by kernel_rfl) (by kernel_rfl) ?_ (QS3 l n sure may all hl) ⟨?_⟩
 ·refine ⟨(by decide:32≤208),rfl,rfl,?_,rfl,fun _ _=>rfl,fun _ _=>rfl⟩
  intro q hq
  simp only [UC.po,mmU,List.mem_cons,List.not_mem_nil,or_false] at hq
  rcases hq with rfl|rfl<;>exact ⟨rfl,rfl,rfl,fun _=>rfl⟩
 refine KF (QSi l n sure may all (KJ l l.length)) ?_
 repeat' first|refine QF rfl ?_|refine Qc (p:=_=_) rfl ?_|refine Qc (p:=_≤_) (Nat.le_refl _) ?_|refine Qc (p:=QD _ _ _ _) (QD.refl _ _ _) ?_
 refine KQ fun _=>KX fun g=>⟨rfl,rfl,_,QOe l n sure may all _,?_⟩
 repeat' first|exact trivial|with_reducible rfl|exact Nat.le_refl _|exact QD.refl _ _ _|exact (show _=K0 _ _ from rfl)|exact (show _=orN _ _ from rfl)|refine And.intro ?_ ?_
end Go.Proofs.Ytbpffdkemeoajaa
namespace Go.Proofs.Ytbpffdkemeoajaa
open Go.SX
inductive Res (σ:Type) where
 | go (s:σ) (has:Int→Bool)
 | stop (s:σ) (has:Int→Bool)
def QI (l:List QA) (c:Int):Int:=(l.countP fun s=>s.cell == c:Nat)
def Jd {σ:Type} (f:σ→(Int→Bool)→QA→Res σ):List QA→σ→(Int→Bool)→Res σ
 | [],s,h => .go s h
 | c::l,s,h=>match f s h c with
  | .go s h=>Jd f l s h
  | .stop s h => .stop s h
def KN (x:QE) (l:List QA) (c:QA):Bool:=decide (QI l c.cell≥(match c.cell == -2 with|true=>x.foreign|false=>1))
def X4 (x:QE) (l:List QA):Bool:=decide ((x.d.ps.n:Int) - ((l.length:Int) - QI l (-2)) > x.lost)
def JN {σ:Type} (x:QE) (l:List QA) (rec:σ→(Int→Bool)→QA→Res σ) (s:σ) (h:Int→Bool) (c:QA):Res σ:=match KN x l c with
 | true => .go s h
 | false=>match Kk x (l++[c]) with
  | false => .go s (Qh c.cell true (Qh c.cell true h))
  | true=>match rec s (Qh c.cell true h) c with
   | .go s h => .go s (Qh c.cell true h)
   | .stop s h => .stop s (Qh c.cell true h)
def V9 {σ:Type} (x:QE) (Y:σ→List QA→σ×Bool) (l:List QA) (s:σ) (h:Int→Bool):Res σ:=match X4 x l with
 | true => .go s h
 | false=>match Y s l with
  | (s,true) => .go s h
  | (s,false) => .stop s h
def onT {σ:Type} (x:QE) (C:List (List QA)) (Y:σ→List QA→σ×Bool):Nat→List QA→σ→(Int→Bool)→Res σ
 | 0,l,s,h=>V9 x Y l s h
 | d + 1,l,s,h=>Jd (JN x l fun s h c=>onT x C Y d (l++[c]) s h) (QJ C l.length) s h
theorem qB (l:List QA) (c:QA) (n:Int):QI (l++[c]) n=if c.cell=n then QI l n + 1 else QI l n:=by
 unfold QI
 rw [List.countP_append]
 by_cases h:c.cell=n
 ·rw [if_pos h];simp [h]
 ·rw [if_neg h];simp [h]
theorem WL (l:List QA) (n:Int):0≤QI l n:=Int.natCast_nonneg _
theorem zY (l:List QA) (n:Int):QI l n≤l.length:=by
 unfold QI
 have:=List.countP_le_length (p:=fun s:QA=>s.cell == n) (l:=l)
 omega
abbrev Vp (l:List QA):Int→AV:=fun c => .int false .i64 (QI l c)
theorem VN (z:Bool) (h:Int→Bool) (l:List QA):Kn (.int z .i64 0) (.int true .i64 0) h h (Vp l) (Vp l):=⟨fun _=>rfl,rfl,fun _=>rfl,fun _=>⟨fun _=>rfl,rfl⟩⟩
theorem Hi (z b:Bool) {l:List QA} {c:QA} {n:Int} (hl:l.length≤1000) (hn:n=IntKind.i64.wrap (QI l c.cell + 1)) (h:Int→Bool):Kn (.int z .i64 0) (.int true .i64 0) h h (KI c.cell (.int b .i64 n) (Vp l)) (Vp (l++[c])):=by
 have h1:=WL l c.cell
 have h2:=zY l c.cell
 have hw:IntKind.i64.wrap (QI l c.cell + 1)=QI l c.cell + 1:=w64 (by omega) (by omega)
 refine ⟨fun _=>rfl,rfl,fun _=>rfl,fun k=>⟨fun r => ?_,rfl⟩⟩
 simp only [KI]
 by_cases e:k=c.cell
 ·subst e
  have q:QI (l++[c]) c.cell=QI l c.cell + 1:=by rw [qB,if_pos rfl]
  simp only [decide_true,hn,hw,Vp,q]
  rfl
 ·have q:QI (l++[c]) k=QI l k:=by rw [qB,if_neg (fun q=>e q.symm)]
  simp only [e,decide_false,Vp,q]
theorem Gc (z b:Bool) {l:List QA} {c:QA} {n:Int} (hl:l.length≤1000) (hn:n=IntKind.i64.wrap (QI (l++[c]) c.cell - 1)) (h:Int→Bool):Kn (.int z .i64 0) (.int true .i64 0) h h (KI c.cell (.int b .i64 n) (Vp (l++[c]))) (Vp l):=by
 have h1:=WL l c.cell
 have h2:=zY l c.cell
 have hw:IntKind.i64.wrap (QI (l++[c]) c.cell - 1)=QI l c.cell:=by
  rw [qB,if_pos rfl]
  exact (w64 (by omega) (by omega)).trans (by omega)
 refine ⟨fun _=>rfl,rfl,fun _=>rfl,fun k=>⟨fun r => ?_,rfl⟩⟩
 simp only [KI]
 by_cases e:k=c.cell
 ·subst e
  simp only [decide_true,hn,hw]
  rfl
 ·have q:QI (l++[c]) k=QI l k:=by rw [qB,if_neg (fun q=>e q.symm)]
  simp only [e,decide_false,Vp,q]
theorem zw (z b b':Bool) {l:List QA} {c:QA} {m n:Int} (hl:l.length≤1000) (hm:n=IntKind.i64.wrap (IntKind.i64.wrap (QI l c.cell + 1) - 1)) (h:Int→Bool):Kn (.int z .i64 0) (.int true .i64 0) h h (KI c.cell (.int b .i64 n) (KI c.cell (.int b' .i64 m) (Vp l))) (Vp l):=by
 have h1:=WL l c.cell
 have h2:=zY l c.cell
 have hw:IntKind.i64.wrap (QI l c.cell + 1)=QI l c.cell + 1:=w64 (by omega) (by omega)
 have hw2:IntKind.i64.wrap (QI l c.cell + 1 - 1)=QI l c.cell:=(w64 (by omega) (by omega)).trans (by omega)
 rw [hw,hw2] at hm
 refine ⟨fun _=>rfl,rfl,fun _=>rfl,fun k=>⟨fun r => ?_,rfl⟩⟩
 simp only [KI]
 by_cases e:k=c.cell
 ·subst e
  simp only [decide_true,hm]
  rfl
 ·simp only [e,decide_false]
def rwL (id:Nat) (l:List QA):Nat×Blk:=(id,.rowz true 56 [.int .i64,.int .i64] l.length fun i=>QB.enc (l.getD i ⟨0,0⟩))
theorem Yv (l:List QA) (c:QA) (n:Nat) (hn:n=l.length):QD 2 (l++[c]).length (Q1 n (fun i=>QB.enc (l.getD i ⟨0,0⟩)) (Qb [[.int false .i64 c.cell,.int false .i64 c.turn]] 0)) (fun i=>QB.enc ((l++[c]).getD i ⟨0,0⟩)):=by
 subst hn
 intro i hi
 have hi:i < l.length + 1:=by simpa using hi
 show eqF 2 0 (Q1 l.length (fun i=>QB.enc (l.getD i ⟨0,0⟩)) (Qb [[.int false .i64 c.cell,.int false .i64 c.turn]] 0) i) (QB.enc ((l++[c]).getD i ⟨0,0⟩))
 by_cases h:i < l.length
 ·have e:(l++[c]).getD i ⟨0,0⟩=l.getD i ⟨0,0⟩:=by
   rw [List.getD_eq_getElem?_getD,List.getD_eq_getElem?_getD,List.getElem?_append_left h]
  have e2:Q1 l.length (fun i=>QB.enc (l.getD i (⟨0,0⟩:QA))) (Qb [[.int false .i64 c.cell,.int false .i64 c.turn]] 0) i=QB.enc (l.getD i ⟨0,0⟩):=by
   funext j;rw [Xf,if_pos h]
  rw [e,e2]
  exact ⟨rfl,rfl,trivial⟩
 ·have q:i=l.length:=by omega
  subst q
  have e:(l++[c]).getD l.length ⟨0,0⟩=c:=by simp
  have e2:Q1 l.length (fun i=>QB.enc (l.getD i (⟨0,0⟩:QA))) (Qb [[.int false .i64 c.cell,.int false .i64 c.turn]] 0) l.length=Qb [[.int false .i64 c.cell,.int false .i64 c.turn]] 0 0:=by
   funext j;rw [Xf,if_neg h,Nat.sub_self]
  rw [e,e2]
  exact ⟨rfl,rfl,trivial⟩
theorem HK (l:List QA) (c:QA):QD 2 l.length (fun i=>QB.enc ((l++[c]).getD i ⟨0,0⟩)) (fun i=>QB.enc (l.getD i ⟨0,0⟩)):=by
 intro i hi
 have e:(l++[c]).getD i ⟨0,0⟩=l.getD i ⟨0,0⟩:=by
  rw [List.getD_eq_getElem?_getD,List.getD_eq_getElem?_getD,List.getElem?_append_left hi]
 show eqF 2 0 (QB.enc ((l++[c]).getD i ⟨0,0⟩)) (QB.enc (l.getD i ⟨0,0⟩))
 rw [e]
 exact ⟨rfl,rfl,trivial⟩
theorem YK (l:List QA) (c:QA):l.length + 1=(l++[c]).length:=by simp
theorem YP (l:List QA) (c:QA):(l++[c]).length≤l.length + 1:=by simp
theorem GA (l:List QA) (c:QA) (hl:l.length≤1000):(IntKind.i64.wrap (((l++[c]).length:Int) - 1)).toNat=l.length:=by
 rw [List.length_append,List.length_singleton,w64 (by omega) (by omega)];omega
theorem Ht (l:List QA) (hl:l.length≤1000):(IntKind.i64.wrap (((l.length + 1:Nat):Int) - 1)).toNat=l.length:=by
 rw [w64 (by omega) (by omega)];omega
theorem H9 (l:List QA) (g:Nat→Nat→Int):QD 2 l.length (Q1 l.length (fun i=>QB.enc (l.getD i (⟨0,0⟩:QA))) g) (fun i=>QB.enc (l.getD i ⟨0,0⟩)):=by
 intro i hi
 show eqF 2 0 (Q1 l.length (fun i=>QB.enc (l.getD i (⟨0,0⟩:QA))) g i) (QB.enc (l.getD i ⟨0,0⟩))
 have e2:Q1 l.length (fun i=>QB.enc (l.getD i (⟨0,0⟩:QA))) g i=QB.enc (l.getD i ⟨0,0⟩):=by
  funext j;rw [Xf,if_pos hi]
 rw [e2]
 exact ⟨rfl,rfl,trivial⟩
theorem QIp {σ:Type} {f:σ→(Int→Bool)→QA→Res σ} {cs:List QA} {k:Nat} (h:cs.length≤k) (s:σ) (has:Int→Bool):Jd f (cs.drop k) s has = .go s has:=by
 rw [List.drop_eq_nil_of_le h,Jd]
theorem QIj {σ:Type} {f:σ→(Int→Bool)→QA→Res σ} {cs:List QA} {k:Nat} (h:k < cs.length) (s:σ) (has:Int→Bool):Jd f (cs.drop k) s has=match f s has (cs.getD k ⟨0,0⟩) with
  | .go s h=>Jd f (cs.drop (k + 1)) s h
  | .stop s h => .stop s h:=by
 rw [List.drop_eq_getElem_cons h,Jd,List.getD_eq_getElem?_getD,List.getElem?_eq_getElem h];rfl
theorem QIX {σ:Type} {f:σ→(Int→Bool)→QA→Res σ} (hf:∀ s h c,∃ s' h',f s h c = .go s' h'):∀ (l:List QA) (s:σ) (h:Int→Bool),∃ s' h',Jd f l s h = .go s' h'
 | [],s,h=>⟨s,h,rfl⟩
 | c::l,s,h=>by
  obtain ⟨s',h',e⟩:=hf s h c
  rw [Jd,e]
  exact QIX hf l s' h'
theorem Za {σ:Type} {x:QE} {C:List (List QA)} {Y:σ→List QA→σ×Bool} (hY:∀ s l,(Y s l).2=true):∀ (d:Nat) (l:List QA) (s:σ) (h:Int→Bool),∃ s' h',onT x C Y d l s h = .go s' h'
 | 0,l,s,h=>by
  rw [onT,V9]
  split
  ·exact ⟨_,_,rfl⟩
  ·have:=hY s l
   split
   ·exact ⟨_,_,rfl⟩
   ·rename_i e;rw [e] at this;cases this
 | d + 1,l,s,h=>by
  rw [onT]
  refine QIX (fun s h c => ?_) _ s h
  unfold JN
  split
  ·exact ⟨_,_,rfl⟩
  ·split
   ·exact ⟨_,_,rfl⟩
   ·obtain ⟨s',h',e⟩:=Za (x:=x) (C:=C) hY d (l++[c]) s (Qh c.cell true h)
    simp only [e];exact ⟨_,_,rfl⟩
end Go.Proofs.Ytbpffdkemeoajaa
