/- - -/
import Derived.Test.YtbpffdkemeoajaaMvx
open Go.IntKind (i64)
set_option maxRecDepth 100000
namespace Go.Proofs.Ytbpffdkemeoajaa
open Go.SX
variable {c:QB}{σ:Type}{n:Int}{i:Nat}(x:QE)(l:List QB)(k:Nat)(C:List (List QB))
def opJ:JSt:=⟨50,[(1,.ptr 8 0 0),(12,.slz 2 0 x.hang.n (.of 0)),(13,.int false .i64 x.hang.n),(14,.int false .i64 k)],[(8,.cells 0 50 (JR 0 x))]++Ve 0 x,40⟩
def QI0:Ex→List Nat
 | .normal=>[1,12,13,14]
 | .exit _=>[1]
 | .ret=>[2,3]
def GG:JSt:=⟨50,[(2,.nilp),(3,.int false .i64 11)],[],40⟩
def QCH:JSt:=⟨50,[(1,.ptr 8 0 0)],[(8,.cells 0 50 (JR 0 x))]++Ve 0 x,40⟩
noncomputable abbrev VU:List AV:=
  [.nili,.ptr 50 0 0,.nilp,vj 11]
noncomputable abbrev VT(x:QE):List AV:=
  [.nilp,.ptr 50 0 0,.ptr 8 0 0,.slz 2 0 x.hang.n cO,vi (x.hang.n:Int),vi (i64.wrap ((k:Int)+1))]
noncomputable abbrev QDt:Nat×Blk:=
  (8,.cells 0 50 [vi x.d.play.length,vi x.d.play.slack,vi x.d.play.loose,vi x.d.play.damp.lo,vi x.d.play.damp.hi,
  .int false .i64 x.d.wide,vi x.d.high,.bool false x.d.turn,.slz 0 0 x.d.ps.n cO,.slz 1 0 x.scans.n cO,.slz 2 0 x.hang.n cO,.int false .i64
  x.lost,vi x.foreign])
noncomputable abbrev QC3:Nat×Blk:=
  (2,.frz [.int .i64,.int .i64,.int .i64,.int .i64] x.hang.n fun i=>QA.enc (x.hang.get i))
abbrev jX:List CK:=
  [.int .i64,.int .i64,.int .i64,.int .i64,.int .i64,.int .i64,.int .i64,.int .i64,.int .i64,.int .i64,.int .i64,.int .i64,.int .i64,.int .i64,.int .i64,.int .i64,.int
  .i64,.int .i64,.int .i64,.int .i64,.int .i64,.int .i64,.int .i64,.int .i64,.int .i64,.int .i64,.int .i64,.int .i64]
noncomputable abbrev J4:List (Nat×Blk):=
  [(QDt x),(QC3 x),(0,.frz jX x.d.ps.n fun i=>QA.enc (x.d.ps.get i)),(1,.frz jX x.scans.n fun i=>QA.enc (x.scans.get i))]
theorem QRx(g:Nat→Value):exec (mkF Try.prog V7) (hnd (mkF Try.prog V7) 0) (Qa Try.f49 0) (JSt.inst (opJ x k) g) (KL [] QI0) = .br (decide ((k:Int)<(x.hang.n:Int))) (.need (decide ((0 :
  Int)≤(k:Int)∧(k:Int)<(x.hang.n:Int))&&decide (x.hang.n≤x.hang.n)) (.need (decide (k<x.hang.n)) (.need (decide ((0:Int)≤(x.hang.get k).a∧(x.hang.get k).a <
  (x.scans.n:Int))&&decide (x.scans.n≤x.scans.n)) (.need (decide ((0:Int)≤(x.hang.get k).i∧(x.hang.get k).i<4)) (.br (decide ((x.hang.get k).i=0)) (.need (decide
  ((x.hang.get k).a.toNat<x.scans.n)) (.need (decide ((0:Int)≤(x.hang.get k).b∧(x.hang.get k).b<(x.scans.n:Int))&&decide (x.scans.n≤x.scans.n)) (.need (decide ((0 :
  Int)≤(x.hang.get k).j∧(x.hang.get k).j<4)) (.br (decide ((x.hang.get k).j=0)) (.need (decide ((x.hang.get k).b.toNat<x.scans.n)) (.need (true) (.br ((Qw x.d.play
  (x.scans.get (x.hang.get k).a.toNat).up (x.scans.get (x.hang.get k).b.toNat).up).1==0) (.leaf (.tup VU) ([])) (.leaf (.tup (VT k x)) ((J4 x)))))) (.br (decide ((x.hang.get
  k).j=1)) (.need (decide ((x.hang.get k).b.toNat<x.scans.n)) (.need (true) (.br ((Qw x.d.play (x.scans.get (x.hang.get k).a.toNat).up (x.scans.get (x.hang.get
  k).b.toNat).right).1==0) (.leaf (.tup VU) ([])) (.leaf (.tup (VT k x)) ((J4 x)))))) (.br (decide ((x.hang.get k).j=2)) (.need (decide ((x.hang.get k).b.toNat<x.scans.n))
  (.need (true) (.br ((Qw x.d.play (x.scans.get (x.hang.get k).a.toNat).up (x.scans.get (x.hang.get k).b.toNat).down).1==0) (.leaf (.tup VU) ([])) (.leaf (.tup (VT k x))
  ((J4 x)))))) (.need (decide ((x.hang.get k).b.toNat<x.scans.n)) (.need (true) (.br ((Qw x.d.play (x.scans.get (x.hang.get k).a.toNat).up (x.scans.get (x.hang.get
  k).b.toNat).left).1==0) (.leaf (.tup VU) ([])) (.leaf (.tup (VT k x)) ((J4 x)))))))))))) (.br (decide ((x.hang.get k).i=1)) (.need (decide ((x.hang.get k).a.toNat <
  x.scans.n)) (.need (decide ((0:Int)≤(x.hang.get k).b∧(x.hang.get k).b<(x.scans.n:Int))&&decide (x.scans.n≤x.scans.n)) (.need (decide ((0:Int)≤(x.hang.get k).j ∧
  (x.hang.get k).j<4)) (.br (decide ((x.hang.get k).j=0)) (.need (decide ((x.hang.get k).b.toNat<x.scans.n)) (.need (true) (.br ((Qw x.d.play (x.scans.get (x.hang.get
  k).a.toNat).right (x.scans.get (x.hang.get k).b.toNat).up).1==0) (.leaf (.tup VU) ([])) (.leaf (.tup (VT k x)) ((J4 x)))))) (.br (decide ((x.hang.get k).j=1)) (.need
  (decide ((x.hang.get k).b.toNat<x.scans.n)) (.need (true) (.br ((Qw x.d.play (x.scans.get (x.hang.get k).a.toNat).right (x.scans.get (x.hang.get k).b.toNat).right).1==0)
  (.leaf (.tup VU) ([])) (.leaf (.tup (VT k x)) ((J4 x)))))) (.br (decide ((x.hang.get k).j=2)) (.need (decide ((x.hang.get k).b.toNat<x.scans.n)) (.need (true) (.br ((Qw
  x.d.play (x.scans.get (x.hang.get k).a.toNat).right (x.scans.get (x.hang.get k).b.toNat).down).1==0) (.leaf (.tup VU) ([])) (.leaf (.tup (VT k x)) ((J4 x)))))) (.need
  (decide ((x.hang.get k).b.toNat<x.scans.n)) (.need (true) (.br ((Qw x.d.play (x.scans.get (x.hang.get k).a.toNat).right (x.scans.get (x.hang.get k).b.toNat).left).1==0) (.leaf
  (.tup VU) ([])) (.leaf (.tup (VT k x)) ((J4 x)))))))))))) (.br (decide ((x.hang.get k).i=2)) (.need (decide ((x.hang.get k).a.toNat<x.scans.n)) (.need (decide ((0:Int) ≤
  (x.hang.get k).b∧(x.hang.get k).b<(x.scans.n:Int))&&decide (x.scans.n≤x.scans.n)) (.need (decide ((0:Int)≤(x.hang.get k).j∧(x.hang.get k).j<4)) (.br (decide
  ((x.hang.get k).j=0)) (.need (decide ((x.hang.get k).b.toNat<x.scans.n)) (.need (true) (.br ((Qw x.d.play (x.scans.get (x.hang.get k).a.toNat).down (x.scans.get (x.hang.get
  k).b.toNat).up).1==0) (.leaf (.tup VU) ([])) (.leaf (.tup (VT k x)) ((J4 x)))))) (.br (decide ((x.hang.get k).j=1)) (.need (decide ((x.hang.get k).b.toNat<x.scans.n))
  (.need (true) (.br ((Qw x.d.play (x.scans.get (x.hang.get k).a.toNat).down (x.scans.get (x.hang.get k).b.toNat).right).1==0) (.leaf (.tup VU) ([])) (.leaf (.tup (VT k x))
  ((J4 x)))))) (.br (decide ((x.hang.get k).j=2)) (.need (decide ((x.hang.get k).b.toNat<x.scans.n)) (.need (true) (.br ((Qw x.d.play (x.scans.get (x.hang.get k).a.toNat).down
  (x.scans.get (x.hang.get k).b.toNat).down).1==0) (.leaf (.tup VU) ([])) (.leaf (.tup (VT k x)) ((J4 x)))))) (.need (decide ((x.hang.get k).b.toNat<x.scans.n)) (.need
  (true) (.br ((Qw x.d.play (x.scans.get (x.hang.get k).a.toNat).down (x.scans.get (x.hang.get k).b.toNat).left).1==0) (.leaf (.tup VU) ([])) (.leaf (.tup (VT k x)) ((J4
  x)))))))))))) (.need (decide ((x.hang.get k).a.toNat<x.scans.n)) (.need (decide ((0:Int)≤(x.hang.get k).b∧(x.hang.get k).b<(x.scans.n:Int))&&decide (x.scans.n ≤
  x.scans.n)) (.need (decide ((0:Int)≤(x.hang.get k).j∧(x.hang.get k).j<4)) (.br (decide ((x.hang.get k).j=0)) (.need (decide ((x.hang.get k).b.toNat<x.scans.n)) (.need
  (true) (.br ((Qw x.d.play (x.scans.get (x.hang.get k).a.toNat).left (x.scans.get (x.hang.get k).b.toNat).up).1==0) (.leaf (.tup VU) ([])) (.leaf (.tup (VT k x)) ((J4
  x)))))) (.br (decide ((x.hang.get k).j=1)) (.need (decide ((x.hang.get k).b.toNat<x.scans.n)) (.need (true) (.br ((Qw x.d.play (x.scans.get (x.hang.get k).a.toNat).left
  (x.scans.get (x.hang.get k).b.toNat).right).1==0) (.leaf (.tup VU) ([])) (.leaf (.tup (VT k x)) ((J4 x)))))) (.br (decide ((x.hang.get k).j=2)) (.need (decide ((x.hang.get
  k).b.toNat<x.scans.n)) (.need (true) (.br ((Qw x.d.play (x.scans.get (x.hang.get k).a.toNat).left (x.scans.get (x.hang.get k).b.toNat).down).1==0) (.leaf (.tup VU) ([]))
  (.leaf (.tup (VT k x)) ((J4 x)))))) (.need (decide ((x.hang.get k).b.toNat<x.scans.n)) (.need (true) (.br ((Qw x.d.play (x.scans.get (x.hang.get k).a.toNat).left
  (x.scans.get (x.hang.get k).b.toNat).left).1==0) (.leaf (.tup VU) ([])) (.leaf (.tup (VT k x)) ((J4 x))))))))))))))))))) (.leaf (.tup [.ptr 0 0 0,.ptr 50 0 0,.ptr 8 0 0])
  ([(QDt x),(0,.frz jX x.d.ps.n fun i=>QA.enc (x.d.ps.get i)),(1,.frz jX x.scans.n fun i=>QA.enc (x.scans.get i)),(QC3 x)])):=by kernel_rfl
theorem QNJ :QK 8 [AV.nilp,AV.int true i64 (11:Int)] ([]) GG=(
  some [(11:Int)=(11:Int)]):=by kernel_rfl
abbrev QFG:List Prop:=
  [x.d.play.slack=x.d.play.slack,x.d.play.loose=x.d.play.loose,x.d.play.damp.lo=x.d.play.damp.lo,x.d.play.damp.hi=x.d.play.damp.hi,x.d.wide=x.d.wide,x.d.high =
  x.d.high,x.d.turn=x.d.turn,0=0,x.d.ps.n=x.d.ps.n,cO=cO,0=0,x.scans.n=x.scans.n,cO=cO,0=0,x.hang.n=x.hang.n,cO=cO,
  x.lost=x.lost,x.foreign=x.foreign,x.d.ps.n≤x.d.ps.n,QD 28 x.d.ps.n (fun i=>QA.enc (x.d.ps.get i)) fun i=>QA.enc (x.d.ps.get i),x.scans.n≤x.scans.n,QD 28
  x.scans.n (fun i=>QA.enc (x.scans.get i)) fun i=>QA.enc (x.scans.get i),x.hang.n≤x.hang.n,QD 4 x.hang.n (fun i=>QA.enc (x.hang.get i)) fun i=>QA.enc
  (x.hang.get i)]
theorem QUq(k k':Nat):QK 8 [.ptr 8 0 0,.slz 2 0 x.hang.n cO,vi (x.hang.n:Int),vi (i64.wrap ((k:Int)+1))] ((J4 x)) (opJ x k')=(some ([0=0,0 =
  0,0=0,x.hang.n=x.hang.n,cO=cO,(x.hang.n:Int)=(x.hang.n:Int),i64.wrap ((k:Int)+1)=(k':Int),x.d.play.length=x.d.play.length]++(QFG
  x))):=by kernel_rfl
theorem QNF :QK 8 [.ptr 8 0 0] ([(QDt x),(0,.frz jX x.d.ps.n fun i=>QA.enc (x.d.ps.get i)),(1,.frz jX x.scans.n fun i=>QA.enc (x.scans.get i)),(QC3 x)]) (QCH x)=(some
  ([0=0,0=0,x.d.play.length=x.d.play.length]++(QFG x))):=by kernel_rfl
def H1(s:QG)(i:Int):Edge:=match decide (i=0)with
 | true=>s.up
 | false=>match decide (i=1)with
  | true=>s.right
  | false=>match decide (i=2)with
   | true=>s.down
   | false=>s.left
def Yc:Bool:=(Qw x.d.play (H1 (x.scans.get (x.hang.get k).a.toNat) (x.hang.get k).i) (H1 (x.scans.get (x.hang.get k).b.toNat) (x.hang.get k).j)).1==0
def VB:Bool:=(QP (Yc x) x.hang.n 0).isSome
def opR(e:Ex)(J:JSt):Prop:=(e = .ret∧(QP (Yc x) (x.hang.n-k) k).isSome=true∧J=GG)∨(e = .exit 0∧(QP (Yc x) (x.hang.n-k) k).isSome=false∧J=QCH x)
theorem YF{x:QE}(h:x.ok=true):Je x:=by
 simp only[QE.ok,QE.sz,QY,qbA,qdE]at h;obtain⟨⟨h1,h2,h3,h4⟩,h5,h6,h7⟩:=h;refine⟨Y2 h5,by omega,by omega,fun k hk => ?_⟩
 have hj:K3 x k=false:=by
  have:jxO x=none:=by
   cases e:jxO x with
   | none=>rfl
   | some i=>rw[e]at h7;simp[KP]at h7
  exact jb this k (Nat.zero_le _) (by omega)
 have hs:i64.wrap ((x.scans.n:Int)-1)=(x.scans.n:Int)-1:=w64 (by omega) (by omega)
 simp only[K3,ZP,hs,QY,Bool.or_eq_false_iff,Bool.not_eq_false',qbA,qdE]at hj;exact⟨⟨by omega,by omega⟩,by omega,by omega⟩
theorem QSw(hx:Je x):JW (opJ x) (fun k=>k≤x.hang.n) (fun k=>x.hang.n-k) (opR x) 8 QI0 [] (mkF Try.prog V7) (fun _=>hnd (mkF Try.prog V7) 0) (Qa Try.f49 0):=by
 refine⟨fun k g hk=>KB (QRx x k g) ?_⟩;have h12:=hx.n;refine QI (fun h => ?_) (fun h => ?_)
 ·have h:k<x.hang.n:=by have:=qdt h;omega
  obtain⟨m,hm⟩:∃ m,x.hang.n-k=m+1:=⟨x.hang.n-k-1,by omega⟩
  have hm':x.hang.n-(k+1)=m:=by omega
  have hw:i64.wrap ((k:Int)+1)=((k+1:Nat):Int):=(w64 (by omega) (by omega)).trans (by omega)
  obtain⟨⟨b1,b2⟩,b3,b4⟩:=hx.j k h
  have go:Yc x k=false→∀ e J,opR x (k+1) e J→opR x k e J:=fun q e J h=>by
   have hf:QP (Yc x) (x.hang.n-k) k=QP (Yc x) (x.hang.n-(k+1)) (k+1):=by rw[hm,hm',QP,q]
   unfold opR at h ⊢;rw[hf];exact h
  have stop:Yc x k=true→opR x k .ret GG:=fun q => .inl ⟨rfl,by rw[hm,QP,q];rfl,rfl⟩
  generalize hj:x.hang.get k=j at *;have na:decide (j.a.toNat<x.scans.n)=true:=by simp;omega
  have nb:decide (j.b.toNat<x.scans.n)=true:=by simp;omega
  refine QF (by simp;omega) (QF (by simp;omega) (QF (by simp;omega) (QF (by simp;omega) ?_)))
  refine QI (fun i0 => ?_) (fun i0=>QI (fun i1 => ?_) (fun i1=>QI (fun i2 => ?_) (fun i2 => ?_)))
  all_goals
   refine QF na (QF (by simp;omega) (QF (by simp;omega) ?_))
   refine QI (fun j0 => ?_) (fun j0=>QI (fun j1 => ?_) (fun j1=>QI (fun j2 => ?_) (fun j2 => ?_)))
   all_goals
    refine QF nb (QF rfl (QI (fun q => ?_) (fun q => ?_)))
    ·refine⟨_,stop ?_,rfl,rfl,_,QNJ,⟨rfl,trivial⟩⟩;simp only[Yc,hj,H1, *]
    ·refine⟨k+1,by show k+1≤x.hang.n;omega,by show x.hang.n-(k+1)<x.hang.n-k;omega,go ?_,rfl,rfl,_,QUq x k (k+1),?_⟩
     ·simp only[Yc,hj,H1, *]
     ·repeat' first|exact trivial|with_reducible rfl|exact qlr _|exact qRr|exact hw|refine And.intro ?_ ?_
 ·have h:x.hang.n≤k:=by have:=of_decide_eq_false h;omega
  have hf:QP (Yc x) (x.hang.n-k) k=none:=by rw[show x.hang.n-k=0 by omega];rfl
  refine⟨_,.inr ⟨rfl,by rw[hf];rfl,rfl⟩,rfl,rfl,_,QNF x,?_⟩
  repeat' first|exact trivial|with_reducible rfl|exact qlr _|exact qRr|refine And.intro ?_ ?_
def opE(e:Int):UC:=⟨8,⟨1,[(0,.agg (JR 0 x))],Ve 0 x,8⟩,fun _ => .tup [.nilp,.int false .i64 e],fun _=>[]⟩
def opO:UC:=⟨8,⟨1,[(0,.agg (JR 0 x))],Ve 0 x,8⟩,fun m => .tup [.ptr m 0 0,.int true .i64 0],fun m=>srO m (m+1) x C⟩
def opX:List (Prop×Ex×JSt):=[(VB x=true,.ret,GG),(VB x=false,.exit 0,QCH x)]
def WG(pb:List Prop→Bool)(x:QE)(C:List (List QB)):Tab:=Qb Q8 75 (Vf pb (nsU x C))
abbrev opH(P:Program)(T:Tab)(x:QE):Hnd:={ hnd (mkE P T) 1 with loop:=fun _=>KF 8 [] (opJ x (0:Nat)) (opX x) }
abbrev QE6:List CK:=
  [.int .i64,.int .i64,.int .i64,.int .i64,.int .i64,.int .i64,.int .i64,.int .i64,.int .i64,.int .i64,.int .i64,.int .i64,.int .i64,.int .i64,.int .i64,.int .i64,.int
  .i64,.int .i64,.int .i64,.int .i64,.int .i64,.int .i64,.int .i64,.int .i64,.int .i64,.int .i64,.int .i64,.int .i64]
noncomputable abbrev QHY(x:QE):List (Nat×Blk):=
  [(48,.cells 0 125 [vi x.d.play.length,vi x.d.play.slack,vi x.d.play.loose,vi x.d.play.damp.lo,.int false .i64
  x.d.play.damp.hi,vi x.d.wide,vi x.d.high,.bool false x.d.turn,.slz 0 0 x.d.ps.n cO,.slz 1 0 x.scans.n cO,.slz 2 0 x.hang.n (Cap.of
  0),vi x.lost,vi x.foreign,.slz 49 0 C.length cO]),(0,.frz QE6 x.d.ps.n fun i=>QA.enc (x.d.ps.get i)),(1,.frz QE6 x.scans.n fun i=>
  QA.enc (x.scans.get i)),(2,.frz [.int .i64,.int .i64,.int .i64,.int .i64] x.hang.n fun i=>QA.enc (x.hang.get i)),(49,.frz2 true 38 [.int .i64,.int .i64] C.length (fun
  i=>(QM C i).length) fun i j=>QA.enc ((QM C i).getD j ⟨0,0⟩))]
theorem QGf(pb:List Prop→Bool)(x:QE)(C:List (List QB)):Vu (mkE Try.prog (WG pb x C)) (opH Try.prog (WG pb x C) x) Try.f49 (opO x C) = .need (decide (x.d.ps.n≤x.d.ps.n)&&(decide (x.scans.n≤x.scans.n)&&(decide (x.hang.n
  ≤ x.hang.n)&&true))&&decide (x.d.ps.n≤1000∧x.scans.n≤1000∧x.hang.n≤1000)) (.br (!x.ok) (.leaf (.tup [.nilp,vj 1]) ([])) (.ask (0=0) (.ask (0=0) (.ask
  (0=0) (.ask (x.hang.n=x.hang.n) (.ask (cO=cO) (.ask ((x.hang.n:Int)=(x.hang.n:Int)) (.ask ((0:Int)=0) (.ask (x.d.play.length=x.d.play.length) (.ask
  (x.d.play.slack=x.d.play.slack) (.ask (x.d.play.loose=x.d.play.loose) (.ask (x.d.play.damp.lo=x.d.play.damp.lo) (.ask (x.d.play.damp.hi=x.d.play.damp.hi) (.ask (x.d.wide =
  x.d.wide) (.ask (x.d.high=x.d.high) (.ask (x.d.turn=x.d.turn) (.ask (0=0) (.ask (x.d.ps.n=x.d.ps.n) (.ask (cO=cO) (.ask (0=0) (.ask (x.scans.n=x.scans.n)
  (.ask (cO=cO) (.ask (0=0) (.ask (x.hang.n=x.hang.n) (.ask (cO=cO) (.ask (x.lost=x.lost) (.ask (x.foreign=x.foreign) (.ask (x.d.ps.n≤x.d.ps.n)
  (.ask (QD 28 x.d.ps.n (fun i=>QA.enc (x.d.ps.get i)) fun i=>QA.enc (x.d.ps.get i)) (.ask (x.scans.n≤x.scans.n) (.ask (QD 28 x.scans.n (fun i=>QA.enc
  (x.scans.get i)) fun i=>QA.enc (x.scans.get i)) (.ask (x.hang.n≤x.hang.n) (.ask (QD 4 x.hang.n (fun i=>QA.enc (x.hang.get i)) fun i=>QA.enc (x.hang.get i)) (.both
  (.asm (VB x=true) (.all (fun(g0:Nat→Value) => .leaf (.tup [.nilp,vi 11]) ([])))) (.asm (VB x=false) (.all (fun(g1:Nat→Value) => .need (pb
  ([x.d.play.length=x.d.play.length,x.d.play.slack=x.d.play.slack,x.d.play.loose=x.d.play.loose,x.d.play.damp.lo=x.d.play.damp.lo,x.d.play.damp.hi=x.d.play.damp.hi,
  x.d.wide=x.d.wide,x.d.high=x.d.high,x.d.turn=x.d.turn,0=0,x.d.ps.n=x.d.ps.n,cO=cO,0=0,x.scans.n=x.scans.n,cO=cO,0=0,x.hang.n =
  x.hang.n,cO=cO,x.lost=x.lost,x.foreign=x.foreign,x.d.ps.n≤x.d.ps.n,QD 28 x.d.ps.n (fun i=>QA.enc (x.d.ps.get i)) fun i=>QA.enc (x.d.ps.get i),
  x.scans.n≤x.scans.n,QD 28 x.scans.n (fun i=>QA.enc (x.scans.get i)) fun i=>QA.enc (x.scans.get i),x.hang.n≤x.hang.n,QD 4 x.hang.n (fun i=>QA.enc
  (x.hang.get i)) fun i=>QA.enc (x.hang.get i)])) (.leaf (.tup [.ptr 48 0 0,vj 0]) ((QHY C x)))))))))))))))))))))))))))))))))))))))):=by kernel_rfl
abbrev opN(P : Program): Hnd := { hnd (mkE P Q8) 1 with loop := fun _ _ _ => .fail "a loop" }
theorem QUX:Vu (mkE Try.prog Q8) (opN Try.prog) Try.f49 (opE x 1) =
  QC.need (decide (x.d.ps.n ≤ x.d.ps.n) && (decide (x.scans.n ≤ x.scans.n) && (decide (x.hang.n ≤ x.hang.n) && true)) && decide (x.d.ps.n ≤ (1000 : Nat) ∧ x.scans.n ≤ (1000 : Nat) ∧ x.hang.n ≤ (1000 : Nat))) (QC.br (!x.ok) (QC.leaf (AV.tup [AV.nilp, AV.int true i64 (1 : Int)]) ([])) (QC.fail ("a loop"))) := by kernel_rfl
theorem QUD(e:Int):QK 8 [(AV.tup [AV.nilp,AV.int true i64 (1:Int)])] ([]) (JC (opE x e))=(
  some [(1:Int)=e]):=by kernel_rfl
theorem QSU(e:Int):QK 8 [(AV.tup [AV.nilp,AV.int false i64 (11:Int)])] ([]) (JC (opE x e))=(
  some [(11:Int)=e]):=by kernel_rfl
theorem QUJ :QK 8 [(.tup [.ptr 48 0 0,vj 0])] ((QHY C x)) (JC (opO x C))=(some [0=0,0=0,(0:Int)=0,x.d.play.length=x.d.play.length,x.d.play.slack =
  x.d.play.slack,x.d.play.loose=x.d.play.loose,x.d.play.damp.lo=x.d.play.damp.lo,x.d.play.damp.hi=x.d.play.damp.hi,x.d.wide=x.d.wide,x.d.high=x.d.high,x.d.turn =
  x.d.turn,0=0,x.d.ps.n=x.d.ps.n,cO=cO,0=0,x.scans.n=x.scans.n,cO=cO,0=0,x.hang.n=x.hang.n,cO=cO,x.lost=x.lost,
  x.foreign=x.foreign,0=0,C.length=C.length,cO=cO,C.length=C.length,K0 2 C.length (fun i=>(QM C i).length) (fun i=>(QM C i).length) (fun i j=>
  QA.enc ((QM C i).getD j ⟨0,0⟩)) fun i j=>QA.enc ((QM C i).getD j ⟨0,0⟩)]):=by kernel_rfl
theorem QFr(e:Int):(opE x e).Ok:=by
 refine⟨(by decide:8≤8),rfl,rfl,?_,rfl,fun nid h=>rfl,fun nid h=>rfl⟩
 intro q hq;simp only[UC.po,opE,List.not_mem_nil]at hq
theorem QPK:(opO x C).Ok:=by
 refine⟨(by decide:8≤8),rfl,rfl,?_,rfl,fun nid h => ?_,fun nid h => ?_⟩
 ·intro q hq;simp only[UC.po,opO,srO,Zt,List.mem_cons,List.not_mem_nil,or_false]at hq;rcases hq with rfl|rfl
  ·exact⟨rfl,rfl,rfl,fun h=>absurd (show 8<8 from h) (by decide)⟩
  ·exact⟨rfl,rfl,rfl,fun h=>absurd (show 9<8 from h) (by decide)⟩
 ·have e0:=qZ 0 nid;simp only[UC.va,opO,AV.mapId,AV.mapIdL,Nat.add_zero]at e0 ⊢;rw[e0]
 ·have e0:=qZ 0 nid;have e1:=qZ 1 nid;have l0:=jU (i:=0) (by decide) nid
  have l1:=jU (i:=1) (by decide) nid
  have l2:=jU (i:=2) (by decide) nid
  simp only[UC.po,opO,srO,Zt,JR,Qz.val,List.cons_append,List.nil_append,List.map_cons,List.map_nil,Blk.mapId,AV.mapId,AV.mapIdL,Nat.add_zero,Nat.zero_add]at e0 e1 l0 l1 l2 ⊢;rw[e0,e1,l0,l1,l2]
structure ZH (x:QE):Prop where
 d:x.d.ps.n≤1000
 s:x.scans.n≤1000
 h:x.hang.n≤1000
theorem QBR{x:QE}(hx:Je x):QV (WG Qn x (Qt x x.scans.n)):=by
 have:=hx.d.n9;have:=hx.s;exact KR.add (QNS x (by omega) (by omega))
theorem QFV{x:QE}(hx:Je x)(G:Ctx)(hrd:G.rd=none)(hG:G.n=8):KH (mkE Try.prog (WG Qn x (Qt x x.scans.n))) G (opH Try.prog (WG Qn x (Qt x x.scans.n)) x) (Qr Try.f49):=by
 have hE:=QS (QBR hx);refine J6 (body:=Qa Try.f49 0) hE hrd (by kernel_rfl) ?_
 refine W7 (E:=mkF Try.prog V7) rfl (J3 (n0:=8) (qb jf) (by omega) (fun s hs=>Q3 (qb jf) 0 G _ hrd) (fun s hs=>(by decide:8≤40)) ?_ (QSw x hx) (s0:=0) (Nat.zero_le _) ?_)
 ·rintro s e J (⟨_,_,rfl⟩|⟨_,_,rfl⟩)<;>exact(by decide:8≤40)
 ·rintro e J (⟨rfl,h,rfl⟩|⟨rfl,h,rfl⟩)
  ·exact⟨_,List.mem_cons_self,h,rfl,rfl⟩
  ·exact⟨_,List.mem_cons_of_mem _ List.mem_cons_self,h,rfl,rfl⟩
theorem QVd(G:Ctx)(hrd:G.rd=none):KH (mkE Try.prog Q8) G (opN Try.prog) (Qr Try.f49):=
 J6 (body:=Qa Try.f49 0) (QS KR) hrd (by kernel_rfl) (fun _ _ _ _ _ _ _ h _ _=>h.elim)
theorem QJQ(hs:ZH x)(hx:x.ok=false):QQ Try.prog 49 (uFC (opE x 1)):=by
 refine VX (E:=mkE Try.prog Q8) (QS KR) Try.func49 (by kernel_rfl) (by kernel_rfl) (QFr ..) (fun G h1 _=>QVd G h1) ⟨?_⟩
 refine KB (QUX x) ?_;refine QF (by simp;exact⟨hs.d,hs.s,hs.h⟩) (QI (fun h => ?_) (fun h => ?_))
 ·exact⟨rfl,rfl,_,QUD x 1,⟨rfl,trivial⟩⟩
 ·rw[hx]at h;cases h
theorem QHf(hs:ZH x)(hx:x.ok=true)(hr:VB x=true):QQ Try.prog 49 (uFC (opE x 11)):=by
 refine VX (E:=mkE Try.prog (WG Qn x (Qt x x.scans.n))) (QS (QBR (YF hx))) Try.func49 (by kernel_rfl) (by kernel_rfl) (QFr ..) (QFV (YF hx)) ⟨?_⟩
 generalize Qt x x.scans.n=C;refine KB (QGf Qn x C) ?_;refine QF (by simp;exact⟨hs.d,hs.s,hs.h⟩) (QI (fun h=>by rw[hx]at h;cases h) (fun h => ?_))
 repeat' first|refine Qc (p:=_=_) rfl ?_|refine Qc (p:=_≤_) (qlr _) ?_|refine Qc (p:=QD _ _ _ _) (qRr) ?_
 refine YE (KY fun _=>KX fun g => ?_) (KY fun h3=>by rw[hr]at h3;cases h3)
 exact⟨rfl,rfl,_,QSU x 11,⟨rfl,trivial⟩⟩
theorem Ha(hs:ZH x)(hx:x.ok=true)(hr:VB x=false):QQ Try.prog 49 (uFC (opO x (Qt x x.scans.n))):=by
 refine VX (E:=mkE Try.prog (WG Qn x (Qt x x.scans.n))) (QS (QBR (YF hx))) Try.func49 (by kernel_rfl) (by kernel_rfl) (QPK ..) (QFV (YF hx)) ⟨?_⟩
 generalize Qt x x.scans.n=C;refine KB (QGf Qn x C) ?_;refine QF (by simp;exact⟨hs.d,hs.s,hs.h⟩) (QI (fun h=>by rw[hx]at h;cases h) (fun h => ?_))
 repeat' first|refine Qc (p:=_=_) rfl ?_|refine Qc (p:=_≤_) (qlr _) ?_|refine Qc (p:=QD _ _ _ _) (qRr) ?_
 refine YE (KY fun h3=>by rw[hr]at h3;cases h3) (KY fun _=>KX fun g => ?_)
 refine QF (JB.2 ?_) ⟨rfl,rfl,_,QUJ x C,?_⟩
 ·repeat' first|exact trivial|with_reducible rfl|exact qlr _|exact qRr|exact Qh _ _ _ _|refine And.intro ?_ ?_
 ·repeat' first|exact trivial|with_reducible rfl|exact qlr _|exact qRr|exact Qh _ _ _ _|refine And.intro ?_ ?_
def Hi(s c:Int):Int:=i64.wrap ((BitVec.ofInt 64 s ||| BitVec.ofInt 64 (i64.wrap (1*2^min c.toNat 64))).toNat:Nat)
structure QAn (l:List QB):Prop where
 le:l.length≤1000
 s:∀ i,i<l.length→(l.getD i ⟨0,0⟩).cell = -2∨0≤(l.getD i ⟨0,0⟩).cell
inductive Res (σ:Type) where
 | go (s:σ) (has:Int→Bool)
 | stop (s:σ) (has:Int→Bool)
def QL(c:Int):Int:=(l.countP fun s=>s.cell==c:Nat)
def Jt{σ:Type}(f:σ→(Int→Bool)→QB→Res σ):List QB→σ→(Int→Bool)→Res σ
 | [],s,h => .go s h
 | c::l,s,h=>match f s h c with
  | .go s h=>Jt f l s h
  | .stop s h => .stop s h
def JX(c:QB):Bool:=decide (QL l c.cell≥(match c.cell == -2 with|true=>x.foreign|false=>1))
theorem Yr{x:QE}{l:List QB}:JX x l c=decide (QL l c.cell≥cond (c.cell == -2) x.foreign 1):=by unfold JX;cases c.cell == -2<;>rfl
theorem QO:∀{a b:List Prop},KD a→KD b→KD (a++b)
 | [],_,_,h=>h
 | _::_,_,h,g=>⟨h.1,QO h.2 g⟩
abbrev mkC(P:Program)(C:Tab):Env:=⟨P,C,Zs P,false,fun _=>false,true,false,false⟩
theorem QAk{C:Tab}(hC:QV C):(mkC Try.prog C).Sound:={ c:=hC,m:=jc Try.prog,mixed:=W8 }
def Yl:Bool:=decide ((x.d.ps.n:Int)-((l.length:Int)-QL l (-2))>x.lost)
def JG(rec:σ→(Int→Bool)→QB→Res σ)(s:σ)(h:Int→Bool)(c:QB):Res σ:=match JX x l c with
 | true => .go s h
 | false=>match Ku x (l++[c])with
  | false => .go s (Ql c.cell true (Ql c.cell true h))
  | true=>match rec s (Ql c.cell true h) c with
   | .go s h => .go s (Ql c.cell true h)
   | .stop s h => .stop s (Ql c.cell true h)
def Vv(Y:σ→List QB→σ×Bool)(l:List QB)(s:σ)(h:Int→Bool):Res σ:=match Yl x l with
 | true => .go s h
 | false=>match Y s l with
  | (s,true) => .go s h
  | (s,false) => .stop s h
def onT{σ:Type}(x:QE)(C:List (List QB))(Y:σ→List QB→σ×Bool):Nat→List QB→σ→(Int→Bool)→Res σ
 | 0,l,s,h=>Vv x Y l s h
 | d+1,l,s,h=>Jt (JG x l fun s h c=>onT x C Y d (l++[c]) s h) (QM C l.length) s h
theorem qL(c:QB)(n:Int):QL (l++[c]) n=if c.cell=n then QL l n+1 else QL l n:=by
 unfold QL;rw[List.countP_append]
 by_cases h:c.cell=n
 ·rw[if_pos h];simp[h]
 ·rw[if_neg h];simp[h]
theorem vE(n:Int):0≤QL l n:=Int.natCast_nonneg _
theorem Gl(n:Int):QL l n≤l.length:=by
 unfold QL;have:=List.countP_le_length (p:=fun s:QB=>s.cell==n) (l:=l);omega
abbrev Xi:Int→AV:=fun c => .int false .i64 (QL l c)
theorem Jf(z:Bool)(h:Int→Bool)(l:List QB):Kt (.int z .i64 0) (.int true .i64 0) h h (Xi l) (Xi l):=⟨fun _=>rfl,rfl,fun _=>rfl,fun _=>⟨fun _=>rfl,rfl⟩⟩
theorem QCx(z b:Bool){l:List QB}(hl:l.length≤1000)(hn:n=i64.wrap (QL l c.cell+1))(h:Int→Bool):Kt (.int z .i64 0) (.int true .i64 0) h h (KQ c.cell (.int b .i64 n) (Xi l)) (Xi (l++[c])):=by
 have h1:=vE l c.cell;have h2:=Gl l c.cell;have hw:i64.wrap (QL l c.cell+1)=QL l c.cell+1:=w64 (by omega) (by omega)
 refine⟨fun _=>rfl,rfl,fun _=>rfl,fun k=>⟨fun r => ?_,rfl⟩⟩;simp only[KQ]
 by_cases e:k=c.cell
 ·subst e;have q:QL (l++[c]) c.cell=QL l c.cell+1:=by rw[qL,if_pos rfl]
  simp only[decide_true,hn,hw,Xi,q];rfl
 ·have q:QL (l++[c]) k=QL l k:=by rw[qL,if_neg (fun q=>e q.symm)]
  simp only[e,decide_false,Xi,q]
theorem QDP(z b:Bool){l:List QB}(hl:l.length≤1000)(hn:n=i64.wrap (QL (l++[c]) c.cell-1))(h:Int→Bool):Kt (.int z .i64 0) (.int true .i64 0) h h (KQ c.cell (.int b .i64 n) (Xi (l++[c]))) (Xi l):=by
 have h1:=vE l c.cell;have h2:=Gl l c.cell
 have hw:i64.wrap (QL (l++[c]) c.cell-1)=QL l c.cell:=by
  rw[qL,if_pos rfl];exact(w64 (by omega) (by omega)).trans (by omega)
 refine⟨fun _=>rfl,rfl,fun _=>rfl,fun k=>⟨fun r => ?_,rfl⟩⟩;simp only[KQ]
 by_cases e:k=c.cell
 ·subst e;simp only[decide_true,hn,hw];rfl
 ·have q:QL (l++[c]) k=QL l k:=by rw[qL,if_neg (fun q=>e q.symm)]
  simp only[e,decide_false,Xi,q]
theorem QBL(z b b':Bool){l:List QB}{m:Int}(hl:l.length≤1000)(hm:n=i64.wrap (i64.wrap (QL l c.cell+1)-1))(h:Int→Bool):Kt (.int z .i64 0) (.int true .i64 0) h h (KQ c.cell (.int b .i64 n) (KQ c.cell (.int b' .i64 m) (Xi l))) (Xi l):=by
 have h1:=vE l c.cell;have h2:=Gl l c.cell;have hw:i64.wrap (QL l c.cell+1)=QL l c.cell+1:=w64 (by omega) (by omega)
 have hw2:i64.wrap (QL l c.cell+1-1)=QL l c.cell:=(w64 (by omega) (by omega)).trans (by omega)
 rw[hw,hw2]at hm;refine⟨fun _=>rfl,rfl,fun _=>rfl,fun k=>⟨fun r => ?_,rfl⟩⟩;simp only[KQ]
 by_cases e:k=c.cell
 ·subst e;simp only[decide_true,hm];rfl
 ·simp only[e,decide_false]
def rwL(id:Nat)(l:List QB):Nat×Blk:=(id,.rowz true 56 [.int .i64,.int .i64] l.length fun i=>QA.enc (l.getD i ⟨0,0⟩))
theorem jK(c:QB)(n:Nat)(hn:n=l.length):QD 2 (l++[c]).length (QX n (fun i=>QA.enc (l.getD i ⟨0,0⟩)) (QR [[.int false .i64 c.cell,.int false .i64 c.turn]] 0)) (fun i=>QA.enc ((l++[c]).getD i ⟨0,0⟩)):=by
 subst hn;intro i hi;have hi:i<l.length+1:=by simpa using hi
 show eqF 2 0 (QX l.length (fun i=>QA.enc (l.getD i ⟨0,0⟩)) (QR [[.int false .i64 c.cell,.int false .i64 c.turn]] 0) i) (QA.enc ((l++[c]).getD i ⟨0,0⟩))
 by_cases h:i<l.length
 ·have e:(l++[c]).getD i ⟨0,0⟩=l.getD i ⟨0,0⟩:=by
   rw[List.getD_eq_getElem?_getD,List.getD_eq_getElem?_getD,List.getElem?_append_left h]
  have e2:QX l.length (fun i=>QA.enc (l.getD i (⟨0,0⟩:QB))) (QR [[.int false .i64 c.cell,.int false .i64 c.turn]] 0) i=QA.enc (l.getD i ⟨0,0⟩):=by
   funext j;rw[XI,if_pos h]
  rw[e,e2];exact⟨rfl,rfl,trivial⟩
 ·have q:i=l.length:=by omega
  subst q;have e:(l++[c]).getD l.length ⟨0,0⟩=c:=by simp
  have e2:QX l.length (fun i=>QA.enc (l.getD i (⟨0,0⟩:QB))) (QR [[.int false .i64 c.cell,.int false .i64 c.turn]] 0) l.length=QR [[.int false .i64 c.cell,.int false .i64 c.turn]] 0 0:=by
   funext j;rw[XI,if_neg h,Nat.sub_self]
  rw[e,e2];exact⟨rfl,rfl,trivial⟩
theorem QD5(c:QB):QD 2 l.length (fun i=>QA.enc ((l++[c]).getD i ⟨0,0⟩)) (fun i=>QA.enc (l.getD i ⟨0,0⟩)):=by
 intro i hi
 have e:(l++[c]).getD i ⟨0,0⟩=l.getD i ⟨0,0⟩:=by
  rw[List.getD_eq_getElem?_getD,List.getD_eq_getElem?_getD,List.getElem?_append_left hi]
 show eqF 2 0 (QA.enc ((l++[c]).getD i ⟨0,0⟩)) (QA.enc (l.getD i ⟨0,0⟩));rw[e];exact⟨rfl,rfl,trivial⟩
theorem jT(c:QB):l.length+1=(l++[c]).length:=by simp
theorem qS(c:QB):(l++[c]).length≤l.length+1:=by simp
theorem QD9(c:QB)(hl:l.length≤1000):(i64.wrap (((l++[c]).length:Int)-1)).toNat=l.length:=by
 rw[List.length_append,List.length_singleton,w64 (by omega) (by omega)];omega
theorem QEj(hl:l.length≤1000):(i64.wrap (((l.length+1:Nat):Int)-1)).toNat=l.length:=by
 rw[w64 (by omega) (by omega)];omega
theorem QDG(g:Nat→Nat→Int):QD 2 l.length (QX l.length (fun i=>QA.enc (l.getD i (⟨0,0⟩:QB))) g) (fun i=>QA.enc (l.getD i ⟨0,0⟩)):=by
 intro i hi;show eqF 2 0 (QX l.length (fun i=>QA.enc (l.getD i (⟨0,0⟩:QB))) g i) (QA.enc (l.getD i ⟨0,0⟩))
 have e2:QX l.length (fun i=>QA.enc (l.getD i (⟨0,0⟩:QB))) g i=QA.enc (l.getD i ⟨0,0⟩):=by
  funext j;rw[XI,if_pos hi]
 rw[e2];exact⟨rfl,rfl,trivial⟩
theorem QEn{f:σ→(Int→Bool)→QB→Res σ}{cs:List QB}{k:Nat}(h:cs.length≤k)(s:σ)(has:Int→Bool):Jt f (cs.drop k) s has = .go s has:=by
 rw[List.drop_eq_nil_of_le h,Jt]
theorem QD3{f:σ→(Int→Bool)→QB→Res σ}{cs:List QB}{k:Nat}(h:k<cs.length)(s:σ)(has:Int→Bool):Jt f (cs.drop k) s has=match f s has (cs.getD k ⟨0,0⟩)with
  | .go s h=>Jt f (cs.drop (k+1)) s h
  | .stop s h => .stop s h:=by
 rw[List.drop_eq_getElem_cons h,Jt,List.getD_eq_getElem?_getD,List.getElem?_eq_getElem h];rfl
theorem QFn{σ:Type}{f:σ→(Int→Bool)→QB→Res σ}(hf:∀ s h c,∃ s' h',f s h c = .go s' h'):∀(l:List QB) (s:σ) (h:Int→Bool),∃ s' h',Jt f l s h = .go s' h'
 | [],s,h=>⟨s,h,rfl⟩
 | c::l,s,h=>by
  obtain⟨s',h',e⟩:=hf s h c;rw[Jt,e];exact QFn hf l s' h'
theorem Gx{σ:Type}{x:QE}{C:List (List QB)}{Y:σ→List QB→σ×Bool}(hY:∀ s l,(Y s l).2=true):∀(d:Nat) (l:List QB) (s:σ) (h:Int→Bool),∃ s' h',onT x C Y d l s h = .go s' h'
 | 0,l,s,h=>by
  rw[onT,Vv];split
  ·exact⟨_,_,rfl⟩
  ·have:=hY s l;split
   ·exact⟨_,_,rfl⟩
   ·rename_i e;rw[e]at this;cases this
 | d+1,l,s,h=>by
  rw[onT];refine QFn (fun s h c => ?_) _ s h;unfold JG;split
  ·exact⟨_,_,rfl⟩
  ·split
   ·exact⟨_,_,rfl⟩
   ·obtain⟨s',h',e⟩:=Gx (x:=x) (C:=C) hY d (l++[c]) s (Ql c.cell true h);simp only[e];exact⟨_,_,rfl⟩
def QT(fn:Func)(k:Nat):Code×Code:=match (Kg (Qr fn))[k]? with
 | some (.rangeFunc _ _ ac body)=>(ac,body)
 | _=>(.skip,.skip)
def srK(c:Nat)(x:QE)(C:List (List QB)):List AV:=JR 0 x++[.slz c 0 C.length (.of 0)]
def Zm(pb1 pb2:List Prop→Bool)(x:QE)(C:List (List QB))(l:List QB)(U:UC):Tab:=Qb (Qb Q8 78 (Vf pb1 (ftU x C l))) 77 (Vf pb2 U)
def ju:Ex→List Nat
 | .normal=>[0,1,2,3,4,48,49,50]
 | .exit _=>[]
 | .ret=>[5]
noncomputable def kPb(cs:List QB)(k:Nat):List Prop→Bool:=match decide (k<cs.length)with
 | true=>Qn
 | false=>fun _=>false
theorem JO{k n:Nat}(h:k<n)(hn:n≤1000):i64.wrap ((k:Int)+1)=((k+1:Nat):Int):=(w64 (by omega) (by omega)).trans (by omega)
abbrev msN(P : Program)(T : Tab): Hnd := { hnd (mkE P T) 2 with loop := fun _ _ _ => .fail "a loop" }
theorem Yd(N M k nid:Nat)(h:N≤M+k):JL N M nid (M+k)=nid+k:=by
 have:Nat.blt (M+k) N=false:=qe (by omega)
 simp only[JL,this];omega
theorem jD{N M:Nat}(h:i<N)(nid:Nat):JL N M nid i=i:=by
 simp only[JL,jS h]
structure WK (x:QE) (C:List (List QB)):Prop where
 n:C.length=x.scans.n
 le:∀ i,(QM C i).length≤1000
 s:∀ i,∀ c∈QM C i,Jr c
theorem Ho{α:Type}{l:List α}{z:α}(h:i<l.length):l.getD i z∈l:=by
 rw[List.getD_eq_getElem?_getD,List.getElem?_eq_getElem h];exact List.getElem_mem h
theorem QH4{l:List QB}(hp:0<l.length)(hl:l.length≤1000)(h:∀ c∈l,Jr c):qm l:=⟨hp,hl,fun i hi=>h _ (Ho hi)⟩
theorem QWA{l:List QB}(hl:l.length≤1000)(h:∀ c∈l,Jr c):QAn l:=⟨hl,fun i hi=>by
 have:=(h _ (Ho (z:=⟨0,0⟩) hi)).cell;omega⟩
theorem QMU{x:QE}{l:List QB}(h1:x.d.ps.n≤1000)(h2:l.length≤1000):decide (i64.wrap ((x.d.ps.n:Int)-i64.wrap ((l.length:Int)-QL l (-2)))>x.lost)=Yl x l:=by
 have a1:=vE l (-2);have a2:=Gl l (-2);rw[show i64.wrap ((l.length:Int)-QL l (-2))=(l.length:Int)-QL l (-2)from w64 (by omega) (by omega),show i64.wrap ((x.d.ps.n:Int)-((l.length:Int)-QL l (-2)))=(x.d.ps.n:Int)-((l.length:Int)-QL l (-2))from w64 (by omega) (by omega)]
 rfl
theorem QEa(T:Tab)(hT:QV T)(G:Ctx)(hrd:G.rd=none):KH (mkE Try.prog T) G (msN Try.prog T) (Qr Try.f77):=
 J6 (body:=Qa Try.f77 0) (QS hT) hrd (by kernel_rfl) (fun _ _ _ _ _ _ _ h _ _=>h.elim)
def noH:Int→Bool:=fun _=>false
def J8(pb:List Prop→Bool)(U:UC):Tab:=Qb Q8 49 (Vf pb U)
theorem QS1{q:Bool}{l:List QB}{c t:Nat}{y:QB}(h:y∈XQ q l c t):y∈l∨y=⟨c,t⟩:=by
 cases q with
 | true=>simpa[XQ]using h
 | false=>exact .inl h
theorem QKM{d:Puz}{s:QG}{l:List QB}{c:Nat}{y:QB}:∀{t:Nat},y∈KK d s l c t→y∈l∨∃ u,u<t∧y=⟨c,(u:Nat)⟩
 | 0,h => .inl h
 | t+1,h=>by
  simp only[KK]at h;rcases QS1 h with h|h
  ·rcases QKM h with h|⟨u,h1,h2⟩
   ·exact .inl h
   ·exact .inr ⟨u,by omega,h2⟩
  ·exact .inr ⟨t,by omega,h⟩
theorem QDE{d:Puz}{s:QG}{y:QB}:∀{c:Nat},y∈KG d s c→∃ k u:Nat,k<c∧u<4∧y=⟨(k:Nat),(u:Nat)⟩
 | 0,h=>by cases h
 | c+1,h=>by
  simp only[KG]at h;rcases QKM h with h|⟨u,h1,h2⟩
  ·obtain⟨k,u,a,b,e⟩:=QDE h;exact⟨k,u,by omega,b,e⟩
  ·exact⟨c,u,by omega,h1,h2⟩
theorem QVL{x:QE}(hn:x.d.ps.n≤9){k:Nat}{y:QB}(h:y∈Yv x k):Jr y:=by
 simp only[Yv,List.mem_cons]at h;rcases h with rfl|h
 ·exact⟨.inl rfl,by decide⟩
 ·obtain⟨c,u,h1,h2,rfl⟩:=QDE h;exact⟨.inr ⟨by simp only;omega,by simp only;omega⟩,by simp only;omega,by simp only;omega⟩
theorem qY{x:QE}:∀{k i:Nat},i<k→QM (Qt x k) i=Yv x i
 | k+1,i,h=>by
  rw[Qt,QBM,Yx]
  by_cases e:i<k
  ·rw[if_pos e];exact qY e
  ·have:i=k:=by omega
   subst this;rw[if_neg e,if_pos rfl]
theorem QBO{C:List (List QB)}(h:C.length≤i):QM C i=[]:=by
 unfold QM;rw[List.getD_eq_getElem?_getD,List.getElem?_eq_none h];rfl
theorem QLH{x:QE}(hn:x.d.ps.n≤9):WK x (Qt x x.scans.n):=by
 refine⟨Yx _ _,fun i => ?_,fun i c hc => ?_⟩
 ·by_cases h:i<x.scans.n
  ·rw[qY h];have:=qH x.d (x.scans.get i) x.d.ps.n;simp only[Yv,List.length_cons];omega
  ·rw[QBO (by rw[Yx];omega)];simp
 ·by_cases h:i<x.scans.n
  ·rw[qY h]at hc;exact QVL hn hc
  ·rw[QBO (by rw[Yx];omega)]at hc;cases hc
theorem QCr(b:Bool):Hu (.int b .i64 0) noH (Xi []):=⟨rfl,fun _=>rfl,fun _=>⟨fun _=>rfl,rfl⟩⟩
theorem QHN{σ:Type}{G:σ→Prop}{f:σ→(Int→Bool)→QB→Res σ}(hf:∀ s h c s' h',G s→f s h c = .go s' h'→G s'):∀(l:List QB) (s:σ) (h:Int→Bool) {s':σ} {h':Int→Bool},G s→Jt f l s h = .go s' h'→G s'
 | [],s,h,s',h',hg,e=>by cases e;exact hg
 | c::l,s,h,s',h',hg,e=>by
  rw[Jt]at e;split at e
  ·rename_i s1 h1 e1;exact QHN hf l s1 h1 (hf _ _ _ _ _ hg e1) e
  ·cases e
theorem QLK{σ:Type}{x:QE}{C:List (List QB)}{Y:σ→List QB→σ×Bool}{G:σ→Prop}(hY:∀ s l,G s→l.length=x.scans.n→G (Y s l).1):∀(d:Nat) (l:List QB) (s:σ) (h:Int→Bool) {s':σ} {h':Int→Bool},l.length+d=x.scans.n→G s→onT x C Y d l s h = .go s' h'→G s'
 | 0,l,s,h,s',h',hn,hg,e=>by
  rw[onT,Vv]at e;split at e
  ·cases e;exact hg
  ·have hy:=hY s l hg (by omega)
   split at e
   ·rename_i e1;rw[e1]at hy;cases e;exact hy
   ·cases e
 | d+1,l,s,h,s',h',hn,hg,e=>by
  rw[onT]at e;refine QHN (G:=G) (fun s h c s' h' hg e => ?_) _ s h hg e;unfold JG at e;split at e
  ·cases e;exact hg
  ·split at e
   ·cases e;exact hg
   ·split at e
    ·rename_i e1;cases e;exact QLK hY d (l++[c]) s _ (by simp;omega) hg e1
    ·cases e
def clU:UC:=⟨0,⟨1,[(0,.slz 5 0 l.length (.of 0))],[frS 5 l],8⟩,fun m => .slz m 0 l.length (.of 0),fun m=>[rwL m l]⟩
theorem QOY:Vu (mkE Try.prog Q8) (hnd (mkE Try.prog Q8) 1) Try.f56 (clU l) =
  QC.need (decide ((0:Nat)<l.length∧l.length≤l.length)) (QC.need (true&&(decide (l.length≤l.length)&&decide (((0:Nat)+l.length+((0:Nat)+l.length) / (4 :
  Nat)+(192:Nat))*(16:Nat)≤(281474976710656:Nat)∧(0:Nat)+l.length≤(9223372036854775807:Nat)))) (QC.leaf (AV.slz (48:Nat) (0:Nat) ((0:Nat)+l.length)
  (Cap.of (0:Nat))) ([((48:Nat),Blk.rowz true (56:Nat) [CK.int i64,CK.int i64] ((0:Nat)+l.length) (QX (0:Nat) (fun x x_1=>(0:Int)) fun i=>
  QA.enc (l.getD i (QB.mk (0:Int) (0:Int)))))]))):=by kernel_rfl
theorem QM4(n:Nat)(g:Nat→Nat→Int)(l:List QB):QK 8 [.slz 48 0 n cO] [(48,.rowz true 56 [.int .i64,.int .i64] n g)] (JC (clU l))=(
  some [(0:Nat)=(0:Nat),n=l.length,Cap.of (0:Nat)=Cap.of (0:Nat),l.length≤n,QD (2:Nat) l.length g fun i=>QA.enc (l.getD i (QB.mk (0:Int) (0:Int)))]):=by kernel_rfl
theorem QV1(m n:Nat)(f g:Nat→Nat→Int):QD m n (QX 0 f g) g:=by
 intro i hi;have:QX 0 f g i=g i:=by funext j;rw[XI,if_neg (Nat.not_lt_zero i),Nat.sub_zero]
 rw[this];exact zQ _ _ _
theorem QWS:(clU l).Ok:=by
 refine⟨(by decide:0≤8),rfl,rfl,?_,rfl,fun nid h => ?_,fun nid h => ?_⟩
 ·intro q hq;simp only[UC.po,clU,rwL,List.mem_cons,List.not_mem_nil,or_false]at hq;subst hq;exact⟨rfl,rfl,rfl,fun h=>absurd (show 8<0 from h) (by decide)⟩
 ·have e0:=Yd 0 8 0 nid (by decide)
  simp only[UC.va,clU,AV.mapId,Nat.add_zero]at e0 ⊢;rw[e0]
 ·have e0:=Yd 0 8 0 nid (by decide)
  simp only[UC.po,clU,rwL,List.map_cons,List.map_nil,Blk.mapId,Nat.add_zero]at e0 ⊢;rw[e0]
theorem QPZ(hp:0<l.length)(hl:l.length≤1000):QQ Try.prog 56 (uFC (clU l)):=by
 refine VX (c:=Qr Try.f56) (E:=mkE Try.prog Q8) (QS KR) Try.func56 (by kernel_rfl) (by kernel_rfl) (QWS l) (fun G h1 _=>Q3 (QS KR) 1 G _ h1) ⟨?_⟩
 refine KB (QOY l) ?_;refine QF (by simp;omega) (QF (by simp;omega) ⟨rfl,rfl,_,QM4 _ _ l,?_⟩)
 repeat' first|with_reducible refine QO ?_ ?_|exact trivial|with_reducible rfl|exact Nat.zero_add _|exact QV1 _ _ _ _|omega|refine And.intro ?_ ?_
end Go.Proofs.Ytbpffdkemeoajaa
