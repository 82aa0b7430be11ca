/- - -/
import Derived.Test.YtbpffdkemeoajaaMax
open Go.IntKind (i64)
set_option maxRecDepth 100000
namespace Go.Proofs.Ytbpffdkemeoajaa
open Go.SX
variable {c:QB}{σ:Type}(x:QE)(l:List QB)(all has n:Int)(C:List (List QB))(k:Nat)
def opJ:JSt:=⟨50,[(1,.ptr 8 0 0),(12,.slz 2 0 x.hang.n (.of 0)),(13,.int false .i64 x.hang.n),(14,.int false .i64 k)],[(8,.cells 0 50 (Jt 0 x))]++VY 0 x,40⟩
def QLd:Ex→List Nat
 | .normal=>[1,12,13,14]
 | .exit _=>[1]
 | .ret=>[2,3]
def QCi:JSt:=⟨50,[(2,.nilp),(3,.int false .i64 11)],[],40⟩
def QHT:JSt:=⟨50,[(1,.ptr 8 0 0)],[(8,.cells 0 50 (Jt 0 x))]++VY 0 x,40⟩
noncomputable abbrev Vy:List AV:=
  [.nili,.ptr 50 0 0,.nilp,vj 11]
noncomputable abbrev Vv(x:QE):List AV:=
  [.nilp,.ptr 50 0 0,.ptr 8 0 0,.slz 2 0 x.hang.n cO,vi (x.hang.n:Int),vi (i64.wrap ((k:Int)+1))]
noncomputable abbrev QHD:Nat×Blk:=
  (8,.cells 0 50 [vi x.d.play.length,vi x.d.play.slack,vi x.d.play.loose,vi x.d.play.damp.lo,vi x.d.play.damp.hi,
  .int false .i64 x.d.wide,vi x.d.high,.bool false x.d.turn,.slz 0 0 x.d.ps.n cO,.slz 1 0 x.scans.n cO,.slz 2 0 x.hang.n cO,.int false .i64
  x.lost,vi x.foreign])
noncomputable abbrev QFY:Nat×Blk:=
  (2,.frz [.int .i64,.int .i64,.int .i64,.int .i64] x.hang.n fun i=>QA.enc (x.hang.get i))
abbrev jl:List CK:=
  [.int .i64,.int .i64,.int .i64,.int .i64,.int .i64,.int .i64,.int .i64,.int .i64,.int .i64,.int .i64,.int .i64,.int .i64,.int .i64,.int .i64,.int .i64,.int .i64,.int
  .i64,.int .i64,.int .i64,.int .i64,.int .i64,.int .i64,.int .i64,.int .i64,.int .i64,.int .i64,.int .i64,.int .i64]
noncomputable abbrev VV:List (Nat×Blk):=
  [(QHD x),(QFY x),(0,.frz jl x.d.ps.n fun i=>QA.enc (x.d.ps.get i)),(1,.frz jl x.scans.n fun i=>QA.enc (x.scans.get i))]
theorem QcG(g:Nat→Value):exec (mkF Try.prog Xc) (hnd (mkF Try.prog Xc) 0) (Qd Try.f49 0) (JSt.inst (opJ x k) g) (KS [] QLd) = .br (decide ((k:Int)<(x.hang.n:Int))) (.need (decide ((0 :
  Int)≤(k:Int)∧(k:Int)<(x.hang.n:Int))&&decide (x.hang.n≤x.hang.n)) (.need (decide (k<x.hang.n)) (.need (decide ((0:Int)≤(x.hang.get k).a∧(x.hang.get k).a <
  (x.scans.n:Int))&&decide (x.scans.n≤x.scans.n)) (.need (decide ((0:Int)≤(x.hang.get k).i∧(x.hang.get k).i<4)) (.br (decide ((x.hang.get k).i=0)) (.need (decide
  ((x.hang.get k).a.toNat<x.scans.n)) (.need (decide ((0:Int)≤(x.hang.get k).b∧(x.hang.get k).b<(x.scans.n:Int))&&decide (x.scans.n≤x.scans.n)) (.need (decide ((0 :
  Int)≤(x.hang.get k).j∧(x.hang.get k).j<4)) (.br (decide ((x.hang.get k).j=0)) (.need (decide ((x.hang.get k).b.toNat<x.scans.n)) (.need (true) (.br ((KG x.d.play
  (x.scans.get (x.hang.get k).a.toNat).up (x.scans.get (x.hang.get k).b.toNat).up).1==0) (.leaf (.tup Vy) ([])) (.leaf (.tup (Vv k x)) ((VV x)))))) (.br (decide ((x.hang.get
  k).j=1)) (.need (decide ((x.hang.get k).b.toNat<x.scans.n)) (.need (true) (.br ((KG x.d.play (x.scans.get (x.hang.get k).a.toNat).up (x.scans.get (x.hang.get
  k).b.toNat).right).1==0) (.leaf (.tup Vy) ([])) (.leaf (.tup (Vv k x)) ((VV x)))))) (.br (decide ((x.hang.get k).j=2)) (.need (decide ((x.hang.get k).b.toNat<x.scans.n))
  (.need (true) (.br ((KG x.d.play (x.scans.get (x.hang.get k).a.toNat).up (x.scans.get (x.hang.get k).b.toNat).down).1==0) (.leaf (.tup Vy) ([])) (.leaf (.tup (Vv k x))
  ((VV x)))))) (.need (decide ((x.hang.get k).b.toNat<x.scans.n)) (.need (true) (.br ((KG x.d.play (x.scans.get (x.hang.get k).a.toNat).up (x.scans.get (x.hang.get
  k).b.toNat).left).1==0) (.leaf (.tup Vy) ([])) (.leaf (.tup (Vv k x)) ((VV x)))))))))))) (.br (decide ((x.hang.get k).i=1)) (.need (decide ((x.hang.get k).a.toNat <
  x.scans.n)) (.need (decide ((0:Int)≤(x.hang.get k).b∧(x.hang.get k).b<(x.scans.n:Int))&&decide (x.scans.n≤x.scans.n)) (.need (decide ((0:Int)≤(x.hang.get k).j ∧
  (x.hang.get k).j<4)) (.br (decide ((x.hang.get k).j=0)) (.need (decide ((x.hang.get k).b.toNat<x.scans.n)) (.need (true) (.br ((KG x.d.play (x.scans.get (x.hang.get
  k).a.toNat).right (x.scans.get (x.hang.get k).b.toNat).up).1==0) (.leaf (.tup Vy) ([])) (.leaf (.tup (Vv k x)) ((VV x)))))) (.br (decide ((x.hang.get k).j=1)) (.need
  (decide ((x.hang.get k).b.toNat<x.scans.n)) (.need (true) (.br ((KG x.d.play (x.scans.get (x.hang.get k).a.toNat).right (x.scans.get (x.hang.get k).b.toNat).right).1==0)
  (.leaf (.tup Vy) ([])) (.leaf (.tup (Vv k x)) ((VV x)))))) (.br (decide ((x.hang.get k).j=2)) (.need (decide ((x.hang.get k).b.toNat<x.scans.n)) (.need (true) (.br ((KG
  x.d.play (x.scans.get (x.hang.get k).a.toNat).right (x.scans.get (x.hang.get k).b.toNat).down).1==0) (.leaf (.tup Vy) ([])) (.leaf (.tup (Vv k x)) ((VV x)))))) (.need
  (decide ((x.hang.get k).b.toNat<x.scans.n)) (.need (true) (.br ((KG x.d.play (x.scans.get (x.hang.get k).a.toNat).right (x.scans.get (x.hang.get k).b.toNat).left).1==0) (.leaf
  (.tup Vy) ([])) (.leaf (.tup (Vv k x)) ((VV x)))))))))))) (.br (decide ((x.hang.get k).i=2)) (.need (decide ((x.hang.get k).a.toNat<x.scans.n)) (.need (decide ((0:Int) ≤
  (x.hang.get k).b∧(x.hang.get k).b<(x.scans.n:Int))&&decide (x.scans.n≤x.scans.n)) (.need (decide ((0:Int)≤(x.hang.get k).j∧(x.hang.get k).j<4)) (.br (decide
  ((x.hang.get k).j=0)) (.need (decide ((x.hang.get k).b.toNat<x.scans.n)) (.need (true) (.br ((KG x.d.play (x.scans.get (x.hang.get k).a.toNat).down (x.scans.get (x.hang.get
  k).b.toNat).up).1==0) (.leaf (.tup Vy) ([])) (.leaf (.tup (Vv k x)) ((VV x)))))) (.br (decide ((x.hang.get k).j=1)) (.need (decide ((x.hang.get k).b.toNat<x.scans.n))
  (.need (true) (.br ((KG x.d.play (x.scans.get (x.hang.get k).a.toNat).down (x.scans.get (x.hang.get k).b.toNat).right).1==0) (.leaf (.tup Vy) ([])) (.leaf (.tup (Vv k x))
  ((VV x)))))) (.br (decide ((x.hang.get k).j=2)) (.need (decide ((x.hang.get k).b.toNat<x.scans.n)) (.need (true) (.br ((KG x.d.play (x.scans.get (x.hang.get k).a.toNat).down
  (x.scans.get (x.hang.get k).b.toNat).down).1==0) (.leaf (.tup Vy) ([])) (.leaf (.tup (Vv k x)) ((VV x)))))) (.need (decide ((x.hang.get k).b.toNat<x.scans.n)) (.need
  (true) (.br ((KG x.d.play (x.scans.get (x.hang.get k).a.toNat).down (x.scans.get (x.hang.get k).b.toNat).left).1==0) (.leaf (.tup Vy) ([])) (.leaf (.tup (Vv k x)) ((VV
  x)))))))))))) (.need (decide ((x.hang.get k).a.toNat<x.scans.n)) (.need (decide ((0:Int)≤(x.hang.get k).b∧(x.hang.get k).b<(x.scans.n:Int))&&decide (x.scans.n ≤
  x.scans.n)) (.need (decide ((0:Int)≤(x.hang.get k).j∧(x.hang.get k).j<4)) (.br (decide ((x.hang.get k).j=0)) (.need (decide ((x.hang.get k).b.toNat<x.scans.n)) (.need
  (true) (.br ((KG x.d.play (x.scans.get (x.hang.get k).a.toNat).left (x.scans.get (x.hang.get k).b.toNat).up).1==0) (.leaf (.tup Vy) ([])) (.leaf (.tup (Vv k x)) ((VV
  x)))))) (.br (decide ((x.hang.get k).j=1)) (.need (decide ((x.hang.get k).b.toNat<x.scans.n)) (.need (true) (.br ((KG x.d.play (x.scans.get (x.hang.get k).a.toNat).left
  (x.scans.get (x.hang.get k).b.toNat).right).1==0) (.leaf (.tup Vy) ([])) (.leaf (.tup (Vv k x)) ((VV x)))))) (.br (decide ((x.hang.get k).j=2)) (.need (decide ((x.hang.get
  k).b.toNat<x.scans.n)) (.need (true) (.br ((KG x.d.play (x.scans.get (x.hang.get k).a.toNat).left (x.scans.get (x.hang.get k).b.toNat).down).1==0) (.leaf (.tup Vy) ([]))
  (.leaf (.tup (Vv k x)) ((VV x)))))) (.need (decide ((x.hang.get k).b.toNat<x.scans.n)) (.need (true) (.br ((KG x.d.play (x.scans.get (x.hang.get k).a.toNat).left
  (x.scans.get (x.hang.get k).b.toNat).left).1==0) (.leaf (.tup Vy) ([])) (.leaf (.tup (Vv k x)) ((VV x))))))))))))))))))) (.leaf (.tup [.ptr 0 0 0,.ptr 50 0 0,.ptr 8 0 0])
  ([(QHD x),(0,.frz jl x.d.ps.n fun i=>QA.enc (x.d.ps.get i)),(1,.frz jl x.scans.n fun i=>QA.enc (x.scans.get i)),(QFY x)])):=by kernel_rfl
theorem QUk :QK 8 [AV.nilp,AV.int true i64 (11:Int)] ([]) QCi=(
  some [(11:Int)=(11:Int)]):=by kernel_rfl
abbrev QOt:List Prop:=
  [x.d.play.slack=x.d.play.slack,x.d.play.loose=x.d.play.loose,x.d.play.damp.lo=x.d.play.damp.lo,x.d.play.damp.hi=x.d.play.damp.hi,x.d.wide=x.d.wide,x.d.high =
  x.d.high,x.d.turn=x.d.turn,0=0,x.d.ps.n=x.d.ps.n,cO=cO,0=0,x.scans.n=x.scans.n,cO=cO,0=0,x.hang.n=x.hang.n,cO=cO,
  x.lost=x.lost,x.foreign=x.foreign,x.d.ps.n≤x.d.ps.n,QC 28 x.d.ps.n (fun i=>QA.enc (x.d.ps.get i)) fun i=>QA.enc (x.d.ps.get i),x.scans.n≤x.scans.n,QC 28
  x.scans.n (fun i=>QA.enc (x.scans.get i)) fun i=>QA.enc (x.scans.get i),x.hang.n≤x.hang.n,QC 4 x.hang.n (fun i=>QA.enc (x.hang.get i)) fun i=>QA.enc
  (x.hang.get i)]
theorem QZc(k k':Nat):QK 8 [.ptr 8 0 0,.slz 2 0 x.hang.n cO,vi (x.hang.n:Int),vi (i64.wrap ((k:Int)+1))] ((VV x)) (opJ x k')=(some ([0=0,0 =
  0,0=0,x.hang.n=x.hang.n,cO=cO,(x.hang.n:Int)=(x.hang.n:Int),i64.wrap ((k:Int)+1)=(k':Int),x.d.play.length=x.d.play.length]++(QOt
  x))):=by kernel_rfl
theorem Qa6 :QK 8 [.ptr 8 0 0] ([(QHD x),(0,.frz jl x.d.ps.n fun i=>QA.enc (x.d.ps.get i)),(1,.frz jl x.scans.n fun i=>QA.enc (x.scans.get i)),(QFY x)]) (QHT x)=(some
  ([0=0,0=0,x.d.play.length=x.d.play.length]++(QOt x))):=by kernel_rfl
def Yz(s:QG)(i:Int):Edge:=match decide (i=0)with
 | true=>s.up
 | false=>match decide (i=1)with
  | true=>s.right
  | false=>match decide (i=2)with
   | true=>s.down
   | false=>s.left
def Xp:Bool:=(KG x.d.play (Yz (x.scans.get (x.hang.get k).a.toNat) (x.hang.get k).i) (Yz (x.scans.get (x.hang.get k).b.toNat) (x.hang.get k).j)).1==0
def K5:Bool:=(QU (Xp x) x.hang.n 0).isSome
def opR(e:Ex)(J:JSt):Prop:=(e = .ret∧(QU (Xp x) (x.hang.n-k) k).isSome=true∧J=QCi)∨(e = .exit 0∧(QU (Xp x) (x.hang.n-k) k).isSome=false∧J=QHT x)
theorem Vn{x:QE}(h:x.ok=true):K7 x:=by
 simp only[QE.ok,QE.sz,Qg,qbA,qdE]at h;obtain⟨⟨h1,h2,h3,h4⟩,h5,h6,h7⟩:=h;refine⟨jQ h5,by omega,by omega,fun k hk => ?_⟩
 have hj:JM x k=false:=by
  have:jxO x=none:=by
   cases e:jxO x with
   | none=>rfl
   | some i=>rw[e]at h7;simp[Kl]at h7
  exact HG this k (Nat.zero_le _) (by omega)
 have hs:i64.wrap ((x.scans.n:Int)-1)=(x.scans.n:Int)-1:=w64 (by omega) (by omega)
 simp only[JM,Yj,hs,Qg,Bool.or_eq_false_iff,Bool.not_eq_false',qbA,qdE]at hj;exact⟨⟨by omega,by omega⟩,by omega,by omega⟩
theorem QZe(hx:K7 x):Ji (opJ x) (fun k=>k≤x.hang.n) (fun k=>x.hang.n-k) (opR x) 8 QLd [] (mkF Try.prog Xc) (fun _=>hnd (mkF Try.prog Xc) 0) (Qd Try.f49 0):=by
 refine⟨fun k g hk=>Q0 (QcG x k g) ?_⟩;have h12:=hx.n;refine QI (fun h => ?_) (fun h => ?_)
 ·have h:k<x.hang.n:=by have:=qdt h;omega
  obtain⟨m,hm⟩:∃ m,x.hang.n-k=m+1:=⟨x.hang.n-k-1,by omega⟩
  have hm':x.hang.n-(k+1)=m:=by omega
  have hw:i64.wrap ((k:Int)+1)=((k+1:Nat):Int):=(w64 (by omega) (by omega)).trans (by omega)
  obtain⟨⟨b1,b2⟩,b3,b4⟩:=hx.j k h
  have go:Xp x k=false→∀ e J,opR x (k+1) e J→opR x k e J:=fun q e J h=>by
   have hf:QU (Xp x) (x.hang.n-k) k=QU (Xp x) (x.hang.n-(k+1)) (k+1):=by rw[hm,hm',QU,q]
   unfold opR at h ⊢;rw[hf];exact h
  have stop:Xp x k=true→opR x k .ret QCi:=fun q => .inl ⟨rfl,by rw[hm,QU,q];rfl,rfl⟩
  generalize hj:x.hang.get k=j at *;have na:decide (j.a.toNat<x.scans.n)=true:=by simp;omega
  have nb:decide (j.b.toNat<x.scans.n)=true:=by simp;omega
  refine QF (by simp;omega) (QF (by simp;omega) (QF (by simp;omega) (QF (by simp;omega) ?_)))
  refine QI (fun i0 => ?_) (fun i0=>QI (fun i1 => ?_) (fun i1=>QI (fun i2 => ?_) (fun i2 => ?_)))
  all_goals
   refine QF na (QF (by simp;omega) (QF (by simp;omega) ?_))
   refine QI (fun j0 => ?_) (fun j0=>QI (fun j1 => ?_) (fun j1=>QI (fun j2 => ?_) (fun j2 => ?_)))
   all_goals
    refine QF nb (QF rfl (QI (fun q => ?_) (fun q => ?_)))
    ·refine⟨_,stop ?_,rfl,rfl,_,QUk,⟨rfl,trivial⟩⟩;simp only[Xp,hj,Yz, *]
    ·refine⟨k+1,by show k+1≤x.hang.n;omega,by show x.hang.n-(k+1)<x.hang.n-k;omega,go ?_,rfl,rfl,_,QZc x k (k+1),?_⟩
     ·simp only[Xp,hj,Yz, *]
     ·repeat' first|exact trivial|with_reducible rfl|exact qlr _|exact qRr|exact hw|refine And.intro ?_ ?_
 ·have h:x.hang.n≤k:=by have:=of_decide_eq_false h;omega
  have hf:QU (Xp x) (x.hang.n-k) k=none:=by rw[show x.hang.n-k=0 by omega];rfl
  refine⟨_,.inr ⟨rfl,by rw[hf];rfl,rfl⟩,rfl,rfl,_,Qa6 x,?_⟩
  repeat' first|exact trivial|with_reducible rfl|exact qlr _|exact qRr|refine And.intro ?_ ?_
def opE(e:Int):UC:=⟨8,⟨1,[(0,.agg (Jt 0 x))],VY 0 x,8⟩,fun _ => .tup [.nilp,.int false .i64 e],fun _=>[]⟩
def opO:UC:=⟨8,⟨1,[(0,.agg (Jt 0 x))],VY 0 x,8⟩,fun m => .tup [.ptr m 0 0,.int true .i64 0],fun m=>srO m (m+1) x C⟩
def opX:List (Prop×Ex×JSt):=[(K5 x=true,.ret,QCi),(K5 x=false,.exit 0,QHT x)]
def jh(pb:List Prop→Bool)(x:QE)(C:List (List QB)):Tab:=Qe Qn 75 (Jj pb (nsU x C))
abbrev opH(P:Program)(T:Tab)(x:QE):Hnd:={ hnd (mkE P T) 1 with loop:=fun _=>KN 8 [] (opJ x (0:Nat)) (opX x) }
abbrev QK8:List CK:=
  [.int .i64,.int .i64,.int .i64,.int .i64,.int .i64,.int .i64,.int .i64,.int .i64,.int .i64,.int .i64,.int .i64,.int .i64,.int .i64,.int .i64,.int .i64,.int .i64,.int
  .i64,.int .i64,.int .i64,.int .i64,.int .i64,.int .i64,.int .i64,.int .i64,.int .i64,.int .i64,.int .i64,.int .i64]
noncomputable abbrev QQJ(x:QE):List (Nat×Blk):=
  [(48,.cells 0 125 [vi x.d.play.length,vi x.d.play.slack,vi x.d.play.loose,vi x.d.play.damp.lo,.int false .i64
  x.d.play.damp.hi,vi x.d.wide,vi x.d.high,.bool false x.d.turn,.slz 0 0 x.d.ps.n cO,.slz 1 0 x.scans.n cO,.slz 2 0 x.hang.n (Cap.of
  0),vi x.lost,vi x.foreign,.slz 49 0 C.length cO]),(0,.frz QK8 x.d.ps.n fun i=>QA.enc (x.d.ps.get i)),(1,.frz QK8 x.scans.n fun i=>
  QA.enc (x.scans.get i)),(2,.frz [.int .i64,.int .i64,.int .i64,.int .i64] x.hang.n fun i=>QA.enc (x.hang.get i)),(49,.frz2 true 38 [.int .i64,.int .i64] C.length (fun
  i=>(QJ C i).length) fun i j=>QA.enc ((QJ C i).getD j ⟨0,0⟩))]
theorem QKc(pb:List Prop→Bool)(x:QE)(C:List (List QB)):Jw (mkE Try.prog (jh pb x C)) (opH Try.prog (jh pb x C) x) Try.f49 (opO x C) = .need (decide (x.d.ps.n≤x.d.ps.n)&&(decide (x.scans.n≤x.scans.n)&&(decide (x.hang.n
  ≤ x.hang.n)&&true))&&decide (x.d.ps.n≤1000∧x.scans.n≤1000∧x.hang.n≤1000)) (.br (!x.ok) (.leaf (.tup [.nilp,vj 1]) ([])) (.ask (0=0) (.ask (0=0) (.ask
  (0=0) (.ask (x.hang.n=x.hang.n) (.ask (cO=cO) (.ask ((x.hang.n:Int)=(x.hang.n:Int)) (.ask ((0:Int)=0) (.ask (x.d.play.length=x.d.play.length) (.ask
  (x.d.play.slack=x.d.play.slack) (.ask (x.d.play.loose=x.d.play.loose) (.ask (x.d.play.damp.lo=x.d.play.damp.lo) (.ask (x.d.play.damp.hi=x.d.play.damp.hi) (.ask (x.d.wide =
  x.d.wide) (.ask (x.d.high=x.d.high) (.ask (x.d.turn=x.d.turn) (.ask (0=0) (.ask (x.d.ps.n=x.d.ps.n) (.ask (cO=cO) (.ask (0=0) (.ask (x.scans.n=x.scans.n)
  (.ask (cO=cO) (.ask (0=0) (.ask (x.hang.n=x.hang.n) (.ask (cO=cO) (.ask (x.lost=x.lost) (.ask (x.foreign=x.foreign) (.ask (x.d.ps.n≤x.d.ps.n)
  (.ask (QC 28 x.d.ps.n (fun i=>QA.enc (x.d.ps.get i)) fun i=>QA.enc (x.d.ps.get i)) (.ask (x.scans.n≤x.scans.n) (.ask (QC 28 x.scans.n (fun i=>QA.enc
  (x.scans.get i)) fun i=>QA.enc (x.scans.get i)) (.ask (x.hang.n≤x.hang.n) (.ask (QC 4 x.hang.n (fun i=>QA.enc (x.hang.get i)) fun i=>QA.enc (x.hang.get i)) (.both
  (.asm (K5 x=true) (.all (fun(g0:Nat→Value) => .leaf (.tup [.nilp,vi 11]) ([])))) (.asm (K5 x=false) (.all (fun(g1:Nat→Value) => .need (pb
  ([x.d.play.length=x.d.play.length,x.d.play.slack=x.d.play.slack,x.d.play.loose=x.d.play.loose,x.d.play.damp.lo=x.d.play.damp.lo,x.d.play.damp.hi=x.d.play.damp.hi,
  x.d.wide=x.d.wide,x.d.high=x.d.high,x.d.turn=x.d.turn,0=0,x.d.ps.n=x.d.ps.n,cO=cO,0=0,x.scans.n=x.scans.n,cO=cO,0=0,x.hang.n =
  x.hang.n,cO=cO,x.lost=x.lost,x.foreign=x.foreign,x.d.ps.n≤x.d.ps.n,QC 28 x.d.ps.n (fun i=>QA.enc (x.d.ps.get i)) fun i=>QA.enc (x.d.ps.get i),
  x.scans.n≤x.scans.n,QC 28 x.scans.n (fun i=>QA.enc (x.scans.get i)) fun i=>QA.enc (x.scans.get i),x.hang.n≤x.hang.n,QC 4 x.hang.n (fun i=>QA.enc
  (x.hang.get i)) fun i=>QA.enc (x.hang.get i)])) (.leaf (.tup [.ptr 48 0 0,vj 0]) ((QQJ C x)))))))))))))))))))))))))))))))))))))))):=by kernel_rfl
abbrev opN(P : Program): Hnd := { hnd (mkE P Qn) 1 with loop := fun _ _ _ => .fail "a loop" }
theorem QbO:Jw (mkE Try.prog Qn) (opN Try.prog) Try.f49 (opE x 1) =
  QD.need (decide (x.d.ps.n ≤ x.d.ps.n) && (decide (x.scans.n ≤ x.scans.n) && (decide (x.hang.n ≤ x.hang.n) && true)) && decide (x.d.ps.n ≤ (1000 : Nat) ∧ x.scans.n ≤ (1000 : Nat) ∧ x.hang.n ≤ (1000 : Nat))) (QD.br (!x.ok) (QD.leaf (AV.tup [AV.nilp, AV.int true i64 (1 : Int)]) ([])) (QD.fail ("a loop"))) := by kernel_rfl
theorem QZP(e:Int):QK 8 [(AV.tup [AV.nilp,AV.int true i64 (1:Int)])] ([]) (Kk (opE x e))=(
  some [(1:Int)=e]):=by kernel_rfl
theorem QXw(e:Int):QK 8 [(AV.tup [AV.nilp,AV.int false i64 (11:Int)])] ([]) (Kk (opE x e))=(
  some [(11:Int)=e]):=by kernel_rfl
theorem QV8 :QK 8 [(.tup [.ptr 48 0 0,vj 0])] ((QQJ C x)) (Kk (opO x C))=(some [0=0,0=0,(0:Int)=0,x.d.play.length=x.d.play.length,x.d.play.slack =
  x.d.play.slack,x.d.play.loose=x.d.play.loose,x.d.play.damp.lo=x.d.play.damp.lo,x.d.play.damp.hi=x.d.play.damp.hi,x.d.wide=x.d.wide,x.d.high=x.d.high,x.d.turn =
  x.d.turn,0=0,x.d.ps.n=x.d.ps.n,cO=cO,0=0,x.scans.n=x.scans.n,cO=cO,0=0,x.hang.n=x.hang.n,cO=cO,x.lost=x.lost,
  x.foreign=x.foreign,0=0,C.length=C.length,cO=cO,C.length=C.length,Kd 2 C.length (fun i=>(QJ C i).length) (fun i=>(QJ C i).length) (fun i j=>
  QA.enc ((QJ C i).getD j ⟨0,0⟩)) fun i j=>QA.enc ((QJ C i).getD j ⟨0,0⟩)]):=by kernel_rfl
theorem QMr(e:Int):(opE x e).Ok:=by
 refine⟨(by decide:8≤8),rfl,rfl,?_,rfl,fun nid h=>rfl,fun nid h=>rfl⟩
 intro q hq;simp only[UC.po,opE,List.not_mem_nil]at hq
theorem QR2:(opO x C).Ok:=by
 refine⟨(by decide:8≤8),rfl,rfl,?_,rfl,fun nid h => ?_,fun nid h => ?_⟩
 ·intro q hq;simp only[UC.po,opO,srO,Y0,List.mem_cons,List.not_mem_nil,or_false]at hq;rcases hq with rfl|rfl
  ·exact⟨rfl,rfl,rfl,fun h=>absurd (show 8<8 from h) (by decide)⟩
  ·exact⟨rfl,rfl,rfl,fun h=>absurd (show 9<8 from h) (by decide)⟩
 ·have e0:=zN 0 nid;simp only[UC.va,opO,AV.mapId,AV.mapIdL,Nat.add_zero]at e0 ⊢;rw[e0]
 ·have e0:=zN 0 nid;have e1:=zN 1 nid;have l0:=v9 (i:=0) (by decide) nid
  have l1:=v9 (i:=1) (by decide) nid
  have l2:=v9 (i:=2) (by decide) nid
  simp only[UC.po,opO,srO,Y0,Jt,Q3.val,List.cons_append,List.nil_append,List.map_cons,List.map_nil,Blk.mapId,AV.mapId,AV.mapIdL,Nat.add_zero,Nat.zero_add]at e0 e1 l0 l1 l2 ⊢;rw[e0,e1,l0,l1,l2]
structure Xr (x:QE):Prop where
 d:x.d.ps.n≤1000
 s:x.scans.n≤1000
 h:x.hang.n≤1000
theorem QEd{x:QE}(hx:K7 x):Qc (jh QS x (Qo x x.scans.n)):=by
 have:=hx.d.n9;have:=hx.s;exact Q6.add (QUe x (by omega) (by omega))
theorem QJy{x:QE}(hx:K7 x)(G:Ctx)(hrd:G.rd=none)(hG:G.n=8):KH (mkE Try.prog (jh QS x (Qo x x.scans.n))) G (opH Try.prog (jh QS x (Qo x x.scans.n)) x) (Qr Try.f49):=by
 have hE:=QT (QEd hx);refine Jd (body:=Qd Try.f49 0) hE hrd (by kernel_rfl) ?_
 refine Ze (E:=mkF Try.prog Xc) rfl (Ju (n0:=8) (vD zV) (by omega) (fun s hs=>Qz (vD zV) 0 G _ hrd) (fun s hs=>(by decide:8≤40)) ?_ (QZe x hx) (s0:=0) (Nat.zero_le _) ?_)
 ·rintro s e J (⟨_,_,rfl⟩|⟨_,_,rfl⟩)<;>exact(by decide:8≤40)
 ·rintro e J (⟨rfl,h,rfl⟩|⟨rfl,h,rfl⟩)
  ·exact⟨_,List.mem_cons_self,h,rfl,rfl⟩
  ·exact⟨_,List.mem_cons_of_mem _ List.mem_cons_self,h,rfl,rfl⟩
theorem QdK(G:Ctx)(hrd:G.rd=none):KH (mkE Try.prog Qn) G (opN Try.prog) (Qr Try.f49):=
 Jd (body:=Qd Try.f49 0) (QT Q6) hrd (by kernel_rfl) (fun _ _ _ _ _ _ _ h _ _=>h.elim)
theorem QBM(hs:Xr x)(hx:x.ok=false):QQ Try.prog 49 (uFC (opE x 1)):=by
 refine JZ (E:=mkE Try.prog Qn) (QT Q6) Try.func49 (by kernel_rfl) (by kernel_rfl) (QMr ..) (fun G h1 _=>QdK G h1) ⟨?_⟩
 refine Q0 (QbO x) ?_;refine QF (by simp;exact⟨hs.d,hs.s,hs.h⟩) (QI (fun h => ?_) (fun h => ?_))
 ·exact⟨rfl,rfl,_,QZP x 1,⟨rfl,trivial⟩⟩
 ·rw[hx]at h;cases h
theorem QAq(hs:Xr x)(hx:x.ok=true)(hr:K5 x=true):QQ Try.prog 49 (uFC (opE x 11)):=by
 refine JZ (E:=mkE Try.prog (jh QS x (Qo x x.scans.n))) (QT (QEd (Vn hx))) Try.func49 (by kernel_rfl) (by kernel_rfl) (QMr ..) (QJy (Vn hx)) ⟨?_⟩
 generalize Qo x x.scans.n=C;refine Q0 (QKc QS x C) ?_;refine QF (by simp;exact⟨hs.d,hs.s,hs.h⟩) (QI (fun h=>by rw[hx]at h;cases h) (fun h => ?_))
 repeat' first|refine Qb (p:=_=_) rfl ?_|refine Qb (p:=_≤_) (qlr _) ?_|refine Qb (p:=QC _ _ _ _) (qRr) ?_
 refine Yu (KO fun _=>KK fun g => ?_) (KO fun h3=>by rw[hr]at h3;cases h3)
 exact⟨rfl,rfl,_,QXw x 11,⟨rfl,trivial⟩⟩
theorem jb(hs:Xr x)(hx:x.ok=true)(hr:K5 x=false):QQ Try.prog 49 (uFC (opO x (Qo x x.scans.n))):=by
 refine JZ (E:=mkE Try.prog (jh QS x (Qo x x.scans.n))) (QT (QEd (Vn hx))) Try.func49 (by kernel_rfl) (by kernel_rfl) (QR2 ..) (QJy (Vn hx)) ⟨?_⟩
 generalize Qo x x.scans.n=C;refine Q0 (QKc QS x C) ?_;refine QF (by simp;exact⟨hs.d,hs.s,hs.h⟩) (QI (fun h=>by rw[hx]at h;cases h) (fun h => ?_))
 repeat' first|refine Qb (p:=_=_) rfl ?_|refine Qb (p:=_≤_) (qlr _) ?_|refine Qb (p:=QC _ _ _ _) (qRr) ?_
 refine Yu (KO fun h3=>by rw[hr]at h3;cases h3) (KO fun _=>KK fun g => ?_)
 refine QF (Q4.2 ?_) ⟨rfl,rfl,_,QV8 x C,?_⟩
 ·repeat' first|exact trivial|with_reducible rfl|exact qlr _|exact qRr|exact QZ _ _ _ _|refine And.intro ?_ ?_
 ·repeat' first|exact trivial|with_reducible rfl|exact qlr _|exact qRr|exact QZ _ _ _ _|refine And.intro ?_ ?_
def mmB(sure may all:Int):List (Nat×Blk):=[(200,.frz [.int .i64,.int .i64] l.length fun i=>QA.enc (l.getD i ⟨0,0⟩)),(16,.cells 0 3 [.int false .i64 sure]),(24,.cells 0 3 [.int false .i64 may]),(160,.cellsR 0 3 [.int false .i64 all])]
def mmJ(n sure may all has:Int)(k:Nat):JSt:=⟨34,[(0,.int false .i64 n),(2,.ptr 16 0 0),(3,.ptr 24 0 0),(4,.ptr 160 0 0),(8,.ptr 216 0 0),(11,.slz 200 0 l.length (.of 0)),(12,.int false .i64 l.length),(13,.int false .i64 k)],[(216,.cells 0 92 [.int false .i64 has])]++mmB l sure may all,248⟩
def mmE(n sure may all has:Int):JSt:=⟨34,[(0,.int false .i64 n),(2,.ptr 16 0 0),(3,.ptr 24 0 0),(4,.ptr 160 0 0),(8,.ptr 216 0 0)],[(216,.cells 0 92 [.int false .i64 has]),(16,.cells 0 3 [.int false .i64 sure]),(24,.cells 0 3 [.int false .i64 may]),(160,.cellsR 0 3 [.int false .i64 all])],248⟩
def QQH:Ex→List Nat
 | .normal=>[0,2,3,4,8,11,12,13]
 | .exit _=>[0,2,3,4,8]
 | .ret=>[]
noncomputable abbrev QQb(l:List QB)(n:Int):List AV:=
  [.nilp,.ptr 34 0 0,vi n,.ptr 16 0 0,.ptr 24 0 0,.ptr 160 0 0,.ptr 216 0 0,.slz 200 0 l.length cO,vi (l.length:Int),.int false .i64
  (i64.wrap ((k:Int)+1))]
noncomputable abbrev QJi(l:List QB)(may:Int)(sure:Int):List (Nat×Blk):=
  [(16,.cells 0 3 [vi sure]),(24,.cells 0 3 [vi may]),(160,.cellsR 0 3 [vi all]),(216,.cells 0 92 [vi (i64.wrap
  (↑(BitVec.ofInt 64 has ||| BitVec.ofInt 64 (i64.wrap ((1:Int)*2^min (l.getD k ⟨0,0⟩).cell.toNat 64))).toNat:Int))]),(200,.frz [.int .i64,.int .i64] l.length fun
  i=>QA.enc (l.getD i ⟨0,0⟩))]
theorem QYR(n sure may all has:Int)(k:Nat)(g:Nat→Value):exec (mkE Try.prog Qn) (hnd (mkE Try.prog Qn) 3) (Qd Try.f54 0) (JSt.inst (mmJ l n sure may all has k) g) (KS [16,24] QQH) = .br (decide ((k:Int)<(l.length :
  Int))) (.need (decide ((0:Int)≤(k:Int)∧(k:Int)<(l.length:Int))&&decide (l.length≤l.length)) (.need (decide (k<l.length)) (.br ((l.getD k ⟨0,0⟩).cell != -2)
  (.need (decide ((0:Int)≤(l.getD k ⟨0,0⟩).cell)) (.leaf (.tup (QQb k l n)) ((QJi all has k l may sure)))) (.leaf (.tup (QQb k l n)) ([(16,.cells 0 3 [vi sure]),
  (24,.cells 0 3 [vi may]),(160,.cellsR 0 3 [vi all]),(216,.cells 0 92 [vi has]),(200,.frz [.int .i64,.int .i64] l.length fun i=>
  QA.enc (l.getD i ⟨0,0⟩))]))))) (.leaf (.tup [.ptr 0 0 0,.ptr 34 0 0,vi n,.ptr 16 0 0,.ptr 24 0 0,.ptr 160 0 0,.ptr 216 0 0]) ([(16,.cells 0 3 [.int false .i64
  sure]),(24,.cells 0 3 [vi may]),(160,.cellsR 0 3 [vi all]),(216,.cells 0 92 [vi has])])):=by kernel_rfl
abbrev QTD:List Prop:=
  [0=0,0=0,0=0,0=0,0=0]
theorem QVj(n sure may all has has':Int)(k k':Nat):QK 208 [vi n,.ptr 16 0 0,.ptr 24 0 0,.ptr 160 0 0,.ptr 216 0 0,.slz 200 0 l.length cO,vi (l.length:Int),.int false .i64
  (i64.wrap ((k:Int)+1))] ((QJi all has k l may sure)) (mmJ l n sure may all has' k')=(some ([n=n]++QTD++[0=0,0=0,0=0,0=0,l.length=l.length,
  cO=cO,(l.length:Int)=(l.length:Int),i64.wrap ((k:Int)+1)=(k':Int),i64.wrap (↑(BitVec.ofInt 64 has ||| BitVec.ofInt 64
  (i64.wrap ((1:Int)*2^min (l.getD k ⟨0,0⟩).cell.toNat 64))).toNat:Int)=has',l.length≤l.length,QC 2 l.length (fun i=>QA.enc (l.getD i ⟨0,0⟩)) fun i=>
  QA.enc (l.getD i ⟨0,0⟩),sure=sure,may=may,all=all])):=by kernel_rfl
theorem QZp(n sure may all has has':Int)(k k':Nat):QK 208 [AV.int false i64 n,AV.ptr (16:Nat) (0:Nat) (0:Nat),AV.ptr (24:Nat) (0:Nat) (0:Nat),AV.ptr (160:Nat) (0:Nat) (0:Nat),AV.ptr (216:Nat) (0:Nat) (0:Nat),AV.slz (200:Nat) (0:Nat) l.length (Cap.of (0:Nat)),AV.int false i64 (↑l.length:Int),AV.int false i64 (i64.wrap ((↑k:Int)+(1:Int)))] ([((16:Nat),Blk.cells (0:Nat) (3:Nat) [AV.int false i64 sure]),((24:Nat),Blk.cells (0:Nat) (3:Nat) [AV.int false i64 may]),((160:Nat),Blk.cellsR (0:Nat) (3:Nat) [AV.int false i64 all]),((216:Nat),Blk.cells (0:Nat) (92:Nat) [AV.int false i64 has]),((200:Nat),Blk.frz [CK.int i64,CK.int i64] l.length fun i=>QA.enc (l.getD i (QB.mk (0:Int) (0:Int))))]) (mmJ l n sure may all has' k')=(
  some [n=n,(0:Nat)=(0:Nat),(0:Nat)=(0:Nat),(0:Nat)=(0:Nat),(0:Nat)=(0:Nat),(0:Nat)=(0:Nat),(0:Nat)=(0:Nat),(0:Nat)=(0:Nat),(0 :
  Nat)=(0:Nat),(0:Nat)=(0:Nat),l.length=l.length,Cap.of (0:Nat)=Cap.of (0:Nat),(↑l.length:Int)=(↑l.length:Int),i64.wrap ((↑k:Int)+(1:Int)) =
  (↑k':Int),has=has',l.length≤l.length,QC (2:Nat) l.length (fun i=>QA.enc (l.getD i (QB.mk (0:Int) (0:Int)))) fun i=>QA.enc (l.getD i (QB.mk (0:Int)
  (0:Int))),sure=sure,may=may,all=all]):=by kernel_rfl
theorem QZr(n sure may all has has':Int):QK 208 [AV.int false i64 n,AV.ptr (16:Nat) (0:Nat) (0:Nat),AV.ptr (24:Nat) (0:Nat) (0:Nat),AV.ptr (160:Nat) (0:Nat) (0:Nat),AV.ptr (216:Nat) (0:Nat) (0:Nat)] ([((16:Nat),Blk.cells (0:Nat) (3:Nat) [AV.int false i64 sure]),((24:Nat),Blk.cells (0:Nat) (3:Nat) [AV.int false i64 may]),((160:Nat),Blk.cellsR (0:Nat) (3:Nat) [AV.int false i64 all]),((216:Nat),Blk.cells (0:Nat) (92:Nat) [AV.int false i64 has])]) (mmE n sure may all has')=(
  some [n=n,(0:Nat)=(0:Nat),(0:Nat)=(0:Nat),(0:Nat)=(0:Nat),(0:Nat)=(0:Nat),(0:Nat)=(0:Nat),(0:Nat)=(0:Nat),(0:Nat)=(0:Nat),(0 :
  Nat)=(0:Nat),has=has',sure=sure,may=may,all=all]):=by kernel_rfl
def VT(s c:Int):Int:=i64.wrap ((BitVec.ofInt 64 s ||| BitVec.ofInt 64 (i64.wrap (1*2^min c.toNat 64))).toNat:Nat)
def QCu(s:Int)(x:QB):Int:=match x.cell != -2 with
 | true=>VT s x.cell
 | false=>s
def Kr(l:List QB):Nat→Int
 | 0=>0
 | k+1=>QCu (Kr l k) (l.getD k ⟨0,0⟩)
structure ji (l:List QB):Prop where
 le:l.length≤1000
 s:∀ i,i<l.length→(l.getD i ⟨0,0⟩).cell = -2∨0≤(l.getD i ⟨0,0⟩).cell
theorem QYL(n sure may all:Int)(hl:ji l):Ji (fun k=>mmJ l n sure may all (Kr l k) k) (fun k=>k≤l.length) (fun k=>l.length-k) (fun _ e J=>e = .exit 0∧J=mmE n sure may all (Kr l l.length)) 208 QQH [16,24] (mkE Try.prog Qn) (fun _=>hnd (mkE Try.prog Qn) 3) (Qd Try.f54 0):=by
 refine⟨fun k g hk=>Q0 (QYR l n sure may all (Kr l k) k g) ?_⟩;have hle:=hl.le;refine QI (fun h => ?_) (fun h => ?_)
 ·have h:k<l.length:=by have:=qdt h;omega
  have hw:i64.wrap ((k:Int)+1)=((k+1:Nat):Int):=(w64 (by omega) (by omega)).trans (by omega)
  have hs:=hl.s k h;refine QF (by simp;omega) (QF (by simp;omega) (QI (fun hc=>QF ?_ ?_) (fun hc => ?_)))
  ·have:¬ (l.getD k ⟨0,0⟩).cell = -2:=by simpa using hc
   exact decide_eq_true (by omega)
  ·refine⟨k+1,h,by show l.length-(k+1)<l.length-k;omega,fun _ _ h=>h,rfl,rfl,_,QVj l n sure may all (Kr l k) (Kr l (k+1)) k (k+1),?_⟩
   have e:VT (Kr l k) (l.getD k ⟨0,0⟩).cell=Kr l (k+1):=by simp only[Kr,QCu,hc]
   repeat' first|exact trivial|with_reducible rfl|exact qlr _|exact qRr|exact hw|exact e|refine And.intro ?_ ?_
  ·refine⟨k+1,h,by show l.length-(k+1)<l.length-k;omega,fun _ _ h=>h,rfl,rfl,_,QZp l n sure may all (Kr l k) (Kr l (k+1)) k (k+1),?_⟩
   have e:Kr l k=Kr l (k+1):=by simp only[Kr,QCu,hc]
   repeat' first|exact trivial|with_reducible rfl|exact qlr _|exact qRr|exact hw|exact e|refine And.intro ?_ ?_
 ·have:k=l.length:=by have:=of_decide_eq_false h;omega
  subst this;refine⟨_,⟨rfl,rfl⟩,rfl,rfl,_,QZr n sure may all _ _,?_⟩
  repeat' first|exact trivial|with_reducible rfl|exact qlr _|refine And.intro ?_ ?_
abbrev mmH(P:Program)(l:List QB)(n sure may all has:Int):Hnd:={ hnd (mkE P Qn) 1 with loop:=fun _=>KN 208 [16,24] (mmJ l n sure may all 0 (0:Nat)) [(True,.exit 0,mmE n sure may all has)] }
theorem QRw(n sure may all:Int)(hl:ji l)(G:Ctx)(hrd:G.rd=none)(hG:G.n=208):KH (mkE Try.prog Qn) G (mmH Try.prog l n sure may all (Kr l l.length)) (Qr Try.f54):=by
 refine Jd (body:=Qd Try.f54 0) (QT Q6) hrd (by kernel_rfl) ?_
 refine Ju (n0:=208) (QT Q6) (by omega) (fun s hs=>Qz (QT Q6) 3 G _ hrd) (fun s hs=>(by decide:208≤248)) ?_ (QYL l n sure may all hl) (s0:=0) (Nat.zero_le _) ?_
 ·rintro s e J ⟨_,rfl⟩;exact(by decide:208≤248)
 ·rintro e J ⟨rfl,rfl⟩;exact⟨_,List.mem_cons_self,trivial,rfl,rfl⟩
def VM(a b:Int):Int:=i64.wrap ((BitVec.ofInt 64 a &&& ~~~BitVec.ofInt 64 b).toNat:Nat)
def orN(a b:Int):Int:=i64.wrap ((BitVec.ofInt 64 a ||| BitVec.ofInt 64 b).toNat:Nat)
def mmU(n sure may all has:Int):UC:=⟨32,⟨5,[(0,.int false .i64 n),(1,.slz 200 0 l.length (.of 0)),(2,.ptr 16 0 0),(3,.ptr 24 0 0),(4,.ptr 160 0 0)],mmB l sure may all,208⟩,fun _ => .int false .i64 n,fun _=>[(16,.cells 0 3 [.int false .i64 (VM sure has)]),(24,.cells 0 3 [.int false .i64 (orN may (VM all has))])]⟩
theorem QTk(n sure may all has:Int):Jw (mkE Try.prog Qn) (mmH Try.prog l n sure may all has) Try.f54 (mmU l n sure may all has) =
  QD.ask (n=n) (QD.ask ((0:Nat)=(0:Nat)) (QD.ask ((0:Nat)=(0:Nat)) (QD.ask ((0:Nat)=(0:Nat)) (QD.ask ((0:Nat)=(0:Nat)) (QD.ask ((0:Nat)=(0 :
  Nat)) (QD.ask ((0:Nat)=(0:Nat)) (QD.ask ((0:Nat)=(0:Nat)) (QD.ask ((0:Nat)=(0:Nat)) (QD.ask ((0:Nat)=(0:Nat)) (QD.ask (l.length=l.length)
  (QD.ask (Cap.of (0:Nat)=Cap.of (0:Nat)) (QD.ask ((↑l.length:Int)=(↑l.length:Int)) (QD.ask ((0:Int)=(0:Int)) (QD.ask ((0:Int)=(0:Int)) (QD.ask
  (l.length≤l.length) (QD.ask (QC (2:Nat) l.length (fun i=>QA.enc (l.getD i (QB.mk (0:Int) (0:Int)))) fun i=>QA.enc (l.getD i (QB.mk (0:Int) (0:Int))))
  (QD.ask (sure=sure) (QD.ask (may=may) (QD.ask (all=all) (QD.asm (True) (QD.all (fun(g0:Nat→Value)=>QD.leaf (AV.int false i64 n) ([((16:Nat),
  Blk.cells (0:Nat) (3:Nat) [AV.int false i64 (i64.wrap (↑(BitVec.ofInt (64:Nat) sure &&& ~~~BitVec.ofInt (64:Nat) has).toNat:Int))]),((24:Nat),Blk.cells
  (0:Nat) (3:Nat) [AV.int false i64 (i64.wrap (↑(BitVec.ofInt (64:Nat) may ||| BitVec.ofInt (64:Nat) (i64.wrap (↑(BitVec.ofInt (64:Nat) all &&&
  ~~~BitVec.ofInt (64:Nat) has).toNat:Int))).toNat:Int))])]))))))))))))))))))))))):=by kernel_rfl
theorem QdZ(n sure may all has:Int):QK 208 [(AV.int false i64 n)] ([((16:Nat),Blk.cells (0:Nat) (3:Nat) [AV.int false i64 (i64.wrap (↑(BitVec.ofInt (64:Nat) sure &&& ~~~BitVec.ofInt (64:Nat) has).toNat:Int))]),((24:Nat),Blk.cells (0:Nat) (3:Nat) [AV.int false i64 (i64.wrap (↑(BitVec.ofInt (64:Nat) may ||| BitVec.ofInt (64:Nat) (i64.wrap (↑(BitVec.ofInt (64:Nat) all &&& ~~~BitVec.ofInt (64:Nat) has).toNat:Int))).toNat:Int))])]) (Kk (mmU l n sure may all has))=(
  some [n=n,i64.wrap (↑(BitVec.ofInt (64:Nat) sure &&& ~~~BitVec.ofInt (64:Nat) has).toNat:Int)=VM sure has,i64.wrap (↑(BitVec.ofInt (64:Nat) may |||
  BitVec.ofInt (64:Nat) (i64.wrap (↑(BitVec.ofInt (64:Nat) all &&& ~~~BitVec.ofInt (64:Nat) has).toNat:Int))).toNat:Int)=orN may (VM all has)]):=by kernel_rfl
theorem QWt(n sure may all:Int)(hl:ji l):QQ Try.prog 54 (uFC (mmU l n sure may all (Kr l l.length))):=by
 refine JZ (E:=mkE Try.prog Qn) (QT Q6) Try.func54 (by kernel_rfl) (by kernel_rfl) ?_ (QRw l n sure may all hl) ⟨?_⟩
 ·refine⟨(by decide:32≤208),rfl,rfl,?_,rfl,fun _ _=>rfl,fun _ _=>rfl⟩
  intro q hq;simp only[UC.po,mmU,List.mem_cons,List.not_mem_nil,or_false]at hq;rcases hq with rfl|rfl<;>exact⟨rfl,rfl,rfl,fun _=>rfl⟩
 refine Q0 (QTk l n sure may all (Kr l l.length)) ?_
 repeat' first|refine QF rfl ?_|refine Qb (p:=_=_) rfl ?_|refine Qb (p:=_≤_) (qlr _) ?_|refine Qb (p:=QC _ _ _ _) (qRr) ?_
 refine KO fun _=>KK fun g=>⟨rfl,rfl,_,QdZ l n sure may all _,?_⟩
 repeat' first|exact trivial|with_reducible rfl|exact qlr _|exact qRr|exact(show _=VM _ _ from rfl)|exact(show _=orN _ _ from rfl)|refine And.intro ?_ ?_
inductive Res (σ:Type) where
 | go (s:σ) (has:Int→Bool)
 | stop (s:σ) (has:Int→Bool)
def QH(c:Int):Int:=(l.countP fun s=>s.cell==c:Nat)
def Jk{σ:Type}(f:σ→(Int→Bool)→QB→Res σ):List QB→σ→(Int→Bool)→Res σ
 | [],s,h => .go s h
 | c::l,s,h=>match f s h c with
  | .go s h=>Jk f l s h
  | .stop s h => .stop s h
def JG(c:QB):Bool:=decide (QH l c.cell≥(match c.cell == -2 with|true=>x.foreign|false=>1))
theorem XB{x:QE}{l:List QB}:JG x l c=decide (QH l c.cell≥cond (c.cell == -2) x.foreign 1):=by unfold JG;cases c.cell == -2<;>rfl
theorem QN:∀{a b:List Prop},KJ a→KJ b→KJ (a++b)
 | [],_,_,h=>h
 | _::_,_,h,g=>⟨h.1,QN h.2 g⟩
abbrev mkC(P:Program)(C:Tab):Env:=⟨P,C,qE P,false,fun _=>false,true,false,false⟩
theorem Wu{C:Tab}(hC:Qc C):(mkC Try.prog C).Sound:={ c:=hC,m:=vu Try.prog,mixed:=ju }
def X2:Bool:=decide ((x.d.ps.n:Int)-((l.length:Int)-QH l (-2))>x.lost)
def Kf(rec:σ→(Int→Bool)→QB→Res σ)(s:σ)(h:Int→Bool)(c:QB):Res σ:=match JG x l c with
 | true => .go s h
 | false=>match Kj x (l++[c])with
  | false => .go s (QW c.cell true (QW c.cell true h))
  | true=>match rec s (QW c.cell true h) c with
   | .go s h => .go s (QW c.cell true h)
   | .stop s h => .stop s (QW c.cell true h)
def Jp(Y:σ→List QB→σ×Bool)(l:List QB)(s:σ)(h:Int→Bool):Res σ:=match X2 x l with
 | true => .go s h
 | false=>match Y s l with
  | (s,true) => .go s h
  | (s,false) => .stop s h
def onT{σ:Type}(x:QE)(C:List (List QB))(Y:σ→List QB→σ×Bool):Nat→List QB→σ→(Int→Bool)→Res σ
 | 0,l,s,h=>Jp x Y l s h
 | d+1,l,s,h=>Jk (Kf x l fun s h c=>onT x C Y d (l++[c]) s h) (QJ C l.length) s h
theorem qc(c:QB)(n:Int):QH (l++[c]) n=if c.cell=n then QH l n+1 else QH l n:=by
 unfold QH;rw[List.countP_append]
 by_cases h:c.cell=n
 ·rw[if_pos h];simp[h]
 ·rw[if_neg h];simp[h]
theorem QBH:0≤QH l n:=Int.natCast_nonneg _
theorem QB8:QH l n≤l.length:=by
 unfold QH;have:=List.countP_le_length (p:=fun s:QB=>s.cell==n) (l:=l);omega
abbrev YK:Int→AV:=fun c => .int false .i64 (QH l c)
theorem K1(z:Bool)(h:Int→Bool)(l:List QB):KA (.int z .i64 0) (.int true .i64 0) h h (YK l) (YK l):=⟨fun _=>rfl,rfl,fun _=>rfl,fun _=>⟨fun _=>rfl,rfl⟩⟩
theorem H9(z b:Bool){l:List QB}{n:Int}(hl:l.length≤1000)(hn:n=i64.wrap (QH l c.cell+1))(h:Int→Bool):KA (.int z .i64 0) (.int true .i64 0) h h (Q9 c.cell (.int b .i64 n) (YK l)) (YK (l++[c])):=by
 have h1:=QBH l c.cell;have h2:=QB8 l c.cell;have hw:i64.wrap (QH l c.cell+1)=QH l c.cell+1:=w64 (by omega) (by omega)
 refine⟨fun _=>rfl,rfl,fun _=>rfl,fun k=>⟨fun r => ?_,rfl⟩⟩;simp only[Q9]
 by_cases e:k=c.cell
 ·subst e;have q:QH (l++[c]) c.cell=QH l c.cell+1:=by rw[qc,if_pos rfl]
  simp only[decide_true,hn,hw,YK,q];rfl
 ·have q:QH (l++[c]) k=QH l k:=by rw[qc,if_neg (fun q=>e q.symm)]
  simp only[e,decide_false,YK,q]
theorem Gq(z b:Bool){l:List QB}{n:Int}(hl:l.length≤1000)(hn:n=i64.wrap (QH (l++[c]) c.cell-1))(h:Int→Bool):KA (.int z .i64 0) (.int true .i64 0) h h (Q9 c.cell (.int b .i64 n) (YK (l++[c]))) (YK l):=by
 have h1:=QBH l c.cell;have h2:=QB8 l c.cell
 have hw:i64.wrap (QH (l++[c]) c.cell-1)=QH l c.cell:=by
  rw[qc,if_pos rfl];exact(w64 (by omega) (by omega)).trans (by omega)
 refine⟨fun _=>rfl,rfl,fun _=>rfl,fun k=>⟨fun r => ?_,rfl⟩⟩;simp only[Q9]
 by_cases e:k=c.cell
 ·subst e;simp only[decide_true,hn,hw];rfl
 ·have q:QH (l++[c]) k=QH l k:=by rw[qc,if_neg (fun q=>e q.symm)]
  simp only[e,decide_false,YK,q]
theorem zq(z b b':Bool){l:List QB}{m n:Int}(hl:l.length≤1000)(hm:n=i64.wrap (i64.wrap (QH l c.cell+1)-1))(h:Int→Bool):KA (.int z .i64 0) (.int true .i64 0) h h (Q9 c.cell (.int b .i64 n) (Q9 c.cell (.int b' .i64 m) (YK l))) (YK l):=by
 have h1:=QBH l c.cell;have h2:=QB8 l c.cell;have hw:i64.wrap (QH l c.cell+1)=QH l c.cell+1:=w64 (by omega) (by omega)
 have hw2:i64.wrap (QH l c.cell+1-1)=QH l c.cell:=(w64 (by omega) (by omega)).trans (by omega)
 rw[hw,hw2]at hm;refine⟨fun _=>rfl,rfl,fun _=>rfl,fun k=>⟨fun r => ?_,rfl⟩⟩;simp only[Q9]
 by_cases e:k=c.cell
 ·subst e;simp only[decide_true,hm];rfl
 ·simp only[e,decide_false]
def rwL(id:Nat)(l:List QB):Nat×Blk:=(id,.rowz true 56 [.int .i64,.int .i64] l.length fun i=>QA.enc (l.getD i ⟨0,0⟩))
theorem Y2(c:QB)(n:Nat)(hn:n=l.length):QC 2 (l++[c]).length (QY n (fun i=>QA.enc (l.getD i ⟨0,0⟩)) (QR [[.int false .i64 c.cell,.int false .i64 c.turn]] 0)) (fun i=>QA.enc ((l++[c]).getD i ⟨0,0⟩)):=by
 subst hn;intro i hi;have hi:i<l.length+1:=by simpa using hi
 show eqF 2 0 (QY l.length (fun i=>QA.enc (l.getD i ⟨0,0⟩)) (QR [[.int false .i64 c.cell,.int false .i64 c.turn]] 0) i) (QA.enc ((l++[c]).getD i ⟨0,0⟩))
 by_cases h:i<l.length
 ·have e:(l++[c]).getD i ⟨0,0⟩=l.getD i ⟨0,0⟩:=by
   rw[List.getD_eq_getElem?_getD,List.getD_eq_getElem?_getD,List.getElem?_append_left h]
  have e2:QY l.length (fun i=>QA.enc (l.getD i (⟨0,0⟩:QB))) (QR [[.int false .i64 c.cell,.int false .i64 c.turn]] 0) i=QA.enc (l.getD i ⟨0,0⟩):=by
   funext j;rw[VX,if_pos h]
  rw[e,e2];exact⟨rfl,rfl,trivial⟩
 ·have q:i=l.length:=by omega
  subst q;have e:(l++[c]).getD l.length ⟨0,0⟩=c:=by simp
  have e2:QY l.length (fun i=>QA.enc (l.getD i (⟨0,0⟩:QB))) (QR [[.int false .i64 c.cell,.int false .i64 c.turn]] 0) l.length=QR [[.int false .i64 c.cell,.int false .i64 c.turn]] 0 0:=by
   funext j;rw[VX,if_neg h,Nat.sub_self]
  rw[e,e2];exact⟨rfl,rfl,trivial⟩
theorem Gb(c:QB):QC 2 l.length (fun i=>QA.enc ((l++[c]).getD i ⟨0,0⟩)) (fun i=>QA.enc (l.getD i ⟨0,0⟩)):=by
 intro i hi
 have e:(l++[c]).getD i ⟨0,0⟩=l.getD i ⟨0,0⟩:=by
  rw[List.getD_eq_getElem?_getD,List.getD_eq_getElem?_getD,List.getElem?_append_left hi]
 show eqF 2 0 (QA.enc ((l++[c]).getD i ⟨0,0⟩)) (QA.enc (l.getD i ⟨0,0⟩));rw[e];exact⟨rfl,rfl,trivial⟩
theorem ZD(c:QB):l.length+1=(l++[c]).length:=by simp
theorem ZG(c:QB):(l++[c]).length≤l.length+1:=by simp
theorem HX(c:QB)(hl:l.length≤1000):(i64.wrap (((l++[c]).length:Int)-1)).toNat=l.length:=by
 rw[List.length_append,List.length_singleton,w64 (by omega) (by omega)];omega
theorem Hr(hl:l.length≤1000):(i64.wrap (((l.length+1:Nat):Int)-1)).toNat=l.length:=by
 rw[w64 (by omega) (by omega)];omega
theorem H4(g:Nat→Nat→Int):QC 2 l.length (QY l.length (fun i=>QA.enc (l.getD i (⟨0,0⟩:QB))) g) (fun i=>QA.enc (l.getD i ⟨0,0⟩)):=by
 intro i hi;show eqF 2 0 (QY l.length (fun i=>QA.enc (l.getD i (⟨0,0⟩:QB))) g i) (QA.enc (l.getD i ⟨0,0⟩))
 have e2:QY l.length (fun i=>QA.enc (l.getD i (⟨0,0⟩:QB))) g i=QA.enc (l.getD i ⟨0,0⟩):=by
  funext j;rw[VX,if_pos hi]
 rw[e2];exact⟨rfl,rfl,trivial⟩
theorem Gk{f:σ→(Int→Bool)→QB→Res σ}{cs:List QB}{k:Nat}(h:cs.length≤k)(s:σ)(has:Int→Bool):Jk f (cs.drop k) s has = .go s has:=by
 rw[List.drop_eq_nil_of_le h,Jk]
theorem HI{f:σ→(Int→Bool)→QB→Res σ}{cs:List QB}{k:Nat}(h:k<cs.length)(s:σ)(has:Int→Bool):Jk f (cs.drop k) s has=match f s has (cs.getD k ⟨0,0⟩)with
  | .go s h=>Jk f (cs.drop (k+1)) s h
  | .stop s h => .stop s h:=by
 rw[List.drop_eq_getElem_cons h,Jk,List.getD_eq_getElem?_getD,List.getElem?_eq_getElem h];rfl
theorem QPl{σ:Type}{f:σ→(Int→Bool)→QB→Res σ}(hf:∀ s h c,∃ s' h',f s h c = .go s' h'):∀(l:List QB) (s:σ) (h:Int→Bool),∃ s' h',Jk f l s h = .go s' h'
 | [],s,h=>⟨s,h,rfl⟩
 | c::l,s,h=>by
  obtain⟨s',h',e⟩:=hf s h c;rw[Jk,e];exact QPl hf l s' h'
theorem ZL{σ:Type}{x:QE}{C:List (List QB)}{Y:σ→List QB→σ×Bool}(hY:∀ s l,(Y s l).2=true):∀(d:Nat) (l:List QB) (s:σ) (h:Int→Bool),∃ s' h',onT x C Y d l s h = .go s' h'
 | 0,l,s,h=>by
  rw[onT,Jp];split
  ·exact⟨_,_,rfl⟩
  ·have:=hY s l;split
   ·exact⟨_,_,rfl⟩
   ·rename_i e;rw[e]at this;cases this
 | d+1,l,s,h=>by
  rw[onT];refine QPl (fun s h c => ?_) _ s h;unfold Kf;split
  ·exact⟨_,_,rfl⟩
  ·split
   ·exact⟨_,_,rfl⟩
   ·obtain⟨s',h',e⟩:=ZL (x:=x) (C:=C) hY d (l++[c]) s (QW c.cell true h);simp only[e];exact⟨_,_,rfl⟩
end Go.Proofs.Ytbpffdkemeoajaa
