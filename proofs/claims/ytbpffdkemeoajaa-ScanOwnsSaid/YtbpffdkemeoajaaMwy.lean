/- - -/
import Derived.Test.YtbpffdkemeoajaaMwx
open Go.IntKind (i64)
set_option maxRecDepth 100000
namespace Go.Proofs.Ytbpffdkemeoajaa
open Go.SX
variable {c:QB}{σ:Type}(x:QE)(l:List QB)(all has n:Int)(C:List (List QB))(k:Nat)
def opJ:JSt:=⟨50,[(1,.ptr 8 0 0),(12,.slz 2 0 x.hang.n (.of 0)),(13,.int false .i64 x.hang.n),(14,.int false .i64 k)],[(8,.cells 0 50 (JJ 0 x))]++JY 0 x,40⟩
def QNM:Ex→List Nat
 | .normal=>[1,12,13,14]
 | .exit _=>[1]
 | .ret=>[2,3]
def Hg:JSt:=⟨50,[(2,.nilp),(3,.int false .i64 11)],[],40⟩
def QDv:JSt:=⟨50,[(1,.ptr 8 0 0)],[(8,.cells 0 50 (JJ 0 x))]++JY 0 x,40⟩
noncomputable abbrev VM:List AV:=
  [.nili,.ptr 50 0 0,.nilp,vj 11]
noncomputable abbrev VV(x:QE):List AV:=
  [.nilp,.ptr 50 0 0,.ptr 8 0 0,.slz 2 0 x.hang.n cO,vi (x.hang.n:Int),vi (i64.wrap ((k:Int)+1))]
noncomputable abbrev QEB:Nat×Blk:=
  (8,.cells 0 50 [vi x.d.play.length,vi x.d.play.slack,vi x.d.play.loose,vi x.d.play.damp.lo,vi x.d.play.damp.hi,
  .int false .i64 x.d.wide,vi x.d.high,.bool false x.d.turn,.slz 0 0 x.d.ps.n cO,.slz 1 0 x.scans.n cO,.slz 2 0 x.hang.n cO,.int false .i64
  x.lost,vi x.foreign])
noncomputable abbrev QEt:Nat×Blk:=
  (2,.frz [.int .i64,.int .i64,.int .i64,.int .i64] x.hang.n fun i=>QA.enc (x.hang.get i))
abbrev vA:List CK:=
  [.int .i64,.int .i64,.int .i64,.int .i64,.int .i64,.int .i64,.int .i64,.int .i64,.int .i64,.int .i64,.int .i64,.int .i64,.int .i64,.int .i64,.int .i64,.int .i64,.int
  .i64,.int .i64,.int .i64,.int .i64,.int .i64,.int .i64,.int .i64,.int .i64,.int .i64,.int .i64,.int .i64,.int .i64]
noncomputable abbrev J7:List (Nat×Blk):=
  [(QEB x),(QEt x),(0,.frz vA x.d.ps.n fun i=>QA.enc (x.d.ps.get i)),(1,.frz vA x.scans.n fun i=>QA.enc (x.scans.get i))]
theorem QT8(g:Nat→Value):exec (mkF Try.prog V2) (hnd (mkF Try.prog V2) 0) (QW Try.f49 0) (JSt.inst (opJ x k) g) (KF [] QNM) = .br (decide ((k:Int)<(x.hang.n:Int))) (.need (decide ((0 :
  Int)≤(k:Int)∧(k:Int)<(x.hang.n:Int))&&decide (x.hang.n≤x.hang.n)) (.need (decide (k<x.hang.n)) (.need (decide ((0:Int)≤(x.hang.get k).a∧(x.hang.get k).a <
  (x.scans.n:Int))&&decide (x.scans.n≤x.scans.n)) (.need (decide ((0:Int)≤(x.hang.get k).i∧(x.hang.get k).i<4)) (.br (decide ((x.hang.get k).i=0)) (.need (decide
  ((x.hang.get k).a.toNat<x.scans.n)) (.need (decide ((0:Int)≤(x.hang.get k).b∧(x.hang.get k).b<(x.scans.n:Int))&&decide (x.scans.n≤x.scans.n)) (.need (decide ((0 :
  Int)≤(x.hang.get k).j∧(x.hang.get k).j<4)) (.br (decide ((x.hang.get k).j=0)) (.need (decide ((x.hang.get k).b.toNat<x.scans.n)) (.need (true) (.br ((KH x.d.play
  (x.scans.get (x.hang.get k).a.toNat).up (x.scans.get (x.hang.get k).b.toNat).up).1==0) (.leaf (.tup VM) ([])) (.leaf (.tup (VV k x)) ((J7 x)))))) (.br (decide ((x.hang.get
  k).j=1)) (.need (decide ((x.hang.get k).b.toNat<x.scans.n)) (.need (true) (.br ((KH x.d.play (x.scans.get (x.hang.get k).a.toNat).up (x.scans.get (x.hang.get
  k).b.toNat).right).1==0) (.leaf (.tup VM) ([])) (.leaf (.tup (VV k x)) ((J7 x)))))) (.br (decide ((x.hang.get k).j=2)) (.need (decide ((x.hang.get k).b.toNat<x.scans.n))
  (.need (true) (.br ((KH x.d.play (x.scans.get (x.hang.get k).a.toNat).up (x.scans.get (x.hang.get k).b.toNat).down).1==0) (.leaf (.tup VM) ([])) (.leaf (.tup (VV k x))
  ((J7 x)))))) (.need (decide ((x.hang.get k).b.toNat<x.scans.n)) (.need (true) (.br ((KH x.d.play (x.scans.get (x.hang.get k).a.toNat).up (x.scans.get (x.hang.get
  k).b.toNat).left).1==0) (.leaf (.tup VM) ([])) (.leaf (.tup (VV k x)) ((J7 x)))))))))))) (.br (decide ((x.hang.get k).i=1)) (.need (decide ((x.hang.get k).a.toNat <
  x.scans.n)) (.need (decide ((0:Int)≤(x.hang.get k).b∧(x.hang.get k).b<(x.scans.n:Int))&&decide (x.scans.n≤x.scans.n)) (.need (decide ((0:Int)≤(x.hang.get k).j ∧
  (x.hang.get k).j<4)) (.br (decide ((x.hang.get k).j=0)) (.need (decide ((x.hang.get k).b.toNat<x.scans.n)) (.need (true) (.br ((KH x.d.play (x.scans.get (x.hang.get
  k).a.toNat).right (x.scans.get (x.hang.get k).b.toNat).up).1==0) (.leaf (.tup VM) ([])) (.leaf (.tup (VV k x)) ((J7 x)))))) (.br (decide ((x.hang.get k).j=1)) (.need
  (decide ((x.hang.get k).b.toNat<x.scans.n)) (.need (true) (.br ((KH x.d.play (x.scans.get (x.hang.get k).a.toNat).right (x.scans.get (x.hang.get k).b.toNat).right).1==0)
  (.leaf (.tup VM) ([])) (.leaf (.tup (VV k x)) ((J7 x)))))) (.br (decide ((x.hang.get k).j=2)) (.need (decide ((x.hang.get k).b.toNat<x.scans.n)) (.need (true) (.br ((KH
  x.d.play (x.scans.get (x.hang.get k).a.toNat).right (x.scans.get (x.hang.get k).b.toNat).down).1==0) (.leaf (.tup VM) ([])) (.leaf (.tup (VV k x)) ((J7 x)))))) (.need
  (decide ((x.hang.get k).b.toNat<x.scans.n)) (.need (true) (.br ((KH x.d.play (x.scans.get (x.hang.get k).a.toNat).right (x.scans.get (x.hang.get k).b.toNat).left).1==0) (.leaf
  (.tup VM) ([])) (.leaf (.tup (VV k x)) ((J7 x)))))))))))) (.br (decide ((x.hang.get k).i=2)) (.need (decide ((x.hang.get k).a.toNat<x.scans.n)) (.need (decide ((0:Int) ≤
  (x.hang.get k).b∧(x.hang.get k).b<(x.scans.n:Int))&&decide (x.scans.n≤x.scans.n)) (.need (decide ((0:Int)≤(x.hang.get k).j∧(x.hang.get k).j<4)) (.br (decide
  ((x.hang.get k).j=0)) (.need (decide ((x.hang.get k).b.toNat<x.scans.n)) (.need (true) (.br ((KH x.d.play (x.scans.get (x.hang.get k).a.toNat).down (x.scans.get (x.hang.get
  k).b.toNat).up).1==0) (.leaf (.tup VM) ([])) (.leaf (.tup (VV k x)) ((J7 x)))))) (.br (decide ((x.hang.get k).j=1)) (.need (decide ((x.hang.get k).b.toNat<x.scans.n))
  (.need (true) (.br ((KH x.d.play (x.scans.get (x.hang.get k).a.toNat).down (x.scans.get (x.hang.get k).b.toNat).right).1==0) (.leaf (.tup VM) ([])) (.leaf (.tup (VV k x))
  ((J7 x)))))) (.br (decide ((x.hang.get k).j=2)) (.need (decide ((x.hang.get k).b.toNat<x.scans.n)) (.need (true) (.br ((KH x.d.play (x.scans.get (x.hang.get k).a.toNat).down
  (x.scans.get (x.hang.get k).b.toNat).down).1==0) (.leaf (.tup VM) ([])) (.leaf (.tup (VV k x)) ((J7 x)))))) (.need (decide ((x.hang.get k).b.toNat<x.scans.n)) (.need
  (true) (.br ((KH x.d.play (x.scans.get (x.hang.get k).a.toNat).down (x.scans.get (x.hang.get k).b.toNat).left).1==0) (.leaf (.tup VM) ([])) (.leaf (.tup (VV k x)) ((J7
  x)))))))))))) (.need (decide ((x.hang.get k).a.toNat<x.scans.n)) (.need (decide ((0:Int)≤(x.hang.get k).b∧(x.hang.get k).b<(x.scans.n:Int))&&decide (x.scans.n ≤
  x.scans.n)) (.need (decide ((0:Int)≤(x.hang.get k).j∧(x.hang.get k).j<4)) (.br (decide ((x.hang.get k).j=0)) (.need (decide ((x.hang.get k).b.toNat<x.scans.n)) (.need
  (true) (.br ((KH x.d.play (x.scans.get (x.hang.get k).a.toNat).left (x.scans.get (x.hang.get k).b.toNat).up).1==0) (.leaf (.tup VM) ([])) (.leaf (.tup (VV k x)) ((J7
  x)))))) (.br (decide ((x.hang.get k).j=1)) (.need (decide ((x.hang.get k).b.toNat<x.scans.n)) (.need (true) (.br ((KH x.d.play (x.scans.get (x.hang.get k).a.toNat).left
  (x.scans.get (x.hang.get k).b.toNat).right).1==0) (.leaf (.tup VM) ([])) (.leaf (.tup (VV k x)) ((J7 x)))))) (.br (decide ((x.hang.get k).j=2)) (.need (decide ((x.hang.get
  k).b.toNat<x.scans.n)) (.need (true) (.br ((KH x.d.play (x.scans.get (x.hang.get k).a.toNat).left (x.scans.get (x.hang.get k).b.toNat).down).1==0) (.leaf (.tup VM) ([]))
  (.leaf (.tup (VV k x)) ((J7 x)))))) (.need (decide ((x.hang.get k).b.toNat<x.scans.n)) (.need (true) (.br ((KH x.d.play (x.scans.get (x.hang.get k).a.toNat).left
  (x.scans.get (x.hang.get k).b.toNat).left).1==0) (.leaf (.tup VM) ([])) (.leaf (.tup (VV k x)) ((J7 x))))))))))))))))))) (.leaf (.tup [.ptr 0 0 0,.ptr 50 0 0,.ptr 8 0 0])
  ([(QEB x),(0,.frz vA x.d.ps.n fun i=>QA.enc (x.d.ps.get i)),(1,.frz vA x.scans.n fun i=>QA.enc (x.scans.get i)),(QEt x)])):=by kernel_rfl
theorem QZE :QL 8 [AV.nilp,AV.int true i64 (11:Int)] ([]) Hg=(
  some [(11:Int)=(11:Int)]):=by kernel_rfl
abbrev QLl:List Prop:=
  [x.d.play.slack=x.d.play.slack,x.d.play.loose=x.d.play.loose,x.d.play.damp.lo=x.d.play.damp.lo,x.d.play.damp.hi=x.d.play.damp.hi,x.d.wide=x.d.wide,x.d.high =
  x.d.high,x.d.turn=x.d.turn,0=0,x.d.ps.n=x.d.ps.n,cO=cO,0=0,x.scans.n=x.scans.n,cO=cO,0=0,x.hang.n=x.hang.n,cO=cO,
  x.lost=x.lost,x.foreign=x.foreign,x.d.ps.n≤x.d.ps.n,QC 28 x.d.ps.n (fun i=>QA.enc (x.d.ps.get i)) fun i=>QA.enc (x.d.ps.get i),x.scans.n≤x.scans.n,QC 28
  x.scans.n (fun i=>QA.enc (x.scans.get i)) fun i=>QA.enc (x.scans.get i),x.hang.n≤x.hang.n,QC 4 x.hang.n (fun i=>QA.enc (x.hang.get i)) fun i=>QA.enc
  (x.hang.get i)]
theorem QVr(k k':Nat):QL 8 [.ptr 8 0 0,.slz 2 0 x.hang.n cO,vi (x.hang.n:Int),vi (i64.wrap ((k:Int)+1))] ((J7 x)) (opJ x k')=(some ([0=0,0 =
  0,0=0,x.hang.n=x.hang.n,cO=cO,(x.hang.n:Int)=(x.hang.n:Int),i64.wrap ((k:Int)+1)=(k':Int),x.d.play.length=x.d.play.length]++(QLl
  x))):=by kernel_rfl
theorem QVw :QL 8 [.ptr 8 0 0] ([(QEB x),(0,.frz vA x.d.ps.n fun i=>QA.enc (x.d.ps.get i)),(1,.frz vA x.scans.n fun i=>QA.enc (x.scans.get i)),(QEt x)]) (QDv x)=(some
  ([0=0,0=0,x.d.play.length=x.d.play.length]++(QLl x))):=by kernel_rfl
def QCK(s:QT)(i:Int):Edge:=match decide (i=0)with
 | true=>s.up
 | false=>match decide (i=1)with
  | true=>s.right
  | false=>match decide (i=2)with
   | true=>s.down
   | false=>s.left
def YZ:Bool:=(KH x.d.play (QCK (x.scans.get (x.hang.get k).a.toNat) (x.hang.get k).i) (QCK (x.scans.get (x.hang.get k).b.toNat) (x.hang.get k).j)).1==0
def JE:Bool:=(QQ (YZ x) x.hang.n 0).isSome
def opR(e:Ex)(J:JSt):Prop:=(e = .ret∧(QQ (YZ x) (x.hang.n-k) k).isSome=true∧J=Hg)∨(e = .exit 0∧(QQ (YZ x) (x.hang.n-k) k).isSome=false∧J=QDv x)
theorem Xc{x:QE}(h:x.ok=true):Ko x:=by
 simp only[QE.ok,QE.sz,Qf,qbA,qdE]at h;obtain⟨⟨h1,h2,h3,h4⟩,h5,h6,h7⟩:=h;refine⟨QNH h5,by omega,by omega,fun k hk => ?_⟩
 have hj:K8 x k=false:=by
  have:jxO x=none:=by
   cases e:jxO x with
   | none=>rfl
   | some i=>rw[e]at h7;simp[KY]at h7
  exact Hm this k (Nat.zero_le _) (by omega)
 have hs:i64.wrap ((x.scans.n:Int)-1)=(x.scans.n:Int)-1:=w64 (by omega) (by omega)
 simp only[K8,Zx,hs,Qf,Bool.or_eq_false_iff,Bool.not_eq_false',qbA,qdE]at hj;exact⟨⟨by omega,by omega⟩,by omega,by omega⟩
theorem QTg(hx:Ko x):K0 (opJ x) (fun k=>k≤x.hang.n) (fun k=>x.hang.n-k) (opR x) 8 QNM [] (mkF Try.prog V2) (fun _=>hnd (mkF Try.prog V2) 0) (QW Try.f49 0):=by
 refine⟨fun k g hk=>Qt (QT8 x k g) ?_⟩;have h12:=hx.n;refine QI (fun h => ?_) (fun h => ?_)
 ·have h:k<x.hang.n:=by have:=qdt h;omega
  obtain⟨m,hm⟩:∃ m,x.hang.n-k=m+1:=⟨x.hang.n-k-1,by omega⟩
  have hm':x.hang.n-(k+1)=m:=by omega
  have hw:i64.wrap ((k:Int)+1)=((k+1:Nat):Int):=(w64 (by omega) (by omega)).trans (by omega)
  obtain⟨⟨b1,b2⟩,b3,b4⟩:=hx.j k h
  have go:YZ x k=false→∀ e J,opR x (k+1) e J→opR x k e J:=fun q e J h=>by
   have hf:QQ (YZ x) (x.hang.n-k) k=QQ (YZ x) (x.hang.n-(k+1)) (k+1):=by rw[hm,hm',QQ,q]
   unfold opR at h ⊢;rw[hf];exact h
  have stop:YZ x k=true→opR x k .ret Hg:=fun q => .inl ⟨rfl,by rw[hm,QQ,q];rfl,rfl⟩
  generalize hj:x.hang.get k=j at *;have na:decide (j.a.toNat<x.scans.n)=true:=by simp;omega
  have nb:decide (j.b.toNat<x.scans.n)=true:=by simp;omega
  refine QF (by simp;omega) (QF (by simp;omega) (QF (by simp;omega) (QF (by simp;omega) ?_)))
  refine QI (fun i0 => ?_) (fun i0=>QI (fun i1 => ?_) (fun i1=>QI (fun i2 => ?_) (fun i2 => ?_)))
  all_goals
   refine QF na (QF (by simp;omega) (QF (by simp;omega) ?_))
   refine QI (fun j0 => ?_) (fun j0=>QI (fun j1 => ?_) (fun j1=>QI (fun j2 => ?_) (fun j2 => ?_)))
   all_goals
    refine QF nb (QF rfl (QI (fun q => ?_) (fun q => ?_)))
    ·refine⟨_,stop ?_,rfl,rfl,_,QZE,⟨rfl,trivial⟩⟩;simp only[YZ,hj,QCK, *]
    ·refine⟨k+1,by show k+1≤x.hang.n;omega,by show x.hang.n-(k+1)<x.hang.n-k;omega,go ?_,rfl,rfl,_,QVr x k (k+1),?_⟩
     ·simp only[YZ,hj,QCK, *]
     ·repeat' first|exact trivial|with_reducible rfl|exact qlr _|exact qRr|exact hw|refine And.intro ?_ ?_
 ·have h:x.hang.n≤k:=by have:=of_decide_eq_false h;omega
  have hf:QQ (YZ x) (x.hang.n-k) k=none:=by rw[show x.hang.n-k=0 by omega];rfl
  refine⟨_,.inr ⟨rfl,by rw[hf];rfl,rfl⟩,rfl,rfl,_,QVw x,?_⟩
  repeat' first|exact trivial|with_reducible rfl|exact qlr _|exact qRr|refine And.intro ?_ ?_
def opE(e:Int):UC:=⟨8,⟨1,[(0,.agg (JJ 0 x))],JY 0 x,8⟩,fun _ => .tup [.nilp,.int false .i64 e],fun _=>[]⟩
def opO:UC:=⟨8,⟨1,[(0,.agg (JJ 0 x))],JY 0 x,8⟩,fun m => .tup [.ptr m 0 0,.int true .i64 0],fun m=>srO m (m+1) x C⟩
def opX:List (Prop×Ex×JSt):=[(JE x=true,.ret,Hg),(JE x=false,.exit 0,QDv x)]
def W0(pb:List Prop→Bool)(x:QE)(C:List (List QB)):Tab:=Qd Qj 75 (Jd pb (nsU x C))
abbrev opH(P:Program)(T:Tab)(x:QE):Hnd:={ hnd (mkE P T) 1 with loop:=fun _=>Q7 8 [] (opJ x (0:Nat)) (opX x) }
abbrev QHT:List CK:=
  [.int .i64,.int .i64,.int .i64,.int .i64,.int .i64,.int .i64,.int .i64,.int .i64,.int .i64,.int .i64,.int .i64,.int .i64,.int .i64,.int .i64,.int .i64,.int .i64,.int
  .i64,.int .i64,.int .i64,.int .i64,.int .i64,.int .i64,.int .i64,.int .i64,.int .i64,.int .i64,.int .i64,.int .i64]
noncomputable abbrev QOo(x:QE):List (Nat×Blk):=
  [(48,.cells 0 125 [vi x.d.play.length,vi x.d.play.slack,vi x.d.play.loose,vi x.d.play.damp.lo,.int false .i64
  x.d.play.damp.hi,vi x.d.wide,vi x.d.high,.bool false x.d.turn,.slz 0 0 x.d.ps.n cO,.slz 1 0 x.scans.n cO,.slz 2 0 x.hang.n (Cap.of
  0),vi x.lost,vi x.foreign,.slz 49 0 C.length cO]),(0,.frz QHT x.d.ps.n fun i=>QA.enc (x.d.ps.get i)),(1,.frz QHT x.scans.n fun i=>
  QA.enc (x.scans.get i)),(2,.frz [.int .i64,.int .i64,.int .i64,.int .i64] x.hang.n fun i=>QA.enc (x.hang.get i)),(49,.frz2 true 38 [.int .i64,.int .i64] C.length (fun
  i=>(QH C i).length) fun i j=>QA.enc ((QH C i).getD j ⟨0,0⟩))]
theorem QOL(pb:List Prop→Bool)(x:QE)(C:List (List QB)):Jy (mkE Try.prog (W0 pb x C)) (opH Try.prog (W0 pb x C) x) Try.f49 (opO x C) = .need (decide (x.d.ps.n≤x.d.ps.n)&&(decide (x.scans.n≤x.scans.n)&&(decide (x.hang.n
  ≤ x.hang.n)&&true))&&decide (x.d.ps.n≤1000∧x.scans.n≤1000∧x.hang.n≤1000)) (.br (!x.ok) (.leaf (.tup [.nilp,vj 1]) ([])) (.ask (0=0) (.ask (0=0) (.ask
  (0=0) (.ask (x.hang.n=x.hang.n) (.ask (cO=cO) (.ask ((x.hang.n:Int)=(x.hang.n:Int)) (.ask ((0:Int)=0) (.ask (x.d.play.length=x.d.play.length) (.ask
  (x.d.play.slack=x.d.play.slack) (.ask (x.d.play.loose=x.d.play.loose) (.ask (x.d.play.damp.lo=x.d.play.damp.lo) (.ask (x.d.play.damp.hi=x.d.play.damp.hi) (.ask (x.d.wide =
  x.d.wide) (.ask (x.d.high=x.d.high) (.ask (x.d.turn=x.d.turn) (.ask (0=0) (.ask (x.d.ps.n=x.d.ps.n) (.ask (cO=cO) (.ask (0=0) (.ask (x.scans.n=x.scans.n)
  (.ask (cO=cO) (.ask (0=0) (.ask (x.hang.n=x.hang.n) (.ask (cO=cO) (.ask (x.lost=x.lost) (.ask (x.foreign=x.foreign) (.ask (x.d.ps.n≤x.d.ps.n)
  (.ask (QC 28 x.d.ps.n (fun i=>QA.enc (x.d.ps.get i)) fun i=>QA.enc (x.d.ps.get i)) (.ask (x.scans.n≤x.scans.n) (.ask (QC 28 x.scans.n (fun i=>QA.enc
  (x.scans.get i)) fun i=>QA.enc (x.scans.get i)) (.ask (x.hang.n≤x.hang.n) (.ask (QC 4 x.hang.n (fun i=>QA.enc (x.hang.get i)) fun i=>QA.enc (x.hang.get i)) (.both
  (.asm (JE x=true) (.all (fun(g0:Nat→Value) => .leaf (.tup [.nilp,vi 11]) ([])))) (.asm (JE x=false) (.all (fun(g1:Nat→Value) => .need (pb
  ([x.d.play.length=x.d.play.length,x.d.play.slack=x.d.play.slack,x.d.play.loose=x.d.play.loose,x.d.play.damp.lo=x.d.play.damp.lo,x.d.play.damp.hi=x.d.play.damp.hi,
  x.d.wide=x.d.wide,x.d.high=x.d.high,x.d.turn=x.d.turn,0=0,x.d.ps.n=x.d.ps.n,cO=cO,0=0,x.scans.n=x.scans.n,cO=cO,0=0,x.hang.n =
  x.hang.n,cO=cO,x.lost=x.lost,x.foreign=x.foreign,x.d.ps.n≤x.d.ps.n,QC 28 x.d.ps.n (fun i=>QA.enc (x.d.ps.get i)) fun i=>QA.enc (x.d.ps.get i),
  x.scans.n≤x.scans.n,QC 28 x.scans.n (fun i=>QA.enc (x.scans.get i)) fun i=>QA.enc (x.scans.get i),x.hang.n≤x.hang.n,QC 4 x.hang.n (fun i=>QA.enc
  (x.hang.get i)) fun i=>QA.enc (x.hang.get i)])) (.leaf (.tup [.ptr 48 0 0,vj 0]) ((QOo C x)))))))))))))))))))))))))))))))))))))))):=by kernel_rfl
abbrev opN(P : Program): Hnd := { hnd (mkE P Qj) 1 with loop := fun _ _ _ => .fail "a loop" }
theorem QVD:Jy (mkE Try.prog Qj) (opN Try.prog) Try.f49 (opE x 1) =
  QD.need (decide (x.d.ps.n ≤ x.d.ps.n) && (decide (x.scans.n ≤ x.scans.n) && (decide (x.hang.n ≤ x.hang.n) && true)) && decide (x.d.ps.n ≤ (1000 : Nat) ∧ x.scans.n ≤ (1000 : Nat) ∧ x.hang.n ≤ (1000 : Nat))) (QD.br (!x.ok) (QD.leaf (AV.tup [AV.nilp, AV.int true i64 (1 : Int)]) ([])) (QD.fail ("a loop"))) := by kernel_rfl
theorem QTl(e:Int):QL 8 [(AV.tup [AV.nilp,AV.int true i64 (1:Int)])] ([]) (Kd (opE x e))=(
  some [(1:Int)=e]):=by kernel_rfl
theorem QSm(e:Int):QL 8 [(AV.tup [AV.nilp,AV.int false i64 (11:Int)])] ([]) (Kd (opE x e))=(
  some [(11:Int)=e]):=by kernel_rfl
theorem QXB :QL 8 [(.tup [.ptr 48 0 0,vj 0])] ((QOo C x)) (Kd (opO x C))=(some [0=0,0=0,(0:Int)=0,x.d.play.length=x.d.play.length,x.d.play.slack =
  x.d.play.slack,x.d.play.loose=x.d.play.loose,x.d.play.damp.lo=x.d.play.damp.lo,x.d.play.damp.hi=x.d.play.damp.hi,x.d.wide=x.d.wide,x.d.high=x.d.high,x.d.turn =
  x.d.turn,0=0,x.d.ps.n=x.d.ps.n,cO=cO,0=0,x.scans.n=x.scans.n,cO=cO,0=0,x.hang.n=x.hang.n,cO=cO,x.lost=x.lost,
  x.foreign=x.foreign,0=0,C.length=C.length,cO=cO,C.length=C.length,KM 2 C.length (fun i=>(QH C i).length) (fun i=>(QH C i).length) (fun i j=>
  QA.enc ((QH C i).getD j ⟨0,0⟩)) fun i j=>QA.enc ((QH C i).getD j ⟨0,0⟩)]):=by kernel_rfl
theorem QKV(e:Int):(opE x e).Ok:=by
 refine⟨(by decide:8≤8),rfl,rfl,?_,rfl,fun nid h=>rfl,fun nid h=>rfl⟩
 intro q hq;simp only[UC.po,opE,List.not_mem_nil]at hq
theorem QTJ:(opO x C).Ok:=by
 refine⟨(by decide:8≤8),rfl,rfl,?_,rfl,fun nid h => ?_,fun nid h => ?_⟩
 ·intro q hq;simp only[UC.po,opO,srO,Ye,List.mem_cons,List.not_mem_nil,or_false]at hq;rcases hq with rfl|rfl
  ·exact⟨rfl,rfl,rfl,fun h=>absurd (show 8<8 from h) (by decide)⟩
  ·exact⟨rfl,rfl,rfl,fun h=>absurd (show 9<8 from h) (by decide)⟩
 ·have e0:=jK 0 nid;simp only[UC.va,opO,AV.mapId,AV.mapIdL,Nat.add_zero]at e0 ⊢;rw[e0]
 ·have e0:=jK 0 nid;have e1:=jK 1 nid;have l0:=jh (i:=0) (by decide) nid
  have l1:=jh (i:=1) (by decide) nid
  have l2:=jh (i:=2) (by decide) nid
  simp only[UC.po,opO,srO,Ye,JJ,Qw.val,List.cons_append,List.nil_append,List.map_cons,List.map_nil,Blk.mapId,AV.mapId,AV.mapIdL,Nat.add_zero,Nat.zero_add]at e0 e1 l0 l1 l2 ⊢;rw[e0,e1,l0,l1,l2]
structure Xb (x:QE):Prop where
 d:x.d.ps.n≤1000
 s:x.scans.n≤1000
 h:x.hang.n≤1000
theorem QFW{x:QE}(hx:Ko x):QZ (W0 QY x (Qk x x.scans.n)):=by
 have:=hx.d.n9;have:=hx.s;exact Qv.add (QWm x (by omega) (by omega))
theorem QI3{x:QE}(hx:Ko x)(G:Ctx)(hrd:G.rd=none)(hG:G.n=8):Q1 (mkE Try.prog (W0 QY x (Qk x x.scans.n))) G (opH Try.prog (W0 QY x (Qk x x.scans.n)) x) (Qo Try.f49):=by
 have hE:=QP (QFW hx);refine JF (body:=QW Try.f49 0) hE hrd (by kernel_rfl) ?_
 refine X0 (E:=mkF Try.prog V2) rfl (JG (n0:=8) (jM vG) (by omega) (fun s hs=>Qq (jM vG) 0 G _ hrd) (fun s hs=>(by decide:8≤40)) ?_ (QTg x hx) (s0:=0) (Nat.zero_le _) ?_)
 ·rintro s e J (⟨_,_,rfl⟩|⟨_,_,rfl⟩)<;>exact(by decide:8≤40)
 ·rintro e J (⟨rfl,h,rfl⟩|⟨rfl,h,rfl⟩)
  ·exact⟨_,List.mem_cons_self,h,rfl,rfl⟩
  ·exact⟨_,List.mem_cons_of_mem _ List.mem_cons_self,h,rfl,rfl⟩
theorem QPp(G:Ctx)(hrd:G.rd=none):Q1 (mkE Try.prog Qj) G (opN Try.prog) (Qo Try.f49):=
 JF (body:=QW Try.f49 0) (QP Qv) hrd (by kernel_rfl) (fun _ _ _ _ _ _ _ h _ _=>h.elim)
theorem QAE(hs:Xb x)(hx:x.ok=false):QO Try.prog 49 (uFC (opE x 1)):=by
 refine JW (E:=mkE Try.prog Qj) (QP Qv) Try.func49 (by kernel_rfl) (by kernel_rfl) (QKV ..) (fun G h1 _=>QPp G h1) ⟨?_⟩
 refine Qt (QVD x) ?_;refine QF (by simp;exact⟨hs.d,hs.s,hs.h⟩) (QI (fun h => ?_) (fun h => ?_))
 ·exact⟨rfl,rfl,_,QTl x 1,⟨rfl,trivial⟩⟩
 ·rw[hx]at h;cases h
theorem HR(hs:Xb x)(hx:x.ok=true)(hr:JE x=true):QO Try.prog 49 (uFC (opE x 11)):=by
 refine JW (E:=mkE Try.prog (W0 QY x (Qk x x.scans.n))) (QP (QFW (Xc hx))) Try.func49 (by kernel_rfl) (by kernel_rfl) (QKV ..) (QI3 (Xc hx)) ⟨?_⟩
 generalize Qk x x.scans.n=C;refine Qt (QOL QY x C) ?_;refine QF (by simp;exact⟨hs.d,hs.s,hs.h⟩) (QI (fun h=>by rw[hx]at h;cases h) (fun h => ?_))
 repeat' first|refine QR (p:=_=_) rfl ?_|refine QR (p:=_≤_) (qlr _) ?_|refine QR (p:=QC _ _ _ _) (qRr) ?_
 refine Xf (KA fun _=>Q6 fun g => ?_) (KA fun h3=>by rw[hr]at h3;cases h3)
 exact⟨rfl,rfl,_,QSm x 11,⟨rfl,trivial⟩⟩
theorem qO(hs:Xb x)(hx:x.ok=true)(hr:JE x=false):QO Try.prog 49 (uFC (opO x (Qk x x.scans.n))):=by
 refine JW (E:=mkE Try.prog (W0 QY x (Qk x x.scans.n))) (QP (QFW (Xc hx))) Try.func49 (by kernel_rfl) (by kernel_rfl) (QTJ ..) (QI3 (Xc hx)) ⟨?_⟩
 generalize Qk x x.scans.n=C;refine Qt (QOL QY x C) ?_;refine QF (by simp;exact⟨hs.d,hs.s,hs.h⟩) (QI (fun h=>by rw[hx]at h;cases h) (fun h => ?_))
 repeat' first|refine QR (p:=_=_) rfl ?_|refine QR (p:=_≤_) (qlr _) ?_|refine QR (p:=QC _ _ _ _) (qRr) ?_
 refine Xf (KA fun h3=>by rw[hr]at h3;cases h3) (KA fun _=>Q6 fun g => ?_)
 refine QF (KL.2 ?_) ⟨rfl,rfl,_,QXB x C,?_⟩
 ·repeat' first|exact trivial|with_reducible rfl|exact qlr _|exact qRr|exact QU _ _ _ _|refine And.intro ?_ ?_
 ·repeat' first|exact trivial|with_reducible rfl|exact qlr _|exact qRr|exact QU _ _ _ _|refine And.intro ?_ ?_
def mmB(sure may all:Int):List (Nat×Blk):=[(200,.frz [.int .i64,.int .i64] l.length fun i=>QA.enc (l.getD i ⟨0,0⟩)),(16,.cells 0 3 [.int false .i64 sure]),(24,.cells 0 3 [.int false .i64 may]),(160,.cellsR 0 3 [.int false .i64 all])]
def mmJ(n sure may all has:Int)(k:Nat):JSt:=⟨34,[(0,.int false .i64 n),(2,.ptr 16 0 0),(3,.ptr 24 0 0),(4,.ptr 160 0 0),(8,.ptr 216 0 0),(11,.slz 200 0 l.length (.of 0)),(12,.int false .i64 l.length),(13,.int false .i64 k)],[(216,.cells 0 92 [.int false .i64 has])]++mmB l sure may all,248⟩
def mmE(n sure may all has:Int):JSt:=⟨34,[(0,.int false .i64 n),(2,.ptr 16 0 0),(3,.ptr 24 0 0),(4,.ptr 160 0 0),(8,.ptr 216 0 0)],[(216,.cells 0 92 [.int false .i64 has]),(16,.cells 0 3 [.int false .i64 sure]),(24,.cells 0 3 [.int false .i64 may]),(160,.cellsR 0 3 [.int false .i64 all])],248⟩
def QOY:Ex→List Nat
 | .normal=>[0,2,3,4,8,11,12,13]
 | .exit _=>[0,2,3,4,8]
 | .ret=>[]
noncomputable abbrev QL9(l:List QB)(n:Int):List AV:=
  [.nilp,.ptr 34 0 0,vi n,.ptr 16 0 0,.ptr 24 0 0,.ptr 160 0 0,.ptr 216 0 0,.slz 200 0 l.length cO,vi (l.length:Int),.int false .i64
  (i64.wrap ((k:Int)+1))]
noncomputable abbrev QKK(l:List QB)(may:Int)(sure:Int):List (Nat×Blk):=
  [(16,.cells 0 3 [vi sure]),(24,.cells 0 3 [vi may]),(160,.cellsR 0 3 [vi all]),(216,.cells 0 92 [vi (i64.wrap
  (↑(BitVec.ofInt 64 has ||| BitVec.ofInt 64 (i64.wrap ((1:Int)*2^min (l.getD k ⟨0,0⟩).cell.toNat 64))).toNat:Int))]),(200,.frz [.int .i64,.int .i64] l.length fun
  i=>QA.enc (l.getD i ⟨0,0⟩))]
theorem QPj(n sure may all has:Int)(k:Nat)(g:Nat→Value):exec (mkE Try.prog Qj) (hnd (mkE Try.prog Qj) 3) (QW Try.f54 0) (JSt.inst (mmJ l n sure may all has k) g) (KF [16,24] QOY) = .br (decide ((k:Int)<(l.length :
  Int))) (.need (decide ((0:Int)≤(k:Int)∧(k:Int)<(l.length:Int))&&decide (l.length≤l.length)) (.need (decide (k<l.length)) (.br ((l.getD k ⟨0,0⟩).cell != -2)
  (.need (decide ((0:Int)≤(l.getD k ⟨0,0⟩).cell)) (.leaf (.tup (QL9 k l n)) ((QKK all has k l may sure)))) (.leaf (.tup (QL9 k l n)) ([(16,.cells 0 3 [vi sure]),
  (24,.cells 0 3 [vi may]),(160,.cellsR 0 3 [vi all]),(216,.cells 0 92 [vi has]),(200,.frz [.int .i64,.int .i64] l.length fun i=>
  QA.enc (l.getD i ⟨0,0⟩))]))))) (.leaf (.tup [.ptr 0 0 0,.ptr 34 0 0,vi n,.ptr 16 0 0,.ptr 24 0 0,.ptr 160 0 0,.ptr 216 0 0]) ([(16,.cells 0 3 [.int false .i64
  sure]),(24,.cells 0 3 [vi may]),(160,.cellsR 0 3 [vi all]),(216,.cells 0 92 [vi has])])):=by kernel_rfl
abbrev QZJ:List Prop:=
  [0=0,0=0,0=0,0=0,0=0]
theorem QZo(n sure may all has has':Int)(k k':Nat):QL 208 [vi n,.ptr 16 0 0,.ptr 24 0 0,.ptr 160 0 0,.ptr 216 0 0,.slz 200 0 l.length cO,vi (l.length:Int),.int false .i64
  (i64.wrap ((k:Int)+1))] ((QKK all has k l may sure)) (mmJ l n sure may all has' k')=(some ([n=n]++QZJ++[0=0,0=0,0=0,0=0,l.length=l.length,
  cO=cO,(l.length:Int)=(l.length:Int),i64.wrap ((k:Int)+1)=(k':Int),i64.wrap (↑(BitVec.ofInt 64 has ||| BitVec.ofInt 64
  (i64.wrap ((1:Int)*2^min (l.getD k ⟨0,0⟩).cell.toNat 64))).toNat:Int)=has',l.length≤l.length,QC 2 l.length (fun i=>QA.enc (l.getD i ⟨0,0⟩)) fun i=>
  QA.enc (l.getD i ⟨0,0⟩),sure=sure,may=may,all=all])):=by kernel_rfl
theorem QWG(n sure may all has has':Int)(k k':Nat):QL 208 [AV.int false i64 n,AV.ptr (16:Nat) (0:Nat) (0:Nat),AV.ptr (24:Nat) (0:Nat) (0:Nat),AV.ptr (160:Nat) (0:Nat) (0:Nat),AV.ptr (216:Nat) (0:Nat) (0:Nat),AV.slz (200:Nat) (0:Nat) l.length (Cap.of (0:Nat)),AV.int false i64 (↑l.length:Int),AV.int false i64 (i64.wrap ((↑k:Int)+(1:Int)))] ([((16:Nat),Blk.cells (0:Nat) (3:Nat) [AV.int false i64 sure]),((24:Nat),Blk.cells (0:Nat) (3:Nat) [AV.int false i64 may]),((160:Nat),Blk.cellsR (0:Nat) (3:Nat) [AV.int false i64 all]),((216:Nat),Blk.cells (0:Nat) (92:Nat) [AV.int false i64 has]),((200:Nat),Blk.frz [CK.int i64,CK.int i64] l.length fun i=>QA.enc (l.getD i (QB.mk (0:Int) (0:Int))))]) (mmJ l n sure may all has' k')=(
  some [n=n,(0:Nat)=(0:Nat),(0:Nat)=(0:Nat),(0:Nat)=(0:Nat),(0:Nat)=(0:Nat),(0:Nat)=(0:Nat),(0:Nat)=(0:Nat),(0:Nat)=(0:Nat),(0 :
  Nat)=(0:Nat),(0:Nat)=(0:Nat),l.length=l.length,Cap.of (0:Nat)=Cap.of (0:Nat),(↑l.length:Int)=(↑l.length:Int),i64.wrap ((↑k:Int)+(1:Int)) =
  (↑k':Int),has=has',l.length≤l.length,QC (2:Nat) l.length (fun i=>QA.enc (l.getD i (QB.mk (0:Int) (0:Int)))) fun i=>QA.enc (l.getD i (QB.mk (0:Int)
  (0:Int))),sure=sure,may=may,all=all]):=by kernel_rfl
theorem QZl(n sure may all has has':Int):QL 208 [AV.int false i64 n,AV.ptr (16:Nat) (0:Nat) (0:Nat),AV.ptr (24:Nat) (0:Nat) (0:Nat),AV.ptr (160:Nat) (0:Nat) (0:Nat),AV.ptr (216:Nat) (0:Nat) (0:Nat)] ([((16:Nat),Blk.cells (0:Nat) (3:Nat) [AV.int false i64 sure]),((24:Nat),Blk.cells (0:Nat) (3:Nat) [AV.int false i64 may]),((160:Nat),Blk.cellsR (0:Nat) (3:Nat) [AV.int false i64 all]),((216:Nat),Blk.cells (0:Nat) (92:Nat) [AV.int false i64 has])]) (mmE n sure may all has')=(
  some [n=n,(0:Nat)=(0:Nat),(0:Nat)=(0:Nat),(0:Nat)=(0:Nat),(0:Nat)=(0:Nat),(0:Nat)=(0:Nat),(0:Nat)=(0:Nat),(0:Nat)=(0:Nat),(0 :
  Nat)=(0:Nat),has=has',sure=sure,may=may,all=all]):=by kernel_rfl
def VW(s c:Int):Int:=i64.wrap ((BitVec.ofInt 64 s ||| BitVec.ofInt 64 (i64.wrap (1*2^min c.toNat 64))).toNat:Nat)
def QDk(s:Int)(x:QB):Int:=match x.cell != -2 with
 | true=>VW s x.cell
 | false=>s
def Kw(l:List QB):Nat→Int
 | 0=>0
 | k+1=>QDk (Kw l k) (l.getD k ⟨0,0⟩)
structure W4 (l:List QB):Prop where
 le:l.length≤1000
 s:∀ i,i<l.length→(l.getD i ⟨0,0⟩).cell = -2∨0≤(l.getD i ⟨0,0⟩).cell
theorem QSM(n sure may all:Int)(hl:W4 l):K0 (fun k=>mmJ l n sure may all (Kw l k) k) (fun k=>k≤l.length) (fun k=>l.length-k) (fun _ e J=>e = .exit 0∧J=mmE n sure may all (Kw l l.length)) 208 QOY [16,24] (mkE Try.prog Qj) (fun _=>hnd (mkE Try.prog Qj) 3) (QW Try.f54 0):=by
 refine⟨fun k g hk=>Qt (QPj l n sure may all (Kw l k) k g) ?_⟩;have hle:=hl.le;refine QI (fun h => ?_) (fun h => ?_)
 ·have h:k<l.length:=by have:=qdt h;omega
  have hw:i64.wrap ((k:Int)+1)=((k+1:Nat):Int):=(w64 (by omega) (by omega)).trans (by omega)
  have hs:=hl.s k h;refine QF (by simp;omega) (QF (by simp;omega) (QI (fun hc=>QF ?_ ?_) (fun hc => ?_)))
  ·have:¬ (l.getD k ⟨0,0⟩).cell = -2:=by simpa using hc
   exact decide_eq_true (by omega)
  ·refine⟨k+1,h,by show l.length-(k+1)<l.length-k;omega,fun _ _ h=>h,rfl,rfl,_,QZo l n sure may all (Kw l k) (Kw l (k+1)) k (k+1),?_⟩
   have e:VW (Kw l k) (l.getD k ⟨0,0⟩).cell=Kw l (k+1):=by simp only[Kw,QDk,hc]
   repeat' first|exact trivial|with_reducible rfl|exact qlr _|exact qRr|exact hw|exact e|refine And.intro ?_ ?_
  ·refine⟨k+1,h,by show l.length-(k+1)<l.length-k;omega,fun _ _ h=>h,rfl,rfl,_,QWG l n sure may all (Kw l k) (Kw l (k+1)) k (k+1),?_⟩
   have e:Kw l k=Kw l (k+1):=by simp only[Kw,QDk,hc]
   repeat' first|exact trivial|with_reducible rfl|exact qlr _|exact qRr|exact hw|exact e|refine And.intro ?_ ?_
 ·have:k=l.length:=by have:=of_decide_eq_false h;omega
  subst this;refine⟨_,⟨rfl,rfl⟩,rfl,rfl,_,QZl n sure may all _ _,?_⟩
  repeat' first|exact trivial|with_reducible rfl|exact qlr _|refine And.intro ?_ ?_
abbrev mmH(P:Program)(l:List QB)(n sure may all has:Int):Hnd:={ hnd (mkE P Qj) 1 with loop:=fun _=>Q7 208 [16,24] (mmJ l n sure may all 0 (0:Nat)) [(True,.exit 0,mmE n sure may all has)] }
theorem QPL(n sure may all:Int)(hl:W4 l)(G:Ctx)(hrd:G.rd=none)(hG:G.n=208):Q1 (mkE Try.prog Qj) G (mmH Try.prog l n sure may all (Kw l l.length)) (Qo Try.f54):=by
 refine JF (body:=QW Try.f54 0) (QP Qv) hrd (by kernel_rfl) ?_
 refine JG (n0:=208) (QP Qv) (by omega) (fun s hs=>Qq (QP Qv) 3 G _ hrd) (fun s hs=>(by decide:208≤248)) ?_ (QSM l n sure may all hl) (s0:=0) (Nat.zero_le _) ?_
 ·rintro s e J ⟨_,rfl⟩;exact(by decide:208≤248)
 ·rintro e J ⟨rfl,rfl⟩;exact⟨_,List.mem_cons_self,trivial,rfl,rfl⟩
def Vr(a b:Int):Int:=i64.wrap ((BitVec.ofInt 64 a &&& ~~~BitVec.ofInt 64 b).toNat:Nat)
def orN(a b:Int):Int:=i64.wrap ((BitVec.ofInt 64 a ||| BitVec.ofInt 64 b).toNat:Nat)
def mmU(n sure may all has:Int):UC:=⟨32,⟨5,[(0,.int false .i64 n),(1,.slz 200 0 l.length (.of 0)),(2,.ptr 16 0 0),(3,.ptr 24 0 0),(4,.ptr 160 0 0)],mmB l sure may all,208⟩,fun _ => .int false .i64 n,fun _=>[(16,.cells 0 3 [.int false .i64 (Vr sure has)]),(24,.cells 0 3 [.int false .i64 (orN may (Vr all has))])]⟩
theorem QZp(n sure may all has:Int):Jy (mkE Try.prog Qj) (mmH Try.prog l n sure may all has) Try.f54 (mmU l n sure may all has) =
  QD.ask (n=n) (QD.ask ((0:Nat)=(0:Nat)) (QD.ask ((0:Nat)=(0:Nat)) (QD.ask ((0:Nat)=(0:Nat)) (QD.ask ((0:Nat)=(0:Nat)) (QD.ask ((0:Nat)=(0 :
  Nat)) (QD.ask ((0:Nat)=(0:Nat)) (QD.ask ((0:Nat)=(0:Nat)) (QD.ask ((0:Nat)=(0:Nat)) (QD.ask ((0:Nat)=(0:Nat)) (QD.ask (l.length=l.length)
  (QD.ask (Cap.of (0:Nat)=Cap.of (0:Nat)) (QD.ask ((↑l.length:Int)=(↑l.length:Int)) (QD.ask ((0:Int)=(0:Int)) (QD.ask ((0:Int)=(0:Int)) (QD.ask
  (l.length≤l.length) (QD.ask (QC (2:Nat) l.length (fun i=>QA.enc (l.getD i (QB.mk (0:Int) (0:Int)))) fun i=>QA.enc (l.getD i (QB.mk (0:Int) (0:Int))))
  (QD.ask (sure=sure) (QD.ask (may=may) (QD.ask (all=all) (QD.asm (True) (QD.all (fun(g0:Nat→Value)=>QD.leaf (AV.int false i64 n) ([((16:Nat),
  Blk.cells (0:Nat) (3:Nat) [AV.int false i64 (i64.wrap (↑(BitVec.ofInt (64:Nat) sure &&& ~~~BitVec.ofInt (64:Nat) has).toNat:Int))]),((24:Nat),Blk.cells
  (0:Nat) (3:Nat) [AV.int false i64 (i64.wrap (↑(BitVec.ofInt (64:Nat) may ||| BitVec.ofInt (64:Nat) (i64.wrap (↑(BitVec.ofInt (64:Nat) all &&&
  ~~~BitVec.ofInt (64:Nat) has).toNat:Int))).toNat:Int))])]))))))))))))))))))))))):=by kernel_rfl
theorem QT0(n sure may all has:Int):QL 208 [(AV.int false i64 n)] ([((16:Nat),Blk.cells (0:Nat) (3:Nat) [AV.int false i64 (i64.wrap (↑(BitVec.ofInt (64:Nat) sure &&& ~~~BitVec.ofInt (64:Nat) has).toNat:Int))]),((24:Nat),Blk.cells (0:Nat) (3:Nat) [AV.int false i64 (i64.wrap (↑(BitVec.ofInt (64:Nat) may ||| BitVec.ofInt (64:Nat) (i64.wrap (↑(BitVec.ofInt (64:Nat) all &&& ~~~BitVec.ofInt (64:Nat) has).toNat:Int))).toNat:Int))])]) (Kd (mmU l n sure may all has))=(
  some [n=n,i64.wrap (↑(BitVec.ofInt (64:Nat) sure &&& ~~~BitVec.ofInt (64:Nat) has).toNat:Int)=Vr sure has,i64.wrap (↑(BitVec.ofInt (64:Nat) may |||
  BitVec.ofInt (64:Nat) (i64.wrap (↑(BitVec.ofInt (64:Nat) all &&& ~~~BitVec.ofInt (64:Nat) has).toNat:Int))).toNat:Int)=orN may (Vr all has)]):=by kernel_rfl
theorem QUE(n sure may all:Int)(hl:W4 l):QO Try.prog 54 (uFC (mmU l n sure may all (Kw l l.length))):=by
 refine JW (E:=mkE Try.prog Qj) (QP Qv) Try.func54 (by kernel_rfl) (by kernel_rfl) ?_ (QPL l n sure may all hl) ⟨?_⟩
 ·refine⟨(by decide:32≤208),rfl,rfl,?_,rfl,fun _ _=>rfl,fun _ _=>rfl⟩
  intro q hq;simp only[UC.po,mmU,List.mem_cons,List.not_mem_nil,or_false]at hq;rcases hq with rfl|rfl<;>exact⟨rfl,rfl,rfl,fun _=>rfl⟩
 refine Qt (QZp l n sure may all (Kw l l.length)) ?_
 repeat' first|refine QF rfl ?_|refine QR (p:=_=_) rfl ?_|refine QR (p:=_≤_) (qlr _) ?_|refine QR (p:=QC _ _ _ _) (qRr) ?_
 refine KA fun _=>Q6 fun g=>⟨rfl,rfl,_,QT0 l n sure may all _,?_⟩
 repeat' first|exact trivial|with_reducible rfl|exact qlr _|exact qRr|exact(show _=Vr _ _ from rfl)|exact(show _=orN _ _ from rfl)|refine And.intro ?_ ?_
inductive Res (σ:Type) where
 | go (s:σ) (has:Int→Bool)
 | stop (s:σ) (has:Int→Bool)
def QG(c:Int):Int:=(l.countP fun s=>s.cell==c:Nat)
def JV{σ:Type}(f:σ→(Int→Bool)→QB→Res σ):List QB→σ→(Int→Bool)→Res σ
 | [],s,h => .go s h
 | c::l,s,h=>match f s h c with
  | .go s h=>JV f l s h
  | .stop s h => .stop s h
def Ks(c:QB):Bool:=decide (QG l c.cell≥(match c.cell == -2 with|true=>x.foreign|false=>1))
theorem Vi{x:QE}{l:List QB}:Ks x l c=decide (QG l c.cell≥cond (c.cell == -2) x.foreign 1):=by unfold Ks;cases c.cell == -2<;>rfl
theorem QN:∀{a b:List Prop},KD a→KD b→KD (a++b)
 | [],_,_,h=>h
 | _::_,_,h,g=>⟨h.1,QN h.2 g⟩
abbrev mkC(P:Program)(C:Tab):Env:=⟨P,C,qa P,false,fun _=>false,true,false,false⟩
theorem Zs{C:Tab}(hC:QZ C):(mkC Try.prog C).Sound:={ c:=hC,m:=vc Try.prog,mixed:=zB }
def YF:Bool:=decide ((x.d.ps.n:Int)-((l.length:Int)-QG l (-2))>x.lost)
def KQ(rec:σ→(Int→Bool)→QB→Res σ)(s:σ)(h:Int→Bool)(c:QB):Res σ:=match Ks x l c with
 | true => .go s h
 | false=>match KS x (l++[c])with
  | false => .go s (QV c.cell true (QV c.cell true h))
  | true=>match rec s (QV c.cell true h) c with
   | .go s h => .go s (QV c.cell true h)
   | .stop s h => .stop s (QV c.cell true h)
def Ja(Y:σ→List QB→σ×Bool)(l:List QB)(s:σ)(h:Int→Bool):Res σ:=match YF x l with
 | true => .go s h
 | false=>match Y s l with
  | (s,true) => .go s h
  | (s,false) => .stop s h
def onT{σ:Type}(x:QE)(C:List (List QB))(Y:σ→List QB→σ×Bool):Nat→List QB→σ→(Int→Bool)→Res σ
 | 0,l,s,h=>Ja x Y l s h
 | d+1,l,s,h=>JV (KQ x l fun s h c=>onT x C Y d (l++[c]) s h) (QH C l.length) s h
theorem vU(c:QB)(n:Int):QG (l++[c]) n=if c.cell=n then QG l n+1 else QG l n:=by
 unfold QG;rw[List.countP_append]
 by_cases h:c.cell=n
 ·rw[if_pos h];simp[h]
 ·rw[if_neg h];simp[h]
theorem QAn:0≤QG l n:=Int.natCast_nonneg _
theorem QCT:QG l n≤l.length:=by
 unfold QG;have:=List.countP_le_length (p:=fun s:QB=>s.cell==n) (l:=l);omega
abbrev Xh:Int→AV:=fun c => .int false .i64 (QG l c)
theorem Ki(z:Bool)(h:Int→Bool)(l:List QB):KE (.int z .i64 0) (.int true .i64 0) h h (Xh l) (Xh l):=⟨fun _=>rfl,rfl,fun _=>rfl,fun _=>⟨fun _=>rfl,rfl⟩⟩
theorem GO(z b:Bool){l:List QB}{n:Int}(hl:l.length≤1000)(hn:n=i64.wrap (QG l c.cell+1))(h:Int→Bool):KE (.int z .i64 0) (.int true .i64 0) h h (Q5 c.cell (.int b .i64 n) (Xh l)) (Xh (l++[c])):=by
 have h1:=QAn l c.cell;have h2:=QCT l c.cell;have hw:i64.wrap (QG l c.cell+1)=QG l c.cell+1:=w64 (by omega) (by omega)
 refine⟨fun _=>rfl,rfl,fun _=>rfl,fun k=>⟨fun r => ?_,rfl⟩⟩;simp only[Q5]
 by_cases e:k=c.cell
 ·subst e;have q:QG (l++[c]) c.cell=QG l c.cell+1:=by rw[vU,if_pos rfl]
  simp only[decide_true,hn,hw,Xh,q];rfl
 ·have q:QG (l++[c]) k=QG l k:=by rw[vU,if_neg (fun q=>e q.symm)]
  simp only[e,decide_false,Xh,q]
theorem Ge(z b:Bool){l:List QB}{n:Int}(hl:l.length≤1000)(hn:n=i64.wrap (QG (l++[c]) c.cell-1))(h:Int→Bool):KE (.int z .i64 0) (.int true .i64 0) h h (Q5 c.cell (.int b .i64 n) (Xh (l++[c]))) (Xh l):=by
 have h1:=QAn l c.cell;have h2:=QCT l c.cell
 have hw:i64.wrap (QG (l++[c]) c.cell-1)=QG l c.cell:=by
  rw[vU,if_pos rfl];exact(w64 (by omega) (by omega)).trans (by omega)
 refine⟨fun _=>rfl,rfl,fun _=>rfl,fun k=>⟨fun r => ?_,rfl⟩⟩;simp only[Q5]
 by_cases e:k=c.cell
 ·subst e;simp only[decide_true,hn,hw];rfl
 ·have q:QG (l++[c]) k=QG l k:=by rw[vU,if_neg (fun q=>e q.symm)]
  simp only[e,decide_false,Xh,q]
theorem zX(z b b':Bool){l:List QB}{m n:Int}(hl:l.length≤1000)(hm:n=i64.wrap (i64.wrap (QG l c.cell+1)-1))(h:Int→Bool):KE (.int z .i64 0) (.int true .i64 0) h h (Q5 c.cell (.int b .i64 n) (Q5 c.cell (.int b' .i64 m) (Xh l))) (Xh l):=by
 have h1:=QAn l c.cell;have h2:=QCT l c.cell;have hw:i64.wrap (QG l c.cell+1)=QG l c.cell+1:=w64 (by omega) (by omega)
 have hw2:i64.wrap (QG l c.cell+1-1)=QG l c.cell:=(w64 (by omega) (by omega)).trans (by omega)
 rw[hw,hw2]at hm;refine⟨fun _=>rfl,rfl,fun _=>rfl,fun k=>⟨fun r => ?_,rfl⟩⟩;simp only[Q5]
 by_cases e:k=c.cell
 ·subst e;simp only[decide_true,hm];rfl
 ·simp only[e,decide_false]
def rwL(id:Nat)(l:List QB):Nat×Blk:=(id,.rowz true 56 [.int .i64,.int .i64] l.length fun i=>QA.enc (l.getD i ⟨0,0⟩))
theorem Yw(c:QB)(n:Nat)(hn:n=l.length):QC 2 (l++[c]).length (Qa n (fun i=>QA.enc (l.getD i ⟨0,0⟩)) (QS [[.int false .i64 c.cell,.int false .i64 c.turn]] 0)) (fun i=>QA.enc ((l++[c]).getD i ⟨0,0⟩)):=by
 subst hn;intro i hi;have hi:i<l.length+1:=by simpa using hi
 show eqF 2 0 (Qa l.length (fun i=>QA.enc (l.getD i ⟨0,0⟩)) (QS [[.int false .i64 c.cell,.int false .i64 c.turn]] 0) i) (QA.enc ((l++[c]).getD i ⟨0,0⟩))
 by_cases h:i<l.length
 ·have e:(l++[c]).getD i ⟨0,0⟩=l.getD i ⟨0,0⟩:=by
   rw[List.getD_eq_getElem?_getD,List.getD_eq_getElem?_getD,List.getElem?_append_left h]
  have e2:Qa l.length (fun i=>QA.enc (l.getD i (⟨0,0⟩:QB))) (QS [[.int false .i64 c.cell,.int false .i64 c.turn]] 0) i=QA.enc (l.getD i ⟨0,0⟩):=by
   funext j;rw[X6,if_pos h]
  rw[e,e2];exact⟨rfl,rfl,trivial⟩
 ·have q:i=l.length:=by omega
  subst q;have e:(l++[c]).getD l.length ⟨0,0⟩=c:=by simp
  have e2:Qa l.length (fun i=>QA.enc (l.getD i (⟨0,0⟩:QB))) (QS [[.int false .i64 c.cell,.int false .i64 c.turn]] 0) l.length=QS [[.int false .i64 c.cell,.int false .i64 c.turn]] 0 0:=by
   funext j;rw[X6,if_neg h,Nat.sub_self]
  rw[e,e2];exact⟨rfl,rfl,trivial⟩
theorem Gs(c:QB):QC 2 l.length (fun i=>QA.enc ((l++[c]).getD i ⟨0,0⟩)) (fun i=>QA.enc (l.getD i ⟨0,0⟩)):=by
 intro i hi
 have e:(l++[c]).getD i ⟨0,0⟩=l.getD i ⟨0,0⟩:=by
  rw[List.getD_eq_getElem?_getD,List.getD_eq_getElem?_getD,List.getElem?_append_left hi]
 show eqF 2 0 (QA.enc ((l++[c]).getD i ⟨0,0⟩)) (QA.enc (l.getD i ⟨0,0⟩));rw[e];exact⟨rfl,rfl,trivial⟩
theorem Yg(c:QB):l.length+1=(l++[c]).length:=by simp
theorem Y7(c:QB):(l++[c]).length≤l.length+1:=by simp
theorem Gq(c:QB)(hl:l.length≤1000):(i64.wrap (((l++[c]).length:Int)-1)).toNat=l.length:=by
 rw[List.length_append,List.length_singleton,w64 (by omega) (by omega)];omega
theorem vZ(hl:l.length≤1000):(i64.wrap (((l.length+1:Nat):Int)-1)).toNat=l.length:=by
 rw[w64 (by omega) (by omega)];omega
theorem za(g:Nat→Nat→Int):QC 2 l.length (Qa l.length (fun i=>QA.enc (l.getD i (⟨0,0⟩:QB))) g) (fun i=>QA.enc (l.getD i ⟨0,0⟩)):=by
 intro i hi;show eqF 2 0 (Qa l.length (fun i=>QA.enc (l.getD i (⟨0,0⟩:QB))) g i) (QA.enc (l.getD i ⟨0,0⟩))
 have e2:Qa l.length (fun i=>QA.enc (l.getD i (⟨0,0⟩:QB))) g i=QA.enc (l.getD i ⟨0,0⟩):=by
  funext j;rw[X6,if_pos hi]
 rw[e2];exact⟨rfl,rfl,trivial⟩
theorem vw{f:σ→(Int→Bool)→QB→Res σ}{cs:List QB}{k:Nat}(h:cs.length≤k)(s:σ)(has:Int→Bool):JV f (cs.drop k) s has = .go s has:=by
 rw[List.drop_eq_nil_of_le h,JV]
theorem vq{f:σ→(Int→Bool)→QB→Res σ}{cs:List QB}{k:Nat}(h:k<cs.length)(s:σ)(has:Int→Bool):JV f (cs.drop k) s has=match f s has (cs.getD k ⟨0,0⟩)with
  | .go s h=>JV f (cs.drop (k+1)) s h
  | .stop s h => .stop s h:=by
 rw[List.drop_eq_getElem_cons h,JV,List.getD_eq_getElem?_getD,List.getElem?_eq_getElem h];rfl
theorem QKT{σ:Type}{f:σ→(Int→Bool)→QB→Res σ}(hf:∀ s h c,∃ s' h',f s h c = .go s' h'):∀(l:List QB) (s:σ) (h:Int→Bool),∃ s' h',JV f l s h = .go s' h'
 | [],s,h=>⟨s,h,rfl⟩
 | c::l,s,h=>by
  obtain⟨s',h',e⟩:=hf s h c;rw[JV,e];exact QKT hf l s' h'
theorem Yv{σ:Type}{x:QE}{C:List (List QB)}{Y:σ→List QB→σ×Bool}(hY:∀ s l,(Y s l).2=true):∀(d:Nat) (l:List QB) (s:σ) (h:Int→Bool),∃ s' h',onT x C Y d l s h = .go s' h'
 | 0,l,s,h=>by
  rw[onT,Ja];split
  ·exact⟨_,_,rfl⟩
  ·have:=hY s l;split
   ·exact⟨_,_,rfl⟩
   ·rename_i e;rw[e]at this;cases this
 | d+1,l,s,h=>by
  rw[onT];refine QKT (fun s h c => ?_) _ s h;unfold KQ;split
  ·exact⟨_,_,rfl⟩
  ·split
   ·exact⟨_,_,rfl⟩
   ·obtain⟨s',h',e⟩:=Yv (x:=x) (C:=C) hY d (l++[c]) s (QV c.cell true h);simp only[e];exact⟨_,_,rfl⟩
end Go.Proofs.Ytbpffdkemeoajaa
