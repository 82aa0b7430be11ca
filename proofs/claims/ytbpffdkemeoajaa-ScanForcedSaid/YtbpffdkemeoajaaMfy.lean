/- - -/
import Derived.Test.YtbpffdkemeoajaaMfx
open Go.IntKind (i64)
set_option maxRecDepth 100000
namespace Go.Proofs.Ytbpffdkemeoajaa
open Go.SX
variable {c:QB}{σ:Type}{i:Nat}(pb:List Prop→Bool)(x:QE)(f l:List QB)(k:Nat)(moved turned n:Int)(C:List (List QB))
def opJ:JSt:=⟨50,[(1,.ptr 8 0 0),(12,.slz 2 0 x.hang.n (.of 0)),(13,.int false .i64 x.hang.n),(14,.int false .i64 k)],[(8,.cells 0 50 (JG 0 x))]++Jd 0 x,40⟩
def QKz:Ex→List Nat
 | .normal=>[1,12,13,14]
 | .exit _=>[1]
 | .ret=>[2,3]
def QAF:JSt:=⟨50,[(2,.nilp),(3,.int false .i64 11)],[],40⟩
def QDV:JSt:=⟨50,[(1,.ptr 8 0 0)],[(8,.cells 0 50 (JG 0 x))]++Jd 0 x,40⟩
noncomputable abbrev Vf:List AV:=
  [.nili,.ptr 50 0 0,.nilp,vj 11]
noncomputable abbrev Ve(x:QE):List AV:=
  [.nilp,.ptr 50 0 0,.ptr 8 0 0,.slz 2 0 x.hang.n cO,vi (x.hang.n:Int),vi (i64.wrap ((k:Int)+1))]
noncomputable abbrev QDG:Nat×Blk:=
  (8,.cells 0 50 [vi x.d.play.length,vi x.d.play.slack,vi x.d.play.loose,vi x.d.play.damp.lo,vi x.d.play.damp.hi,
  .int false .i64 x.d.wide,vi x.d.high,.bool false x.d.turn,.slz 0 0 x.d.ps.n cO,.slz 1 0 x.scans.n cO,.slz 2 0 x.hang.n cO,.int false .i64
  x.lost,vi x.foreign])
noncomputable abbrev QGS:Nat×Blk:=
  (2,.frz [.int .i64,.int .i64,.int .i64,.int .i64] x.hang.n fun i=>QA.enc (x.hang.get i))
abbrev vX:List CK:=
  [.int .i64,.int .i64,.int .i64,.int .i64,.int .i64,.int .i64,.int .i64,.int .i64,.int .i64,.int .i64,.int .i64,.int .i64,.int .i64,.int .i64,.int .i64,.int .i64,.int
  .i64,.int .i64,.int .i64,.int .i64,.int .i64,.int .i64,.int .i64,.int .i64,.int .i64,.int .i64,.int .i64,.int .i64]
noncomputable abbrev VM:List (Nat×Blk):=
  [(QDG x),(QGS x),(0,.frz vX x.d.ps.n fun i=>QA.enc (x.d.ps.get i)),(1,.frz vX x.scans.n fun i=>QA.enc (x.scans.get i))]
theorem QXE(g:Nat→Value):exec (mkF Try.prog V9) (hnd (mkF Try.prog V9) 0) (QX Try.f49 0) (JSt.inst (opJ x k) g) (KT [] QKz) = .br (decide ((k:Int)<(x.hang.n:Int))) (.need (decide ((0 :
  Int)≤(k:Int)∧(k:Int)<(x.hang.n:Int))&&decide (x.hang.n≤x.hang.n)) (.need (decide (k<x.hang.n)) (.need (decide ((0:Int)≤(x.hang.get k).a∧(x.hang.get k).a <
  (x.scans.n:Int))&&decide (x.scans.n≤x.scans.n)) (.need (decide ((0:Int)≤(x.hang.get k).i∧(x.hang.get k).i<4)) (.br (decide ((x.hang.get k).i=0)) (.need (decide
  ((x.hang.get k).a.toNat<x.scans.n)) (.need (decide ((0:Int)≤(x.hang.get k).b∧(x.hang.get k).b<(x.scans.n:Int))&&decide (x.scans.n≤x.scans.n)) (.need (decide ((0 :
  Int)≤(x.hang.get k).j∧(x.hang.get k).j<4)) (.br (decide ((x.hang.get k).j=0)) (.need (decide ((x.hang.get k).b.toNat<x.scans.n)) (.need (true) (.br ((KQ x.d.play
  (x.scans.get (x.hang.get k).a.toNat).up (x.scans.get (x.hang.get k).b.toNat).up).1==0) (.leaf (.tup Vf) ([])) (.leaf (.tup (Ve k x)) ((VM x)))))) (.br (decide ((x.hang.get
  k).j=1)) (.need (decide ((x.hang.get k).b.toNat<x.scans.n)) (.need (true) (.br ((KQ x.d.play (x.scans.get (x.hang.get k).a.toNat).up (x.scans.get (x.hang.get
  k).b.toNat).right).1==0) (.leaf (.tup Vf) ([])) (.leaf (.tup (Ve k x)) ((VM x)))))) (.br (decide ((x.hang.get k).j=2)) (.need (decide ((x.hang.get k).b.toNat<x.scans.n))
  (.need (true) (.br ((KQ x.d.play (x.scans.get (x.hang.get k).a.toNat).up (x.scans.get (x.hang.get k).b.toNat).down).1==0) (.leaf (.tup Vf) ([])) (.leaf (.tup (Ve k x))
  ((VM x)))))) (.need (decide ((x.hang.get k).b.toNat<x.scans.n)) (.need (true) (.br ((KQ x.d.play (x.scans.get (x.hang.get k).a.toNat).up (x.scans.get (x.hang.get
  k).b.toNat).left).1==0) (.leaf (.tup Vf) ([])) (.leaf (.tup (Ve k x)) ((VM x)))))))))))) (.br (decide ((x.hang.get k).i=1)) (.need (decide ((x.hang.get k).a.toNat <
  x.scans.n)) (.need (decide ((0:Int)≤(x.hang.get k).b∧(x.hang.get k).b<(x.scans.n:Int))&&decide (x.scans.n≤x.scans.n)) (.need (decide ((0:Int)≤(x.hang.get k).j ∧
  (x.hang.get k).j<4)) (.br (decide ((x.hang.get k).j=0)) (.need (decide ((x.hang.get k).b.toNat<x.scans.n)) (.need (true) (.br ((KQ x.d.play (x.scans.get (x.hang.get
  k).a.toNat).right (x.scans.get (x.hang.get k).b.toNat).up).1==0) (.leaf (.tup Vf) ([])) (.leaf (.tup (Ve k x)) ((VM x)))))) (.br (decide ((x.hang.get k).j=1)) (.need
  (decide ((x.hang.get k).b.toNat<x.scans.n)) (.need (true) (.br ((KQ x.d.play (x.scans.get (x.hang.get k).a.toNat).right (x.scans.get (x.hang.get k).b.toNat).right).1==0)
  (.leaf (.tup Vf) ([])) (.leaf (.tup (Ve k x)) ((VM x)))))) (.br (decide ((x.hang.get k).j=2)) (.need (decide ((x.hang.get k).b.toNat<x.scans.n)) (.need (true) (.br ((KQ
  x.d.play (x.scans.get (x.hang.get k).a.toNat).right (x.scans.get (x.hang.get k).b.toNat).down).1==0) (.leaf (.tup Vf) ([])) (.leaf (.tup (Ve k x)) ((VM x)))))) (.need
  (decide ((x.hang.get k).b.toNat<x.scans.n)) (.need (true) (.br ((KQ x.d.play (x.scans.get (x.hang.get k).a.toNat).right (x.scans.get (x.hang.get k).b.toNat).left).1==0) (.leaf
  (.tup Vf) ([])) (.leaf (.tup (Ve k x)) ((VM x)))))))))))) (.br (decide ((x.hang.get k).i=2)) (.need (decide ((x.hang.get k).a.toNat<x.scans.n)) (.need (decide ((0:Int) ≤
  (x.hang.get k).b∧(x.hang.get k).b<(x.scans.n:Int))&&decide (x.scans.n≤x.scans.n)) (.need (decide ((0:Int)≤(x.hang.get k).j∧(x.hang.get k).j<4)) (.br (decide
  ((x.hang.get k).j=0)) (.need (decide ((x.hang.get k).b.toNat<x.scans.n)) (.need (true) (.br ((KQ x.d.play (x.scans.get (x.hang.get k).a.toNat).down (x.scans.get (x.hang.get
  k).b.toNat).up).1==0) (.leaf (.tup Vf) ([])) (.leaf (.tup (Ve k x)) ((VM x)))))) (.br (decide ((x.hang.get k).j=1)) (.need (decide ((x.hang.get k).b.toNat<x.scans.n))
  (.need (true) (.br ((KQ x.d.play (x.scans.get (x.hang.get k).a.toNat).down (x.scans.get (x.hang.get k).b.toNat).right).1==0) (.leaf (.tup Vf) ([])) (.leaf (.tup (Ve k x))
  ((VM x)))))) (.br (decide ((x.hang.get k).j=2)) (.need (decide ((x.hang.get k).b.toNat<x.scans.n)) (.need (true) (.br ((KQ x.d.play (x.scans.get (x.hang.get k).a.toNat).down
  (x.scans.get (x.hang.get k).b.toNat).down).1==0) (.leaf (.tup Vf) ([])) (.leaf (.tup (Ve k x)) ((VM x)))))) (.need (decide ((x.hang.get k).b.toNat<x.scans.n)) (.need
  (true) (.br ((KQ x.d.play (x.scans.get (x.hang.get k).a.toNat).down (x.scans.get (x.hang.get k).b.toNat).left).1==0) (.leaf (.tup Vf) ([])) (.leaf (.tup (Ve k x)) ((VM
  x)))))))))))) (.need (decide ((x.hang.get k).a.toNat<x.scans.n)) (.need (decide ((0:Int)≤(x.hang.get k).b∧(x.hang.get k).b<(x.scans.n:Int))&&decide (x.scans.n ≤
  x.scans.n)) (.need (decide ((0:Int)≤(x.hang.get k).j∧(x.hang.get k).j<4)) (.br (decide ((x.hang.get k).j=0)) (.need (decide ((x.hang.get k).b.toNat<x.scans.n)) (.need
  (true) (.br ((KQ x.d.play (x.scans.get (x.hang.get k).a.toNat).left (x.scans.get (x.hang.get k).b.toNat).up).1==0) (.leaf (.tup Vf) ([])) (.leaf (.tup (Ve k x)) ((VM
  x)))))) (.br (decide ((x.hang.get k).j=1)) (.need (decide ((x.hang.get k).b.toNat<x.scans.n)) (.need (true) (.br ((KQ x.d.play (x.scans.get (x.hang.get k).a.toNat).left
  (x.scans.get (x.hang.get k).b.toNat).right).1==0) (.leaf (.tup Vf) ([])) (.leaf (.tup (Ve k x)) ((VM x)))))) (.br (decide ((x.hang.get k).j=2)) (.need (decide ((x.hang.get
  k).b.toNat<x.scans.n)) (.need (true) (.br ((KQ x.d.play (x.scans.get (x.hang.get k).a.toNat).left (x.scans.get (x.hang.get k).b.toNat).down).1==0) (.leaf (.tup Vf) ([]))
  (.leaf (.tup (Ve k x)) ((VM x)))))) (.need (decide ((x.hang.get k).b.toNat<x.scans.n)) (.need (true) (.br ((KQ x.d.play (x.scans.get (x.hang.get k).a.toNat).left
  (x.scans.get (x.hang.get k).b.toNat).left).1==0) (.leaf (.tup Vf) ([])) (.leaf (.tup (Ve k x)) ((VM x))))))))))))))))))) (.leaf (.tup [.ptr 0 0 0,.ptr 50 0 0,.ptr 8 0 0])
  ([(QDG x),(0,.frz vX x.d.ps.n fun i=>QA.enc (x.d.ps.get i)),(1,.frz vX x.scans.n fun i=>QA.enc (x.scans.get i)),(QGS x)])):=by kernel_rfl
theorem QUy :QL 8 [AV.nilp,AV.int true i64 (11:Int)] ([]) QAF=(
  some [(11:Int)=(11:Int)]):=by kernel_rfl
abbrev QHT:List Prop:=
  [x.d.play.slack=x.d.play.slack,x.d.play.loose=x.d.play.loose,x.d.play.damp.lo=x.d.play.damp.lo,x.d.play.damp.hi=x.d.play.damp.hi,x.d.wide=x.d.wide,x.d.high =
  x.d.high,x.d.turn=x.d.turn,0=0,x.d.ps.n=x.d.ps.n,cO=cO,0=0,x.scans.n=x.scans.n,cO=cO,0=0,x.hang.n=x.hang.n,cO=cO,
  x.lost=x.lost,x.foreign=x.foreign,x.d.ps.n≤x.d.ps.n,QC 28 x.d.ps.n (fun i=>QA.enc (x.d.ps.get i)) fun i=>QA.enc (x.d.ps.get i),x.scans.n≤x.scans.n,QC 28
  x.scans.n (fun i=>QA.enc (x.scans.get i)) fun i=>QA.enc (x.scans.get i),x.hang.n≤x.hang.n,QC 4 x.hang.n (fun i=>QA.enc (x.hang.get i)) fun i=>QA.enc
  (x.hang.get i)]
theorem QP8(k k':Nat):QL 8 [.ptr 8 0 0,.slz 2 0 x.hang.n cO,vi (x.hang.n:Int),vi (i64.wrap ((k:Int)+1))] ((VM x)) (opJ x k')=(some ([0=0,0 =
  0,0=0,x.hang.n=x.hang.n,cO=cO,(x.hang.n:Int)=(x.hang.n:Int),i64.wrap ((k:Int)+1)=(k':Int),x.d.play.length=x.d.play.length]++(QHT
  x))):=by kernel_rfl
theorem QZB :QL 8 [.ptr 8 0 0] ([(QDG x),(0,.frz vX x.d.ps.n fun i=>QA.enc (x.d.ps.get i)),(1,.frz vX x.scans.n fun i=>QA.enc (x.scans.get i)),(QGS x)]) (QDV x)=(some
  ([0=0,0=0,x.d.play.length=x.d.play.length]++(QHT x))):=by kernel_rfl
def QBO(s:QS)(i:Int):Edge:=match decide (i=0)with
 | true=>s.up
 | false=>match decide (i=1)with
  | true=>s.right
  | false=>match decide (i=2)with
   | true=>s.down
   | false=>s.left
def Yz:Bool:=(KQ x.d.play (QBO (x.scans.get (x.hang.get k).a.toNat) (x.hang.get k).i) (QBO (x.scans.get (x.hang.get k).b.toNat) (x.hang.get k).j)).1==0
def JU:Bool:=(QM (Yz x) x.hang.n 0).isSome
def opR(e:Ex)(J:JSt):Prop:=(e = .ret∧(QM (Yz x) (x.hang.n-k) k).isSome=true∧J=QAF)∨(e = .exit 0∧(QM (Yz x) (x.hang.n-k) k).isSome=false∧J=QDV x)
theorem JM{x:QE}(h:x.ok=true):JL x:=by
 simp only[QE.ok,QE.sz,QW,qbA,qdE]at h;obtain⟨⟨h1,h2,h3,h4⟩,h5,h6,h7⟩:=h;refine⟨QJn h5,by omega,by omega,fun k hk => ?_⟩
 have hj:JD x k=false:=by
  have:jxO x=none:=by
   cases e:jxO x with
   | none=>rfl
   | some i=>rw[e]at h7;simp[KY]at h7
  exact ze this k (Nat.zero_le _) (by omega)
 have hs:i64.wrap ((x.scans.n:Int)-1)=(x.scans.n:Int)-1:=w64 (by omega) (by omega)
 simp only[JD,Zo,hs,QW,Bool.or_eq_false_iff,Bool.not_eq_false',qbA,qdE]at hj;exact⟨⟨by omega,by omega⟩,by omega,by omega⟩
theorem QTH(hx:JL x):JJ (opJ x) (fun k=>k≤x.hang.n) (fun k=>x.hang.n-k) (opR x) 8 QKz [] (mkF Try.prog V9) (fun _=>hnd (mkF Try.prog V9) 0) (QX Try.f49 0):=by
 refine⟨fun k g hk=>Q2 (QXE x k g) ?_⟩;have h12:=hx.n;refine QG (fun h => ?_) (fun h => ?_)
 ·have h:k<x.hang.n:=by have:=qdt h;omega
  obtain⟨m,hm⟩:∃ m,x.hang.n-k=m+1:=⟨x.hang.n-k-1,by omega⟩
  have hm':x.hang.n-(k+1)=m:=by omega
  have hw:i64.wrap ((k:Int)+1)=((k+1:Nat):Int):=(w64 (by omega) (by omega)).trans (by omega)
  obtain⟨⟨b1,b2⟩,b3,b4⟩:=hx.j k h
  have go:Yz x k=false→∀ e J,opR x (k+1) e J→opR x k e J:=fun q e J h=>by
   have hf:QM (Yz x) (x.hang.n-k) k=QM (Yz x) (x.hang.n-(k+1)) (k+1):=by rw[hm,hm',QM,q]
   unfold opR at h ⊢;rw[hf];exact h
  have stop:Yz x k=true→opR x k .ret QAF:=fun q => .inl ⟨rfl,by rw[hm,QM,q];rfl,rfl⟩
  generalize hj:x.hang.get k=j at *;have na:decide (j.a.toNat<x.scans.n)=true:=by simp;omega
  have nb:decide (j.b.toNat<x.scans.n)=true:=by simp;omega
  refine QF (by simp;omega) (QF (by simp;omega) (QF (by simp;omega) (QF (by simp;omega) ?_)))
  refine QG (fun i0 => ?_) (fun i0=>QG (fun i1 => ?_) (fun i1=>QG (fun i2 => ?_) (fun i2 => ?_)))
  all_goals
   refine QF na (QF (by simp;omega) (QF (by simp;omega) ?_))
   refine QG (fun j0 => ?_) (fun j0=>QG (fun j1 => ?_) (fun j1=>QG (fun j2 => ?_) (fun j2 => ?_)))
   all_goals
    refine QF nb (QF rfl (QG (fun q => ?_) (fun q => ?_)))
    ·refine⟨_,stop ?_,rfl,rfl,_,QUy,⟨rfl,trivial⟩⟩;simp only[Yz,hj,QBO, *]
    ·refine⟨k+1,by show k+1≤x.hang.n;omega,by show x.hang.n-(k+1)<x.hang.n-k;omega,go ?_,rfl,rfl,_,QP8 x k (k+1),?_⟩
     ·simp only[Yz,hj,QBO, *]
     ·repeat' first|exact trivial|with_reducible rfl|exact qlr _|exact qRr|exact hw|refine And.intro ?_ ?_
 ·have h:x.hang.n≤k:=by have:=of_decide_eq_false h;omega
  have hf:QM (Yz x) (x.hang.n-k) k=none:=by rw[show x.hang.n-k=0 by omega];rfl
  refine⟨_,.inr ⟨rfl,by rw[hf];rfl,rfl⟩,rfl,rfl,_,QZB x,?_⟩
  repeat' first|exact trivial|with_reducible rfl|exact qlr _|exact qRr|refine And.intro ?_ ?_
def opE(e:Int):UC:=⟨8,⟨1,[(0,.agg (JG 0 x))],Jd 0 x,8⟩,fun _ => .tup [.nilp,.int false .i64 e],fun _=>[]⟩
def opO:UC:=⟨8,⟨1,[(0,.agg (JG 0 x))],Jd 0 x,8⟩,fun m => .tup [.ptr m 0 0,.int true .i64 0],fun m=>srO m (m+1) x C⟩
def opX:List (Prop×Ex×JSt):=[(JU x=true,.ret,QAF),(JU x=false,.exit 0,QDV x)]
def qk:Tab:=Qg Qu 75 (VH pb (nsU x C))
abbrev opH(P:Program)(T:Tab)(x:QE):Hnd:={ hnd (mkE P T) 1 with loop:=fun _=>KD 8 [] (opJ x (0:Nat)) (opX x) }
abbrev QMf:List CK:=
  [.int .i64,.int .i64,.int .i64,.int .i64,.int .i64,.int .i64,.int .i64,.int .i64,.int .i64,.int .i64,.int .i64,.int .i64,.int .i64,.int .i64,.int .i64,.int .i64,.int
  .i64,.int .i64,.int .i64,.int .i64,.int .i64,.int .i64,.int .i64,.int .i64,.int .i64,.int .i64,.int .i64,.int .i64]
noncomputable abbrev QJ5(x:QE):List (Nat×Blk):=
  [(48,.cells 0 125 [vi x.d.play.length,vi x.d.play.slack,vi x.d.play.loose,vi x.d.play.damp.lo,.int false .i64
  x.d.play.damp.hi,vi x.d.wide,vi x.d.high,.bool false x.d.turn,.slz 0 0 x.d.ps.n cO,.slz 1 0 x.scans.n cO,.slz 2 0 x.hang.n (Cap.of
  0),vi x.lost,vi x.foreign,.slz 49 0 C.length cO]),(0,.frz QMf x.d.ps.n fun i=>QA.enc (x.d.ps.get i)),(1,.frz QMf x.scans.n fun i=>
  QA.enc (x.scans.get i)),(2,.frz [.int .i64,.int .i64,.int .i64,.int .i64] x.hang.n fun i=>QA.enc (x.hang.get i)),(49,.frz2 true 38 [.int .i64,.int .i64] C.length (fun
  i=>(QK C i).length) fun i j=>QA.enc ((QK C i).getD j ⟨0,0⟩))]
theorem QIV :VY (mkE Try.prog (qk pb x C)) (opH Try.prog (qk pb x C) x) Try.f49 (opO x C) = .need (decide (x.d.ps.n≤x.d.ps.n)&&(decide (x.scans.n≤x.scans.n)&&(decide (x.hang.n
  ≤ x.hang.n)&&true))&&decide (x.d.ps.n≤1000∧x.scans.n≤1000∧x.hang.n≤1000)) (.br (!x.ok) (.leaf (.tup [.nilp,vj 1]) ([])) (.ask (0=0) (.ask (0=0) (.ask
  (0=0) (.ask (x.hang.n=x.hang.n) (.ask (cO=cO) (.ask ((x.hang.n:Int)=(x.hang.n:Int)) (.ask ((0:Int)=0) (.ask (x.d.play.length=x.d.play.length) (.ask
  (x.d.play.slack=x.d.play.slack) (.ask (x.d.play.loose=x.d.play.loose) (.ask (x.d.play.damp.lo=x.d.play.damp.lo) (.ask (x.d.play.damp.hi=x.d.play.damp.hi) (.ask (x.d.wide =
  x.d.wide) (.ask (x.d.high=x.d.high) (.ask (x.d.turn=x.d.turn) (.ask (0=0) (.ask (x.d.ps.n=x.d.ps.n) (.ask (cO=cO) (.ask (0=0) (.ask (x.scans.n=x.scans.n)
  (.ask (cO=cO) (.ask (0=0) (.ask (x.hang.n=x.hang.n) (.ask (cO=cO) (.ask (x.lost=x.lost) (.ask (x.foreign=x.foreign) (.ask (x.d.ps.n≤x.d.ps.n)
  (.ask (QC 28 x.d.ps.n (fun i=>QA.enc (x.d.ps.get i)) fun i=>QA.enc (x.d.ps.get i)) (.ask (x.scans.n≤x.scans.n) (.ask (QC 28 x.scans.n (fun i=>QA.enc
  (x.scans.get i)) fun i=>QA.enc (x.scans.get i)) (.ask (x.hang.n≤x.hang.n) (.ask (QC 4 x.hang.n (fun i=>QA.enc (x.hang.get i)) fun i=>QA.enc (x.hang.get i)) (.both
  (.asm (JU x=true) (.all (fun(g0:Nat→Value) => .leaf (.tup [.nilp,vi 11]) ([])))) (.asm (JU x=false) (.all (fun(g1:Nat→Value) => .need (pb
  ([x.d.play.length=x.d.play.length,x.d.play.slack=x.d.play.slack,x.d.play.loose=x.d.play.loose,x.d.play.damp.lo=x.d.play.damp.lo,x.d.play.damp.hi=x.d.play.damp.hi,
  x.d.wide=x.d.wide,x.d.high=x.d.high,x.d.turn=x.d.turn,0=0,x.d.ps.n=x.d.ps.n,cO=cO,0=0,x.scans.n=x.scans.n,cO=cO,0=0,x.hang.n =
  x.hang.n,cO=cO,x.lost=x.lost,x.foreign=x.foreign,x.d.ps.n≤x.d.ps.n,QC 28 x.d.ps.n (fun i=>QA.enc (x.d.ps.get i)) fun i=>QA.enc (x.d.ps.get i),
  x.scans.n≤x.scans.n,QC 28 x.scans.n (fun i=>QA.enc (x.scans.get i)) fun i=>QA.enc (x.scans.get i),x.hang.n≤x.hang.n,QC 4 x.hang.n (fun i=>QA.enc
  (x.hang.get i)) fun i=>QA.enc (x.hang.get i)])) (.leaf (.tup [.ptr 48 0 0,vj 0]) ((QJ5 C x)))))))))))))))))))))))))))))))))))))))):=by kernel_rfl
abbrev opN(P : Program): Hnd := { hnd (mkE P Qu) 1 with loop := fun _ _ _ => .fail "a loop" }
theorem QZo:VY (mkE Try.prog Qu) (opN Try.prog) Try.f49 (opE x 1) =
  QD.need (decide (x.d.ps.n ≤ x.d.ps.n) && (decide (x.scans.n ≤ x.scans.n) && (decide (x.hang.n ≤ x.hang.n) && true)) && decide (x.d.ps.n ≤ (1000 : Nat) ∧ x.scans.n ≤ (1000 : Nat) ∧ x.hang.n ≤ (1000 : Nat))) (QD.br (!x.ok) (QD.leaf (AV.tup [AV.nilp, AV.int true i64 (1 : Int)]) ([])) (QD.fail ("a loop"))) := by kernel_rfl
theorem QUc(e:Int):QL 8 [(AV.tup [AV.nilp,AV.int true i64 (1:Int)])] ([]) (Ku (opE x e))=(
  some [(1:Int)=e]):=by kernel_rfl
theorem QQU(e:Int):QL 8 [(AV.tup [AV.nilp,AV.int false i64 (11:Int)])] ([]) (Ku (opE x e))=(
  some [(11:Int)=e]):=by kernel_rfl
theorem QUs :QL 8 [(.tup [.ptr 48 0 0,vj 0])] ((QJ5 C x)) (Ku (opO x C))=(some [0=0,0=0,(0:Int)=0,x.d.play.length=x.d.play.length,x.d.play.slack =
  x.d.play.slack,x.d.play.loose=x.d.play.loose,x.d.play.damp.lo=x.d.play.damp.lo,x.d.play.damp.hi=x.d.play.damp.hi,x.d.wide=x.d.wide,x.d.high=x.d.high,x.d.turn =
  x.d.turn,0=0,x.d.ps.n=x.d.ps.n,cO=cO,0=0,x.scans.n=x.scans.n,cO=cO,0=0,x.hang.n=x.hang.n,cO=cO,x.lost=x.lost,
  x.foreign=x.foreign,0=0,C.length=C.length,cO=cO,C.length=C.length,Kj 2 C.length (fun i=>(QK C i).length) (fun i=>(QK C i).length) (fun i j=>
  QA.enc ((QK C i).getD j ⟨0,0⟩)) fun i j=>QA.enc ((QK C i).getD j ⟨0,0⟩)]):=by kernel_rfl
theorem QJi(e:Int):(opE x e).Ok:=by
 refine⟨(by decide:8≤8),rfl,rfl,?_,rfl,fun nid h=>rfl,fun nid h=>rfl⟩
 intro q hq;simp only[UC.po,opE,List.not_mem_nil]at hq
theorem QYf:(opO x C).Ok:=by
 refine⟨(by decide:8≤8),rfl,rfl,?_,rfl,fun nid h => ?_,fun nid h => ?_⟩
 ·intro q hq;simp only[UC.po,opO,srO,ZI,List.mem_cons,List.not_mem_nil,or_false]at hq;rcases hq with rfl|rfl
  ·exact⟨rfl,rfl,rfl,fun h=>absurd (show 8<8 from h) (by decide)⟩
  ·exact⟨rfl,rfl,rfl,fun h=>absurd (show 9<8 from h) (by decide)⟩
 ·have e0:=jM 0 nid;simp only[UC.va,opO,AV.mapId,AV.mapIdL,Nat.add_zero]at e0 ⊢;rw[e0]
 ·have e0:=jM 0 nid;have e1:=jM 1 nid;have l0:=vy (i:=0) (by decide) nid
  have l1:=vy (i:=1) (by decide) nid
  have l2:=vy (i:=2) (by decide) nid
  simp only[UC.po,opO,srO,ZI,JG,Q7.val,List.cons_append,List.nil_append,List.map_cons,List.map_nil,Blk.mapId,AV.mapId,AV.mapIdL,Nat.add_zero,Nat.zero_add]at e0 e1 l0 l1 l2 ⊢;rw[e0,e1,l0,l1,l2]
structure YH (x:QE):Prop where
 d:x.d.ps.n≤1000
 s:x.scans.n≤1000
 h:x.hang.n≤1000
theorem QEL{x:QE}(hx:JL x):QZ (qk Qf x (Qr x x.scans.n)):=by
 have:=hx.d.n9;have:=hx.s;exact KB.add (QVC x (by omega) (by omega))
theorem QLF{x:QE}(hx:JL x)(G:Ctx)(hrd:G.rd=none)(hG:G.n=8):KC (mkE Try.prog (qk Qf x (Qr x x.scans.n))) G (opH Try.prog (qk Qf x (Qr x x.scans.n)) x) (Qs Try.f49):=by
 have hE:=QT (QEL hx);refine Jj (body:=QX Try.f49 0) hE hrd (by kernel_rfl) ?_
 refine ZG (E:=mkF Try.prog V9) rfl (JW (n0:=8) (jd vt) (by omega) (fun s hs=>Qy (jd vt) 0 G _ hrd) (fun s hs=>(by decide:8≤40)) ?_ (QTH x hx) (s0:=0) (Nat.zero_le _) ?_)
 ·rintro s e J (⟨_,_,rfl⟩|⟨_,_,rfl⟩)<;>exact(by decide:8≤40)
 ·rintro e J (⟨rfl,h,rfl⟩|⟨rfl,h,rfl⟩)
  ·exact⟨_,List.mem_cons_self,h,rfl,rfl⟩
  ·exact⟨_,List.mem_cons_of_mem _ List.mem_cons_self,h,rfl,rfl⟩
theorem QS0(G:Ctx)(hrd:G.rd=none):KC (mkE Try.prog Qu) G (opN Try.prog) (Qs Try.f49):=
 Jj (body:=QX Try.f49 0) (QT KB) hrd (by kernel_rfl) (fun _ _ _ _ _ _ _ h _ _=>h.elim)
theorem QC9(hs:YH x)(hx:x.ok=false):QP Try.prog 49 (uFC (opE x 1)):=by
 refine Ju (E:=mkE Try.prog Qu) (QT KB) Try.func49 (by kernel_rfl) (by kernel_rfl) (QJi ..) (fun G h1 _=>QS0 G h1) ⟨?_⟩
 refine Q2 (QZo x) ?_;refine QF (by simp;exact⟨hs.d,hs.s,hs.h⟩) (QG (fun h => ?_) (fun h => ?_))
 ·exact⟨rfl,rfl,_,QUc x 1,⟨rfl,trivial⟩⟩
 ·rw[hx]at h;cases h
theorem QFm(hs:YH x)(hx:x.ok=true)(hr:JU x=true):QP Try.prog 49 (uFC (opE x 11)):=by
 refine Ju (E:=mkE Try.prog (qk Qf x (Qr x x.scans.n))) (QT (QEL (JM hx))) Try.func49 (by kernel_rfl) (by kernel_rfl) (QJi ..) (QLF (JM hx)) ⟨?_⟩
 generalize Qr x x.scans.n=C;refine Q2 (QIV Qf x C) ?_;refine QF (by simp;exact⟨hs.d,hs.s,hs.h⟩) (QG (fun h=>by rw[hx]at h;cases h) (fun h => ?_))
 repeat' first|refine Qa (p:=_=_) rfl ?_|refine Qa (p:=_≤_) (qlr _) ?_|refine Qa (p:=QC _ _ _ _) (qRr) ?_
 refine Xf (KJ fun _=>KF fun g => ?_) (KJ fun h3=>by rw[hr]at h3;cases h3)
 exact⟨rfl,rfl,_,QQU x 11,⟨rfl,trivial⟩⟩
theorem vn(hs:YH x)(hx:x.ok=true)(hr:JU x=false):QP Try.prog 49 (uFC (opO x (Qr x x.scans.n))):=by
 refine Ju (E:=mkE Try.prog (qk Qf x (Qr x x.scans.n))) (QT (QEL (JM hx))) Try.func49 (by kernel_rfl) (by kernel_rfl) (QYf ..) (QLF (JM hx)) ⟨?_⟩
 generalize Qr x x.scans.n=C;refine Q2 (QIV Qf x C) ?_;refine QF (by simp;exact⟨hs.d,hs.s,hs.h⟩) (QG (fun h=>by rw[hx]at h;cases h) (fun h => ?_))
 repeat' first|refine Qa (p:=_=_) rfl ?_|refine Qa (p:=_≤_) (qlr _) ?_|refine Qa (p:=QC _ _ _ _) (qRr) ?_
 refine Xf (KJ fun h3=>by rw[hr]at h3;cases h3) (KJ fun _=>KF fun g => ?_)
 refine QF (Ke.2 ?_) ⟨rfl,rfl,_,QUs x C,?_⟩
 ·repeat' first|exact trivial|with_reducible rfl|exact qlr _|exact qRr|exact QY _ _ _ _|refine And.intro ?_ ?_
 ·repeat' first|exact trivial|with_reducible rfl|exact qlr _|exact qRr|exact QY _ _ _ _|refine And.intro ?_ ?_
def XE(s c:Int):Int:=i64.wrap ((BitVec.ofInt 64 s ||| BitVec.ofInt 64 (i64.wrap (1*2^min c.toNat 64))).toNat:Nat)
structure QAg (l:List QB):Prop where
 le:l.length≤1000
 s:∀ i,i<l.length→(l.getD i ⟨0,0⟩).cell = -2∨0≤(l.getD i ⟨0,0⟩).cell
inductive Res (σ:Type) where
 | go (s:σ) (has:Int→Bool)
 | stop (s:σ) (has:Int→Bool)
def QH(c:Int):Int:=(l.countP fun s=>s.cell==c:Nat)
def Jl{σ:Type}(f:σ→(Int→Bool)→QB→Res σ):List QB→σ→(Int→Bool)→Res σ
 | [],s,h => .go s h
 | c::l,s,h=>match f s h c with
  | .go s h=>Jl f l s h
  | .stop s h => .stop s h
def JP(c:QB):Bool:=decide (QH l c.cell≥(match c.cell == -2 with|true=>x.foreign|false=>1))
theorem Xr{x:QE}{l:List QB}:JP x l c=decide (QH l c.cell≥cond (c.cell == -2) x.foreign 1):=by unfold JP;cases c.cell == -2<;>rfl
theorem QQ:∀{a b:List Prop},KL a→KL b→KL (a++b)
 | [],_,_,h=>h
 | _::_,_,h,g=>⟨h.1,QQ h.2 g⟩
abbrev mkC(P:Program)(C:Tab):Env:=⟨P,C,qK P,false,fun _=>false,true,false,false⟩
theorem jr{C:Tab}(hC:QZ C):(mkC Try.prog C).Sound:={ c:=hC,m:=HI Try.prog,mixed:=Gk }
def YW:Bool:=decide ((x.d.ps.n:Int)-((l.length:Int)-QH l (-2))>x.lost)
def Kl(rec:σ→(Int→Bool)→QB→Res σ)(s:σ)(h:Int→Bool)(c:QB):Res σ:=match JP x l c with
 | true => .go s h
 | false=>match Kk x (l++[c])with
  | false => .go s (Qe c.cell true (Qe c.cell true h))
  | true=>match rec s (Qe c.cell true h) c with
   | .go s h => .go s (Qe c.cell true h)
   | .stop s h => .stop s (Qe c.cell true h)
def VF(Y:σ→List QB→σ×Bool)(l:List QB)(s:σ)(h:Int→Bool):Res σ:=match YW x l with
 | true => .go s h
 | false=>match Y s l with
  | (s,true) => .go s h
  | (s,false) => .stop s h
def onT{σ:Type}(x:QE)(C:List (List QB))(Y:σ→List QB→σ×Bool):Nat→List QB→σ→(Int→Bool)→Res σ
 | 0,l,s,h=>VF x Y l s h
 | d+1,l,s,h=>Jl (Kl x l fun s h c=>onT x C Y d (l++[c]) s h) (QK C l.length) s h
theorem qi(c:QB)(n:Int):QH (l++[c]) n=if c.cell=n then QH l n+1 else QH l n:=by
 unfold QH;rw[List.countP_append]
 by_cases h:c.cell=n
 ·rw[if_pos h];simp[h]
 ·rw[if_neg h];simp[h]
theorem jm:0≤QH l n:=Int.natCast_nonneg _
theorem vo:QH l n≤l.length:=by
 unfold QH;have:=List.countP_le_length (p:=fun s:QB=>s.cell==n) (l:=l);omega
abbrev X0:Int→AV:=fun c => .int false .i64 (QH l c)
theorem JI(z:Bool)(h:Int→Bool)(l:List QB):Kc (.int z .i64 0) (.int true .i64 0) h h (X0 l) (X0 l):=⟨fun _=>rfl,rfl,fun _=>rfl,fun _=>⟨fun _=>rfl,rfl⟩⟩
theorem QB7(z b:Bool){l:List QB}{n:Int}(hl:l.length≤1000)(hn:n=i64.wrap (QH l c.cell+1))(h:Int→Bool):Kc (.int z .i64 0) (.int true .i64 0) h h (KM c.cell (.int b .i64 n) (X0 l)) (X0 (l++[c])):=by
 have h1:=jm l c.cell;have h2:=vo l c.cell;have hw:i64.wrap (QH l c.cell+1)=QH l c.cell+1:=w64 (by omega) (by omega)
 refine⟨fun _=>rfl,rfl,fun _=>rfl,fun k=>⟨fun r => ?_,rfl⟩⟩;simp only[KM]
 by_cases e:k=c.cell
 ·subst e;have q:QH (l++[c]) c.cell=QH l c.cell+1:=by rw[qi,if_pos rfl]
  simp only[decide_true,hn,hw,X0,q];rfl
 ·have q:QH (l++[c]) k=QH l k:=by rw[qi,if_neg (fun q=>e q.symm)]
  simp only[e,decide_false,X0,q]
theorem QCb(z b:Bool){l:List QB}{n:Int}(hl:l.length≤1000)(hn:n=i64.wrap (QH (l++[c]) c.cell-1))(h:Int→Bool):Kc (.int z .i64 0) (.int true .i64 0) h h (KM c.cell (.int b .i64 n) (X0 (l++[c]))) (X0 l):=by
 have h1:=jm l c.cell;have h2:=vo l c.cell
 have hw:i64.wrap (QH (l++[c]) c.cell-1)=QH l c.cell:=by
  rw[qi,if_pos rfl];exact(w64 (by omega) (by omega)).trans (by omega)
 refine⟨fun _=>rfl,rfl,fun _=>rfl,fun k=>⟨fun r => ?_,rfl⟩⟩;simp only[KM]
 by_cases e:k=c.cell
 ·subst e;simp only[decide_true,hn,hw];rfl
 ·have q:QH (l++[c]) k=QH l k:=by rw[qi,if_neg (fun q=>e q.symm)]
  simp only[e,decide_false,X0,q]
theorem Hw(z b b':Bool){l:List QB}{m n:Int}(hl:l.length≤1000)(hm:n=i64.wrap (i64.wrap (QH l c.cell+1)-1))(h:Int→Bool):Kc (.int z .i64 0) (.int true .i64 0) h h (KM c.cell (.int b .i64 n) (KM c.cell (.int b' .i64 m) (X0 l))) (X0 l):=by
 have h1:=jm l c.cell;have h2:=vo l c.cell;have hw:i64.wrap (QH l c.cell+1)=QH l c.cell+1:=w64 (by omega) (by omega)
 have hw2:i64.wrap (QH l c.cell+1-1)=QH l c.cell:=(w64 (by omega) (by omega)).trans (by omega)
 rw[hw,hw2]at hm;refine⟨fun _=>rfl,rfl,fun _=>rfl,fun k=>⟨fun r => ?_,rfl⟩⟩;simp only[KM]
 by_cases e:k=c.cell
 ·subst e;simp only[decide_true,hm];rfl
 ·simp only[e,decide_false]
def rwL(id:Nat)(l:List QB):Nat×Blk:=(id,.rowz true 56 [.int .i64,.int .i64] l.length fun i=>QA.enc (l.getD i ⟨0,0⟩))
theorem WV(c:QB)(n:Nat)(hn:n=l.length):QC 2 (l++[c]).length (Qi n (fun i=>QA.enc (l.getD i ⟨0,0⟩)) (QU [[.int false .i64 c.cell,.int false .i64 c.turn]] 0)) (fun i=>QA.enc ((l++[c]).getD i ⟨0,0⟩)):=by
 subst hn;intro i hi;have hi:i<l.length+1:=by simpa using hi
 show eqF 2 0 (Qi l.length (fun i=>QA.enc (l.getD i ⟨0,0⟩)) (QU [[.int false .i64 c.cell,.int false .i64 c.turn]] 0) i) (QA.enc ((l++[c]).getD i ⟨0,0⟩))
 by_cases h:i<l.length
 ·have e:(l++[c]).getD i ⟨0,0⟩=l.getD i ⟨0,0⟩:=by
   rw[List.getD_eq_getElem?_getD,List.getD_eq_getElem?_getD,List.getElem?_append_left h]
  have e2:Qi l.length (fun i=>QA.enc (l.getD i (⟨0,0⟩:QB))) (QU [[.int false .i64 c.cell,.int false .i64 c.turn]] 0) i=QA.enc (l.getD i ⟨0,0⟩):=by
   funext j;rw[X8,if_pos h]
  rw[e,e2];exact⟨rfl,rfl,trivial⟩
 ·have q:i=l.length:=by omega
  subst q;have e:(l++[c]).getD l.length ⟨0,0⟩=c:=by simp
  have e2:Qi l.length (fun i=>QA.enc (l.getD i (⟨0,0⟩:QB))) (QU [[.int false .i64 c.cell,.int false .i64 c.turn]] 0) l.length=QU [[.int false .i64 c.cell,.int false .i64 c.turn]] 0 0:=by
   funext j;rw[X8,if_neg h,Nat.sub_self]
  rw[e,e2];exact⟨rfl,rfl,trivial⟩
theorem QBq(c:QB):QC 2 l.length (fun i=>QA.enc ((l++[c]).getD i ⟨0,0⟩)) (fun i=>QA.enc (l.getD i ⟨0,0⟩)):=by
 intro i hi
 have e:(l++[c]).getD i ⟨0,0⟩=l.getD i ⟨0,0⟩:=by
  rw[List.getD_eq_getElem?_getD,List.getD_eq_getElem?_getD,List.getElem?_append_left hi]
 show eqF 2 0 (QA.enc ((l++[c]).getD i ⟨0,0⟩)) (QA.enc (l.getD i ⟨0,0⟩));rw[e];exact⟨rfl,rfl,trivial⟩
theorem WT(c:QB):l.length+1=(l++[c]).length:=by simp
theorem Zv(c:QB):(l++[c]).length≤l.length+1:=by simp
theorem QAh(c:QB)(hl:l.length≤1000):(i64.wrap (((l++[c]).length:Int)-1)).toNat=l.length:=by
 rw[List.length_append,List.length_singleton,w64 (by omega) (by omega)];omega
theorem QBZ(hl:l.length≤1000):(i64.wrap (((l.length+1:Nat):Int)-1)).toNat=l.length:=by
 rw[w64 (by omega) (by omega)];omega
theorem QCN(g:Nat→Nat→Int):QC 2 l.length (Qi l.length (fun i=>QA.enc (l.getD i (⟨0,0⟩:QB))) g) (fun i=>QA.enc (l.getD i ⟨0,0⟩)):=by
 intro i hi;show eqF 2 0 (Qi l.length (fun i=>QA.enc (l.getD i (⟨0,0⟩:QB))) g i) (QA.enc (l.getD i ⟨0,0⟩))
 have e2:Qi l.length (fun i=>QA.enc (l.getD i (⟨0,0⟩:QB))) g i=QA.enc (l.getD i ⟨0,0⟩):=by
  funext j;rw[X8,if_pos hi]
 rw[e2];exact⟨rfl,rfl,trivial⟩
theorem QCc{f:σ→(Int→Bool)→QB→Res σ}{cs:List QB}{k:Nat}(h:cs.length≤k)(s:σ)(has:Int→Bool):Jl f (cs.drop k) s has = .go s has:=by
 rw[List.drop_eq_nil_of_le h,Jl]
theorem QCn{f:σ→(Int→Bool)→QB→Res σ}{cs:List QB}{k:Nat}(h:k<cs.length)(s:σ)(has:Int→Bool):Jl f (cs.drop k) s has=match f s has (cs.getD k ⟨0,0⟩)with
  | .go s h=>Jl f (cs.drop (k+1)) s h
  | .stop s h => .stop s h:=by
 rw[List.drop_eq_getElem_cons h,Jl,List.getD_eq_getElem?_getD,List.getElem?_eq_getElem h];rfl
theorem QO6{σ:Type}{f:σ→(Int→Bool)→QB→Res σ}(hf:∀ s h c,∃ s' h',f s h c = .go s' h'):∀(l:List QB) (s:σ) (h:Int→Bool),∃ s' h',Jl f l s h = .go s' h'
 | [],s,h=>⟨s,h,rfl⟩
 | c::l,s,h=>by
  obtain⟨s',h',e⟩:=hf s h c;rw[Jl,e];exact QO6 hf l s' h'
theorem W9{σ:Type}{x:QE}{C:List (List QB)}{Y:σ→List QB→σ×Bool}(hY:∀ s l,(Y s l).2=true):∀(d:Nat) (l:List QB) (s:σ) (h:Int→Bool),∃ s' h',onT x C Y d l s h = .go s' h'
 | 0,l,s,h=>by
  rw[onT,VF];split
  ·exact⟨_,_,rfl⟩
  ·have:=hY s l;split
   ·exact⟨_,_,rfl⟩
   ·rename_i e;rw[e]at this;cases this
 | d+1,l,s,h=>by
  rw[onT];refine QO6 (fun s h c => ?_) _ s h;unfold Kl;split
  ·exact⟨_,_,rfl⟩
  ·split
   ·exact⟨_,_,rfl⟩
   ·obtain⟨s',h',e⟩:=W9 (x:=x) (C:=C) hY d (l++[c]) s (Qe c.cell true h);simp only[e];exact⟨_,_,rfl⟩
def QR(fn:Func)(k:Nat):Code×Code:=match (Km (Qs fn))[k]? with
 | some (.rangeFunc _ _ ac body)=>(ac,body)
 | _=>(.skip,.skip)
def srK(c:Nat)(x:QE)(C:List (List QB)):List AV:=JG 0 x++[.slz c 0 C.length (.of 0)]
def YZ(pb1 pb2:List Prop→Bool)(x:QE)(C:List (List QB))(l:List QB)(U:UC):Tab:=Qg (Qg Qu 78 (VH pb1 (ftU x C l))) 77 (VH pb2 U)
def jF:Ex→List Nat
 | .normal=>[0,1,2,3,4,48,49,50]
 | .exit _=>[]
 | .ret=>[5]
noncomputable def kPb(cs:List QB)(k:Nat):List Prop→Bool:=match decide (k<cs.length)with
 | true=>Qf
 | false=>fun _=>false
theorem Kn{k n:Nat}(h:k<n)(hn:n≤1000):i64.wrap ((k:Int)+1)=((k+1:Nat):Int):=(w64 (by omega) (by omega)).trans (by omega)
abbrev msN(P : Program)(T : Tab): Hnd := { hnd (mkE P T) 2 with loop := fun _ _ _ => .fail "a loop" }
theorem Xw(N M k nid:Nat)(h:N≤M+k):Ja N M nid (M+k)=nid+k:=by
 have:Nat.blt (M+k) N=false:=js (by omega)
 simp only[Ja,this];omega
theorem vl{N M:Nat}(h:i<N)(nid:Nat):Ja N M nid i=i:=by
 simp only[Ja,vY h]
structure Yh (x:QE) (C:List (List QB)):Prop where
 n:C.length=x.scans.n
 le:∀ i,(QK C i).length≤1000
 s:∀ i,∀ c∈QK C i,JQ c
theorem G6{α:Type}{l:List α}{z:α}(h:i<l.length):l.getD i z∈l:=by
 rw[List.getD_eq_getElem?_getD,List.getElem?_eq_getElem h];exact List.getElem_mem h
theorem QFp{l:List QB}(hp:0<l.length)(hl:l.length≤1000)(h:∀ c∈l,JQ c):vS l:=⟨hp,hl,fun i hi=>h _ (G6 hi)⟩
theorem QRb{l:List QB}(hl:l.length≤1000)(h:∀ c∈l,JQ c):QAg l:=⟨hl,fun i hi=>by
 have:=(h _ (G6 (z:=⟨0,0⟩) hi)).cell;omega⟩
theorem QF8{x:QE}{l:List QB}(h1:x.d.ps.n≤1000)(h2:l.length≤1000):decide (i64.wrap ((x.d.ps.n:Int)-i64.wrap ((l.length:Int)-QH l (-2)))>x.lost)=YW x l:=by
 have a1:=jm l (-2);have a2:=vo l (-2);rw[show i64.wrap ((l.length:Int)-QH l (-2))=(l.length:Int)-QH l (-2)from w64 (by omega) (by omega),show i64.wrap ((x.d.ps.n:Int)-((l.length:Int)-QH l (-2)))=(x.d.ps.n:Int)-((l.length:Int)-QH l (-2))from w64 (by omega) (by omega)]
 rfl
theorem QA5(T:Tab)(hT:QZ T)(G:Ctx)(hrd:G.rd=none):KC (mkE Try.prog T) G (msN Try.prog T) (Qs Try.f77):=
 Jj (body:=QX Try.f77 0) (QT hT) hrd (by kernel_rfl) (fun _ _ _ _ _ _ _ h _ _=>h.elim)
def noH:Int→Bool:=fun _=>false
def K3(U:UC):Tab:=Qg Qu 49 (VH pb U)
theorem QTt{q:Bool}{l:List QB}{c t:Nat}{y:QB}(h:y∈XR q l c t):y∈l∨y=⟨c,t⟩:=by
 cases q with
 | true=>simpa[XR]using h
 | false=>exact .inl h
theorem QGf{d:Puz}{s:QS}{l:List QB}{c:Nat}{y:QB}:∀{t:Nat},y∈KK d s l c t→y∈l∨∃ u,u<t∧y=⟨c,(u:Nat)⟩
 | 0,h => .inl h
 | t+1,h=>by
  simp only[KK]at h;rcases QTt h with h|h
  ·rcases QGf h with h|⟨u,h1,h2⟩
   ·exact .inl h
   ·exact .inr ⟨u,by omega,h2⟩
  ·exact .inr ⟨t,by omega,h⟩
theorem Wx{d:Puz}{s:QS}{y:QB}:∀{c:Nat},y∈KI d s c→∃ k u:Nat,k<c∧u<4∧y=⟨(k:Nat),(u:Nat)⟩
 | 0,h=>by cases h
 | c+1,h=>by
  simp only[KI]at h;rcases QGf h with h|⟨u,h1,h2⟩
  ·obtain⟨k,u,a,b,e⟩:=Wx h;exact⟨k,u,by omega,b,e⟩
  ·exact⟨c,u,by omega,h1,h2⟩
theorem QWU{x:QE}(hn:x.d.ps.n≤9){k:Nat}{y:QB}(h:y∈X4 x k):JQ y:=by
 simp only[X4,List.mem_cons]at h;rcases h with rfl|h
 ·exact⟨.inl rfl,by decide⟩
 ·obtain⟨c,u,h1,h2,rfl⟩:=Wx h;exact⟨.inr ⟨by simp only;omega,by simp only;omega⟩,by simp only;omega,by simp only;omega⟩
theorem vC{x:QE}:∀{k i:Nat},i<k→QK (Qr x k) i=X4 x i
 | k+1,i,h=>by
  rw[Qr,QFh,Ye]
  by_cases e:i<k
  ·rw[if_pos e];exact vC e
  ·have:i=k:=by omega
   subst this;rw[if_neg e,if_pos rfl]
theorem HV{C:List (List QB)}(h:C.length≤i):QK C i=[]:=by
 unfold QK;rw[List.getD_eq_getElem?_getD,List.getElem?_eq_none h];rfl
theorem QGH{x:QE}(hn:x.d.ps.n≤9):Yh x (Qr x x.scans.n):=by
 refine⟨Ye _ _,fun i => ?_,fun i c hc => ?_⟩
 ·by_cases h:i<x.scans.n
  ·rw[vC h];have:=Wt x.d (x.scans.get i) x.d.ps.n;simp only[X4,List.length_cons];omega
  ·rw[HV (by rw[Ye];omega)];simp
 ·by_cases h:i<x.scans.n
  ·rw[vC h]at hc;exact QWU hn hc
  ·rw[HV (by rw[Ye];omega)]at hc;cases hc
theorem QCF(b:Bool):zV (.int b .i64 0) noH (X0 []):=⟨rfl,fun _=>rfl,fun _=>⟨fun _=>rfl,rfl⟩⟩
theorem QJv{σ:Type}{G:σ→Prop}{f:σ→(Int→Bool)→QB→Res σ}(hf:∀ s h c s' h',G s→f s h c = .go s' h'→G s'):∀(l:List QB) (s:σ) (h:Int→Bool) {s':σ} {h':Int→Bool},G s→Jl f l s h = .go s' h'→G s'
 | [],s,h,s',h',hg,e=>by cases e;exact hg
 | c::l,s,h,s',h',hg,e=>by
  rw[Jl]at e;split at e
  ·rename_i s1 h1 e1;exact QJv hf l s1 h1 (hf _ _ _ _ _ hg e1) e
  ·cases e
theorem QCE{σ:Type}{x:QE}{C:List (List QB)}{Y:σ→List QB→σ×Bool}{G:σ→Prop}(hY:∀ s l,G s→l.length=x.scans.n→G (Y s l).1):∀(d:Nat) (l:List QB) (s:σ) (h:Int→Bool) {s':σ} {h':Int→Bool},l.length+d=x.scans.n→G s→onT x C Y d l s h = .go s' h'→G s'
 | 0,l,s,h,s',h',hn,hg,e=>by
  rw[onT,VF]at e;split at e
  ·cases e;exact hg
  ·have hy:=hY s l hg (by omega)
   split at e
   ·rename_i e1;rw[e1]at hy;cases e;exact hy
   ·cases e
 | d+1,l,s,h,s',h',hn,hg,e=>by
  rw[onT]at e;refine QJv (G:=G) (fun s h c s' h' hg e => ?_) _ s h hg e;unfold Kl at e;split at e
  ·cases e;exact hg
  ·split at e
   ·cases e;exact hg
   ·split at e
    ·rename_i e1;cases e;exact QCE hY d (l++[c]) s _ (by simp;omega) hg e1
    ·cases e
def clU:UC:=⟨0,⟨1,[(0,.slz 5 0 l.length (.of 0))],[frS 5 l],8⟩,fun m => .slz m 0 l.length (.of 0),fun m=>[rwL m l]⟩
theorem QWt:VY (mkE Try.prog Qu) (hnd (mkE Try.prog Qu) 1) Try.f56 (clU l) =
  QD.need (decide ((0:Nat)<l.length∧l.length≤l.length)) (QD.need (true&&(decide (l.length≤l.length)&&decide (((0:Nat)+l.length+((0:Nat)+l.length) / (4 :
  Nat)+(192:Nat))*(16:Nat)≤(281474976710656:Nat)∧(0:Nat)+l.length≤(9223372036854775807:Nat)))) (QD.leaf (AV.slz (48:Nat) (0:Nat) ((0:Nat)+l.length)
  (Cap.of (0:Nat))) ([((48:Nat),Blk.rowz true (56:Nat) [CK.int i64,CK.int i64] ((0:Nat)+l.length) (Qi (0:Nat) (fun x x_1=>(0:Int)) fun i=>
  QA.enc (l.getD i (QB.mk (0:Int) (0:Int)))))]))):=by kernel_rfl
theorem QQi(n:Nat)(g:Nat→Nat→Int)(l:List QB):QL 8 [.slz 48 0 n cO] [(48,.rowz true 56 [.int .i64,.int .i64] n g)] (Ku (clU l))=(
  some [(0:Nat)=(0:Nat),n=l.length,Cap.of (0:Nat)=Cap.of (0:Nat),l.length≤n,QC (2:Nat) l.length g fun i=>QA.enc (l.getD i (QB.mk (0:Int) (0:Int)))]):=by kernel_rfl
theorem QYA(m n:Nat)(f g:Nat→Nat→Int):QC m n (Qi 0 f g) g:=by
 intro i hi;have:Qi 0 f g i=g i:=by funext j;rw[X8,if_neg (Nat.not_lt_zero i),Nat.sub_zero]
 rw[this];exact ZP _ _ _
theorem QQW:(clU l).Ok:=by
 refine⟨(by decide:0≤8),rfl,rfl,?_,rfl,fun nid h => ?_,fun nid h => ?_⟩
 ·intro q hq;simp only[UC.po,clU,rwL,List.mem_cons,List.not_mem_nil,or_false]at hq;subst hq;exact⟨rfl,rfl,rfl,fun h=>absurd (show 8<0 from h) (by decide)⟩
 ·have e0:=Xw 0 8 0 nid (by decide)
  simp only[UC.va,clU,AV.mapId,Nat.add_zero]at e0 ⊢;rw[e0]
 ·have e0:=Xw 0 8 0 nid (by decide)
  simp only[UC.po,clU,rwL,List.map_cons,List.map_nil,Blk.mapId,Nat.add_zero]at e0 ⊢;rw[e0]
theorem QLu(hp:0<l.length)(hl:l.length≤1000):QP Try.prog 56 (uFC (clU l)):=by
 refine Ju (c:=Qs Try.f56) (E:=mkE Try.prog Qu) (QT KB) Try.func56 (by kernel_rfl) (by kernel_rfl) (QQW l) (fun G h1 _=>Qy (QT KB) 1 G _ h1) ⟨?_⟩
 refine Q2 (QWt l) ?_;refine QF (by simp;omega) (QF (by simp;omega) ⟨rfl,rfl,_,QQi _ _ l,?_⟩)
 repeat' first|with_reducible refine QQ ?_ ?_|exact trivial|with_reducible rfl|exact Nat.zero_add _|exact QYA _ _ _ _|omega|refine And.intro ?_ ?_
def tmS(b:Nat)(f:List QB)(moved turned:Int):List (Nat×Blk):=[(120,.cells 0 38 [.slz b 0 f.length (.of 0)]),rwL b f,(112,.cells 0 92 [.int false .i64 moved]),(104,.cells 0 92 [.int false .i64 turned])]
def tmB(b:Nat)(l f:List QB)(moved turned:Int):List (Nat×Blk):=(200,.frz [.int .i64,.int .i64] l.length fun i=>QA.enc (l.getD i ⟨0,0⟩))::tmS b f moved turned
def tmJ(l f:List QB)(n moved turned:Int)(k:Nat):JSt:=⟨44,[(0,.int false .i64 n),(2,.ptr 120 0 0),(3,.ptr 112 0 0),(4,.ptr 104 0 0),(14,.slz 200 0 l.length (.of 0)),(15,.int false .i64 l.length),(16,.int false .i64 k)],tmB 232 l f moved turned,288⟩
def tmE(n moved turned:Int):JSt:=⟨44,[(0,.int false .i64 n)],tmS 232 f moved turned,288⟩
def QON:Ex→List Nat
 | .normal=>[0,2,3,4,14,15,16]
 | .exit _=>[0]
 | .ret=>[]
def QFv:List Nat:=[120,112,104]
noncomputable abbrev Hx(l:List QB)(n:Int):List AV:=
  [.nilp,.ptr 44 0 0,vi n,.ptr 120 0 0,.ptr 112 0 0,.ptr 104 0 0,.slz 200 0 l.length cO,vi (l.length:Int),vi (i64.wrap
  ((k:Int)+1))]
noncomputable abbrev ZV:Nat×Blk:=
  (120,.cells 0 38 [.slz 232 0 f.length cO])
noncomputable abbrev QGe:Int:=
  (↑(BitVec.ofInt 64 moved ||| BitVec.ofInt 64 (i64.wrap ((1:Int)*2^min k 64))).toNat:Int)
noncomputable abbrev QAY:Nat×Blk:=
  (112,.cells 0 92 [vi (i64.wrap (QGe k moved))])
noncomputable abbrev QCu:Int:=
  (↑(BitVec.ofInt 64 turned ||| BitVec.ofInt 64 (i64.wrap ((1:Int)*2^min k 64))).toNat:Int)
noncomputable abbrev Hj:Nat×Blk:=
  (104,.cells 0 92 [vi (i64.wrap (QCu k turned))])
noncomputable abbrev Zm:Nat×Blk:=
  (200,.frz [.int .i64,.int .i64] l.length fun i=>QA.enc (l.getD i ⟨0,0⟩))
noncomputable abbrev ZA:Nat×Blk:=
  (232,.rowz true 56 [.int .i64,.int .i64] f.length fun i=>QA.enc (f.getD i ⟨0,0⟩))
noncomputable abbrev zh:Nat×Blk:=
  (104,.cells 0 92 [vi turned])
noncomputable abbrev GB:Nat×Blk:=
  (112,.cells 0 92 [vi moved])
theorem QUF(l f:List QB)(n moved turned:Int)(k:Nat)(g:Nat→Value):exec (mkE Try.prog Qu) (hnd (mkE Try.prog Qu) 3) (QX Try.f62 0) (JSt.inst (tmJ l f n moved turned k) g) (KT QFv QON) = .br (decide ((k:Int)<(l.length:Int)))
  (.need (decide ((0:Int)≤(k:Int)∧(k:Int)<(l.length:Int))&&decide (l.length≤l.length)) (.need (decide (k<l.length)) (.need (decide ((0:Int)≤(k:Int)∧(k :
  Int)<(f.length:Int))&&decide (f.length≤f.length)) (.need (decide (k<f.length)) (.br ((l.getD k ⟨0,0⟩).cell != (f.getD k ⟨0,0⟩).cell) (.need (decide ((0:Int)≤(k :
  Int))) (.need (decide ((0:Int)≤(k:Int)∧(k:Int)<(f.length:Int))&&decide (f.length≤f.length)) (.need (decide (k<f.length)) (.br (!((l.getD k ⟨0,0⟩).cell ==
  (f.getD k ⟨0,0⟩).cell&&((l.getD k ⟨0,0⟩).turn==(f.getD k ⟨0,0⟩).turn&&true))) (.need (decide ((0:Int)≤(k:Int))) (.leaf (.tup (Hx k l n)) ([(ZV f),(QAY k moved),
  (Hj k turned),(Zm l),(ZA f)]))) (.leaf (.tup (Hx k l n)) ([(ZV f),(QAY k moved),(zh turned),(Zm l),(ZA f)])))))) (.need (decide ((0:Int)≤(k:Int)∧(k :
  Int)<(f.length:Int))&&decide (f.length≤f.length)) (.need (decide (k<f.length)) (.br (!((l.getD k ⟨0,0⟩).cell==(f.getD k ⟨0,0⟩).cell&&((l.getD k ⟨0,0⟩).turn ==
  (f.getD k ⟨0,0⟩).turn&&true))) (.need (decide ((0:Int)≤(k:Int))) (.leaf (.tup (Hx k l n)) ([(ZV f),(GB moved),(Hj k turned),(Zm l),(ZA f)]))) (.leaf (.tup
  (Hx k l n)) ([(ZV f),(GB moved),(zh turned),(Zm l),(ZA f)])))))))))) (.leaf (.tup [.ptr 0 0 0,.ptr 44 0 0,vi n]) ([(ZV f),(GB moved),(zh
  turned),(ZA f)])):=by kernel_rfl
noncomputable abbrev QAp(l:List QB)(n:Int):List AV:=
  [vi n,.ptr 120 0 0,.ptr 112 0 0,.ptr 104 0 0,.slz 200 0 l.length cO,vi (l.length:Int),vi (i64.wrap ((k:Int)+1))]
abbrev QCQ(k':Nat)(l:List QB):List Prop:=
  [0=0,0=0,0=0,0=0,0=0,l.length=l.length,cO=cO,(l.length:Int)=(l.length:Int),i64.wrap ((k:Int)+1)=(k':Int),l.length ≤
  l.length,QC 2 l.length (fun i=>QA.enc (l.getD i ⟨0,0⟩)) fun i=>QA.enc (l.getD i ⟨0,0⟩),0=0,f.length=f.length,cO=cO,f.length≤f.length,QC 2
  f.length (fun i=>QA.enc (f.getD i ⟨0,0⟩)) fun i=>QA.enc (f.getD i ⟨0,0⟩)]
theorem QVl(l f:List QB)(n moved turned moved' turned':Int)(k k':Nat):QL 216 (QAp k l n) ([(ZV f),(QAY k moved),(Hj k turned),(Zm l),(ZA f)]) (tmJ l f n moved' turned' k')=(some ([n=n,0=0,0=0]++(QCQ f k k' l) ++
  [i64.wrap (QGe k moved)=moved',i64.wrap (QCu k turned)=turned'])):=by kernel_rfl
theorem QZf(l f:List QB)(n moved turned moved' turned':Int)(k k':Nat):QL 216 (QAp k l n) ([(ZV f),(QAY k moved),(zh turned),(Zm l),(ZA f)]) (tmJ l f n moved' turned' k')=(some ([n=n,0=0,0=0]++(QCQ f k k' l) ++
  [i64.wrap (QGe k moved)=moved',turned=turned'])):=by kernel_rfl
theorem QVs(l f:List QB)(n moved turned moved' turned':Int)(k k':Nat):QL 216 (QAp k l n) ([(ZV f),(GB moved),(Hj k turned),(Zm l),(ZA f)]) (tmJ l f n moved' turned' k')=(some ([n=n,0=0,0=0]++(QCQ f k k' l)++[moved =
  moved',i64.wrap (QCu k turned)=turned'])):=by kernel_rfl
theorem QZu(l f:List QB)(n moved turned moved' turned':Int)(k k':Nat):QL 216 (QAp k l n) ([(ZV f),(GB moved),(zh turned),(Zm l),(ZA f)]) (tmJ l f n moved' turned' k')=(some ([n=n,0=0,0=0]++(QCQ f k k' l)++[moved =
  moved',turned=turned'])):=by kernel_rfl
theorem QU6(n moved turned moved' turned':Int):QL 216 [AV.int false i64 n] ([((120:Nat),Blk.cells (0:Nat) (38:Nat) [AV.slz (232:Nat) (0:Nat) f.length (Cap.of (0:Nat))]),((112:Nat),Blk.cells (0:Nat) (92:Nat) [AV.int false i64 moved]),((104:Nat),Blk.cells (0:Nat) (92:Nat) [AV.int false i64 turned]),((232:Nat),Blk.rowz true (56:Nat) [CK.int i64,CK.int i64] f.length fun i=>QA.enc (f.getD i (QB.mk (0:Int) (0:Int))))]) (tmE f n moved' turned')=(
  some [n=n,(0:Nat)=(0:Nat),f.length=f.length,Cap.of (0:Nat)=Cap.of (0:Nat),f.length≤f.length,QC (2:Nat) f.length (fun i=>QA.enc (f.getD i (QB.mk (0
  : Int) (0:Int)))) fun i=>QA.enc (f.getD i (QB.mk (0:Int) (0:Int))),moved=moved',turned=turned']):=by kernel_rfl
def XD(l f:List QB)(k:Nat):Bool := !((l.getD k ⟨0,0⟩).cell==(f.getD k ⟨0,0⟩).cell&&((l.getD k ⟨0,0⟩).turn==(f.getD k ⟨0,0⟩).turn&&true))
def mvL(l f:List QB)(m:Int):Nat→Int
 | 0=>m
 | k+1=>match (l.getD k ⟨0,0⟩).cell != (f.getD k ⟨0,0⟩).cell with
  | true=>XE (mvL l f m k) k
  | false=>mvL l f m k
def tuL(l f:List QB)(m:Int):Nat→Int
 | 0=>m
 | k+1=>match XD l f k with
  | true=>XE (tuL l f m k) k
  | false=>tuL l f m k
theorem QWG(l f:List QB)(n moved turned:Int)(hl:l.length≤1000)(hf:l.length≤f.length):JJ (fun k=>tmJ l f n (mvL l f moved k) (tuL l f turned k) k) (fun k=>k≤l.length) (fun k=>l.length-k) (fun _ e J=>e = .exit 0∧J=tmE f n (mvL l f moved l.length) (tuL l f turned l.length)) 216 QON QFv (mkE Try.prog Qu) (fun _=>hnd (mkE Try.prog Qu) 3) (QX Try.f62 0):=by
 refine⟨fun k g hk=>Q2 (QUF l f n (mvL l f moved k) (tuL l f turned k) k g) ?_⟩;refine QG (fun h => ?_) (fun h => ?_)
 ·have h:k<l.length:=by have:=qdt h;omega
  have hw:=Kn h hl;refine QF (by simp;omega) (QF (by simp;omega) (QF (by simp;omega) (QF (by simp;omega) (QG (fun hc => ?_) (fun hc => ?_)))))
  ·refine QF (by simp) (QF (by simp;omega) (QF (by simp;omega) (QG (fun hd=>QF (by simp) ?_) (fun hd => ?_))))
   ·refine⟨k+1,h,by show l.length-(k+1)<l.length-k;omega,fun _ _ h=>h,rfl,rfl,_,QVl l f n (mvL l f moved k) (tuL l f turned k) (mvL l f moved (k+1)) (tuL l f turned (k+1)) k (k+1),?_⟩
    have e1:XE (mvL l f moved k) k=mvL l f moved (k+1):=by simp only[mvL,hc]
    have e2:XE (tuL l f turned k) k=tuL l f turned (k+1):=by simp only[tuL,XD,hd]
    repeat' first|with_reducible refine QQ ?_ ?_|exact trivial|with_reducible rfl|exact qlr _|exact qRr|exact hw|exact e1|exact e2|refine And.intro ?_ ?_
   ·refine⟨k+1,h,by show l.length-(k+1)<l.length-k;omega,fun _ _ h=>h,rfl,rfl,_,QZf l f n (mvL l f moved k) (tuL l f turned k) (mvL l f moved (k+1)) (tuL l f turned (k+1)) k (k+1),?_⟩
    have e1:XE (mvL l f moved k) k=mvL l f moved (k+1):=by simp only[mvL,hc]
    have e2:tuL l f turned k=tuL l f turned (k+1):=by simp only[tuL,XD,hd]
    repeat' first|with_reducible refine QQ ?_ ?_|exact trivial|with_reducible rfl|exact qlr _|exact qRr|exact hw|exact e1|exact e2|refine And.intro ?_ ?_
  ·refine QF (by simp;omega) (QF (by simp;omega) (QG (fun hd=>QF (by simp) ?_) (fun hd => ?_)))
   ·refine⟨k+1,h,by show l.length-(k+1)<l.length-k;omega,fun _ _ h=>h,rfl,rfl,_,QVs l f n (mvL l f moved k) (tuL l f turned k) (mvL l f moved (k+1)) (tuL l f turned (k+1)) k (k+1),?_⟩
    have e1:mvL l f moved k=mvL l f moved (k+1):=by simp only[mvL,hc]
    have e2:XE (tuL l f turned k) k=tuL l f turned (k+1):=by simp only[tuL,XD,hd]
    repeat' first|with_reducible refine QQ ?_ ?_|exact trivial|with_reducible rfl|exact qlr _|exact qRr|exact hw|exact e1|exact e2|refine And.intro ?_ ?_
   ·refine⟨k+1,h,by show l.length-(k+1)<l.length-k;omega,fun _ _ h=>h,rfl,rfl,_,QZu l f n (mvL l f moved k) (tuL l f turned k) (mvL l f moved (k+1)) (tuL l f turned (k+1)) k (k+1),?_⟩
    have e1:mvL l f moved k=mvL l f moved (k+1):=by simp only[mvL,hc]
    have e2:tuL l f turned k=tuL l f turned (k+1):=by simp only[tuL,XD,hd]
    repeat' first|with_reducible refine QQ ?_ ?_|exact trivial|with_reducible rfl|exact qlr _|exact qRr|exact hw|exact e1|exact e2|refine And.intro ?_ ?_
 ·have:k=l.length:=by have:=of_decide_eq_false h;omega
  subst this;refine⟨_,⟨rfl,rfl⟩,rfl,rfl,_,QU6 f n (mvL l f moved l.length) (tuL l f turned l.length) _ _,?_⟩
  repeat' first|with_reducible refine QQ ?_ ?_|exact trivial|with_reducible rfl|exact qlr _|exact qRr|refine And.intro ?_ ?_
def QCq:Tab:=Qg Qu 56 (VH pb (clU l))
abbrev tmH(P:Program)(T:Tab)(l f:List QB)(n moved turned moved' turned':Int):Hnd:={ hnd (mkE P T) 1 with loop:=fun _=>KD 216 QFv (tmJ l f n moved turned (0:Nat)) [(True,.exit 0,tmE f n moved' turned')] }
theorem QVf{T:Tab}(hT:QZ T)(l f:List QB)(n moved turned:Int)(hl:l.length≤1000)(hf:l.length≤f.length)(G:Ctx)(hrd:G.rd=none)(hG:G.n=216):KC (mkE Try.prog T) G (tmH Try.prog T l f n moved turned (mvL l f moved l.length) (tuL l f turned l.length)) (Qs Try.f62):=by
 refine Jj (body:=QX Try.f62 0) (QT hT) hrd (by kernel_rfl) ?_
 refine ZG (E:=mkE Try.prog Qu) rfl (JW (n0:=216) (QT KB) (by omega) (fun s hs=>Qy (QT KB) 3 G _ hrd) (fun s hs=>(by decide:216≤288)) ?_ (QWG l f n moved turned hl hf) (s0:=0) (Nat.zero_le _) ?_)
 ·rintro s e J ⟨_,rfl⟩;exact(by decide:216≤288)
 ·rintro e J ⟨rfl,rfl⟩;exact⟨_,List.mem_cons_self,trivial,rfl,rfl⟩
def tmU(l f:List QB)(n moved turned:Int)(f2:List QB)(moved' turned':Int):UC:=⟨128,⟨5,[(0,.int false .i64 n),(1,.slz 200 0 l.length (.of 0)),(2,.ptr 120 0 0),(3,.ptr 112 0 0),(4,.ptr 104 0 0)],tmB 208 l f moved turned,216⟩,fun _ => .int false .i64 (i64.wrap (n+1)),fun m=>tmS m f2 moved' turned'⟩
noncomputable abbrev QIB(f2:List QB)(moved':Int)(turned':Int):List (Nat×Blk):=
  [(120,.cells 0 38 [.slz 232 0 f2.length cO]),(112,.cells 0 92 [vi moved']),(104,.cells 0 92 [vi turned']),(232,.rowz true 56 [.int .i64,
  .int .i64] f2.length fun i=>QA.enc (f2.getD i ⟨0,0⟩))]
theorem QRg(l f f2:List QB)(n moved turned moved' turned':Int):VY (mkE Try.prog (QCq pb l)) (tmH Try.prog (QCq pb l) l f2 n moved turned moved' turned') Try.f62 (tmU l f n moved turned f2 moved' turned') = .br (n==0) (.need (pb ([0 =
  0,l.length=l.length,cO=cO,l.length≤l.length,QC 2 l.length (fun i=>QA.enc (l.getD i ⟨0,0⟩)) fun i=>QA.enc (l.getD i ⟨0,0⟩)])) (.ask (n=n) (.ask
  (0=0) (.ask (0=0) (.ask (0=0) (.ask (0=0) (.ask (0=0) (.ask (0=0) (.ask (0=0) (.ask (l.length=l.length) (.ask (cO=cO) (.ask ((l.length:Int) =
  (l.length:Int)) (.ask ((0:Int)=0) (.ask (l.length≤l.length) (.ask (QC 2 l.length (fun i=>QA.enc (l.getD i ⟨0,0⟩)) fun i=>QA.enc (l.getD i ⟨0,0⟩)) (.ask (0=0)
  (.ask (l.length=f2.length) (.ask (cO=cO) (.ask (f2.length≤l.length) (.ask (QC 2 f2.length (fun i=>QA.enc (l.getD i ⟨0,0⟩)) fun i=>QA.enc (f2.getD i
  ⟨0,0⟩)) (.ask (moved=moved) (.ask (turned=turned) (.asm (True) (.all (fun(g0:Nat→Value) => .leaf (.int false .i64 (i64.wrap (n+1))) ((QIB f2 moved'
  turned'))))))))))))))))))))))))))) (.ask (n=n) (.ask (0=0) (.ask (0=0) (.ask (0=0) (.ask (0=0) (.ask (0=0) (.ask (0=0) (.ask (0=0) (.ask (l.length=l.length) (.ask
  (cO=cO) (.ask ((l.length:Int)=(l.length:Int)) (.ask ((0:Int)=0) (.ask (l.length≤l.length) (.ask (QC 2 l.length (fun i=>QA.enc (l.getD i ⟨0,0⟩))
  fun i=>QA.enc (l.getD i ⟨0,0⟩)) (.ask (0=0) (.ask (f.length=f2.length) (.ask (cO=cO) (.ask (f2.length≤f.length) (.ask (QC 2 f2.length (fun i=>QA.enc
  (f.getD i ⟨0,0⟩)) fun i=>QA.enc (f2.getD i ⟨0,0⟩)) (.ask (moved=moved) (.ask (turned=turned) (.asm (True) (.all (fun(g1:Nat→Value) => .leaf (.int false .i64
  (i64.wrap (n+1))) ((QIB f2 moved' turned')))))))))))))))))))))))))):=by kernel_rfl
theorem QM0(f2:List QB)(l f:List QB)(n moved turned moved' turned':Int):QL 216 [(AV.int false i64 (i64.wrap (n+(1:Int))))] ([((120:Nat),Blk.cells (0:Nat) (38:Nat) [AV.slz (232:Nat) (0:Nat) f2.length (Cap.of (0:Nat))]),((112:Nat),Blk.cells (0:Nat) (92:Nat) [AV.int false i64 moved']),((104:Nat),Blk.cells (0:Nat) (92:Nat) [AV.int false i64 turned']),((232:Nat),Blk.rowz true (56:Nat) [CK.int i64,CK.int i64] f2.length fun i=>QA.enc (f2.getD i (QB.mk (0:Int) (0:Int))))]) (Ku (tmU l f n moved turned f2 moved' turned'))=(
  some [i64.wrap (n+(1:Int))=i64.wrap (n+(1:Int)),(0:Nat)=(0:Nat),f2.length=f2.length,Cap.of (0:Nat)=Cap.of (0:Nat),f2.length≤f2.length,
  QC (2:Nat) f2.length (fun i=>QA.enc (f2.getD i (QB.mk (0:Int) (0:Int)))) fun i=>QA.enc (f2.getD i (QB.mk (0:Int) (0:Int))),moved'=moved',turned' =
  turned']):=by kernel_rfl
theorem QWO(l f:List QB)(n moved turned:Int)(f2:List QB)(moved' turned':Int):(tmU l f n moved turned f2 moved' turned').Ok:=by
 refine⟨(by decide:128≤216),rfl,rfl,?_,rfl,fun _ _=>rfl,fun nid h => ?_⟩
 ·intro q hq;simp only[UC.po,tmU,tmS,rwL,List.mem_cons,List.not_mem_nil,or_false]at hq;rcases hq with rfl|rfl|rfl|rfl<;>refine⟨rfl,rfl,rfl,?_⟩<;>first|exact fun _=>rfl|exact fun h=>absurd (show 216<128 from h) (by decide)
 ·have e0:=Xw 128 216 0 nid (by decide)
  simp only[UC.po,tmU,tmS,rwL,List.map_cons,List.map_nil,Blk.mapId,AV.mapId,AV.mapIdL,Nat.add_zero]at e0 ⊢;rw[e0];rfl
def KE(l f:List QB):List QB:=match n==0 with
 | true=>l
 | false=>f
theorem QSP(l f:List QB)(n moved turned:Int)(hp:0<l.length)(hl:l.length≤1000)(hf:(n==0)=false→f.length=l.length):QP Try.prog 62 (uFC (tmU l f n moved turned (KE n l f) (mvL l (KE n l f) moved l.length) (tuL l (KE n l f) turned l.length))):=by
 have hT:QZ (QCq Qf l):=KB.add (QLu l hp hl)
 have hf2:l.length≤(KE n l f).length:=by
  unfold KE;split
  ·exact qlr _
  ·rename_i h;rw[hf h];exact qlr _
 have h1:(n==0)=true→KE n l f=l:=fun h=>by unfold KE;rw[h]
 have h2:(n==0)=false→KE n l f=f:=fun h=>by unfold KE;rw[h]
 refine Ju (E:=mkE Try.prog (QCq Qf l)) (QT hT) Try.func62 (by kernel_rfl) (by kernel_rfl) (QWO ..) (QVf hT l (KE n l f) n moved turned hl hf2) ⟨?_⟩
 generalize KE n l f=f2 at h1 h2;refine Q2 (QRg Qf l f f2 n moved turned _ _) ?_;refine QG (fun h=>QF (Ke.2 ?_) ?_) (fun h => ?_)
 ·repeat' first|with_reducible refine QQ ?_ ?_|exact trivial|with_reducible rfl|exact qlr _|exact qRr|refine And.intro ?_ ?_
 ·obtain rfl:=h1 h
  repeat' first|refine Qa (p:=_=_) rfl ?_|refine Qa (p:=_≤_) (qlr _) ?_|refine Qa (p:=QC _ _ _ _) (qRr) ?_
  refine KJ fun _=>KF fun g=>⟨rfl,rfl,_,QM0 f2 f2 f n moved turned _ _,?_⟩
  repeat' first|with_reducible refine QQ ?_ ?_|exact trivial|with_reducible rfl|exact qlr _|exact qRr|refine And.intro ?_ ?_
 ·obtain rfl:=h2 h
  repeat' first|refine Qa (p:=_=_) rfl ?_|refine Qa (p:=_≤_) (qlr _) ?_|refine Qa (p:=QC _ _ _ _) (qRr) ?_
  refine KJ fun _=>KF fun g=>⟨rfl,rfl,_,QM0 f2 l f2 n moved turned _ _,?_⟩
  repeat' first|with_reducible refine QQ ?_ ?_|exact trivial|with_reducible rfl|exact qlr _|exact qRr|refine And.intro ?_ ?_
end Go.Proofs.Ytbpffdkemeoajaa
