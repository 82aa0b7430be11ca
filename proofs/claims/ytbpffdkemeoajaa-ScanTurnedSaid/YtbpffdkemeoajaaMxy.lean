/- - -/
import Derived.Test.YtbpffdkemeoajaaMxx
open Go.IntKind (i64)
set_option maxRecDepth 100000
namespace Go.Proofs.Ytbpffdkemeoajaa
open Go.SX
variable {c:QC}{σ:Type}(x:QD)(l:List QC)(all has n:Int)(C:List (List QC))(k:Nat)
def opJ:JSt:=⟨50,[(1,.ptr 8 0 0),(12,.slz 2 0 x.hang.n (.of 0)),(13,.int false .i64 x.hang.n),(14,.int false .i64 k)],[(8,.cells 0 50 (JR 0 x))]++JP 0 x,40⟩
def QGk:Ex→List Nat
 | .normal=>[1,12,13,14]
 | .exit _=>[1]
 | .ret=>[2,3]
def GP:JSt:=⟨50,[(2,.nilp),(3,.int false .i64 11)],[],40⟩
def QDt:JSt:=⟨50,[(1,.ptr 8 0 0)],[(8,.cells 0 50 (JR 0 x))]++JP 0 x,40⟩
noncomputable abbrev J7:List AV:=
  [.nili,.ptr 50 0 0,.nilp,vj 11]
noncomputable abbrev Jx(x:QD):List AV:=
  [.nilp,.ptr 50 0 0,.ptr 8 0 0,.slz 2 0 x.hang.n cO,vi (x.hang.n:Int),vi (i64.wrap ((k:Int)+1))]
noncomputable abbrev QDy:Nat×Blk:=
  (8,.cells 0 50 [vi x.d.play.length,vi x.d.play.slack,vi x.d.play.loose,vi x.d.play.damp.lo,vi x.d.play.damp.hi,
  .int false .i64 x.d.wide,vi x.d.high,.bool false x.d.turn,.slz 0 0 x.d.ps.n cO,.slz 1 0 x.scans.n cO,.slz 2 0 x.hang.n cO,.int false .i64
  x.lost,vi x.foreign])
noncomputable abbrev QC6:Nat×Blk:=
  (2,.frz [.int .i64,.int .i64,.int .i64,.int .i64] x.hang.n fun i=>QA.enc (x.hang.get i))
abbrev qY:List CK:=
  [.int .i64,.int .i64,.int .i64,.int .i64,.int .i64,.int .i64,.int .i64,.int .i64,.int .i64,.int .i64,.int .i64,.int .i64,.int .i64,.int .i64,.int .i64,.int .i64,.int
  .i64,.int .i64,.int .i64,.int .i64,.int .i64,.int .i64,.int .i64,.int .i64,.int .i64,.int .i64,.int .i64,.int .i64]
noncomputable abbrev Jo:List (Nat×Blk):=
  [(QDy x),(QC6 x),(0,.frz qY x.d.ps.n fun i=>QA.enc (x.d.ps.get i)),(1,.frz qY x.scans.n fun i=>QA.enc (x.scans.get i))]
theorem QPa(g:Nat→Value):exec (mkF Try.prog VN) (hnd (mkF Try.prog VN) 0) (QZ Try.f49 0) (JSt.inst (opJ x k) g) (KW [] QGk) = .br (decide ((k:Int)<(x.hang.n:Int))) (.need (decide ((0 :
  Int)≤(k:Int)∧(k:Int)<(x.hang.n:Int))&&decide (x.hang.n≤x.hang.n)) (.need (decide (k<x.hang.n)) (.need (decide ((0:Int)≤(x.hang.get k).a∧(x.hang.get k).a <
  (x.scans.n:Int))&&decide (x.scans.n≤x.scans.n)) (.need (decide ((0:Int)≤(x.hang.get k).i∧(x.hang.get k).i<4)) (.br (decide ((x.hang.get k).i=0)) (.need (decide
  ((x.hang.get k).a.toNat<x.scans.n)) (.need (decide ((0:Int)≤(x.hang.get k).b∧(x.hang.get k).b<(x.scans.n:Int))&&decide (x.scans.n≤x.scans.n)) (.need (decide ((0 :
  Int)≤(x.hang.get k).j∧(x.hang.get k).j<4)) (.br (decide ((x.hang.get k).j=0)) (.need (decide ((x.hang.get k).b.toNat<x.scans.n)) (.need (true) (.br ((KA x.d.play
  (x.scans.get (x.hang.get k).a.toNat).up (x.scans.get (x.hang.get k).b.toNat).up).1==0) (.leaf (.tup J7) ([])) (.leaf (.tup (Jx k x)) ((Jo x)))))) (.br (decide ((x.hang.get
  k).j=1)) (.need (decide ((x.hang.get k).b.toNat<x.scans.n)) (.need (true) (.br ((KA x.d.play (x.scans.get (x.hang.get k).a.toNat).up (x.scans.get (x.hang.get
  k).b.toNat).right).1==0) (.leaf (.tup J7) ([])) (.leaf (.tup (Jx k x)) ((Jo x)))))) (.br (decide ((x.hang.get k).j=2)) (.need (decide ((x.hang.get k).b.toNat<x.scans.n))
  (.need (true) (.br ((KA x.d.play (x.scans.get (x.hang.get k).a.toNat).up (x.scans.get (x.hang.get k).b.toNat).down).1==0) (.leaf (.tup J7) ([])) (.leaf (.tup (Jx k x))
  ((Jo x)))))) (.need (decide ((x.hang.get k).b.toNat<x.scans.n)) (.need (true) (.br ((KA x.d.play (x.scans.get (x.hang.get k).a.toNat).up (x.scans.get (x.hang.get
  k).b.toNat).left).1==0) (.leaf (.tup J7) ([])) (.leaf (.tup (Jx k x)) ((Jo x)))))))))))) (.br (decide ((x.hang.get k).i=1)) (.need (decide ((x.hang.get k).a.toNat <
  x.scans.n)) (.need (decide ((0:Int)≤(x.hang.get k).b∧(x.hang.get k).b<(x.scans.n:Int))&&decide (x.scans.n≤x.scans.n)) (.need (decide ((0:Int)≤(x.hang.get k).j ∧
  (x.hang.get k).j<4)) (.br (decide ((x.hang.get k).j=0)) (.need (decide ((x.hang.get k).b.toNat<x.scans.n)) (.need (true) (.br ((KA x.d.play (x.scans.get (x.hang.get
  k).a.toNat).right (x.scans.get (x.hang.get k).b.toNat).up).1==0) (.leaf (.tup J7) ([])) (.leaf (.tup (Jx k x)) ((Jo x)))))) (.br (decide ((x.hang.get k).j=1)) (.need
  (decide ((x.hang.get k).b.toNat<x.scans.n)) (.need (true) (.br ((KA x.d.play (x.scans.get (x.hang.get k).a.toNat).right (x.scans.get (x.hang.get k).b.toNat).right).1==0)
  (.leaf (.tup J7) ([])) (.leaf (.tup (Jx k x)) ((Jo x)))))) (.br (decide ((x.hang.get k).j=2)) (.need (decide ((x.hang.get k).b.toNat<x.scans.n)) (.need (true) (.br ((KA
  x.d.play (x.scans.get (x.hang.get k).a.toNat).right (x.scans.get (x.hang.get k).b.toNat).down).1==0) (.leaf (.tup J7) ([])) (.leaf (.tup (Jx k x)) ((Jo x)))))) (.need
  (decide ((x.hang.get k).b.toNat<x.scans.n)) (.need (true) (.br ((KA x.d.play (x.scans.get (x.hang.get k).a.toNat).right (x.scans.get (x.hang.get k).b.toNat).left).1==0) (.leaf
  (.tup J7) ([])) (.leaf (.tup (Jx k x)) ((Jo x)))))))))))) (.br (decide ((x.hang.get k).i=2)) (.need (decide ((x.hang.get k).a.toNat<x.scans.n)) (.need (decide ((0:Int) ≤
  (x.hang.get k).b∧(x.hang.get k).b<(x.scans.n:Int))&&decide (x.scans.n≤x.scans.n)) (.need (decide ((0:Int)≤(x.hang.get k).j∧(x.hang.get k).j<4)) (.br (decide
  ((x.hang.get k).j=0)) (.need (decide ((x.hang.get k).b.toNat<x.scans.n)) (.need (true) (.br ((KA x.d.play (x.scans.get (x.hang.get k).a.toNat).down (x.scans.get (x.hang.get
  k).b.toNat).up).1==0) (.leaf (.tup J7) ([])) (.leaf (.tup (Jx k x)) ((Jo x)))))) (.br (decide ((x.hang.get k).j=1)) (.need (decide ((x.hang.get k).b.toNat<x.scans.n))
  (.need (true) (.br ((KA x.d.play (x.scans.get (x.hang.get k).a.toNat).down (x.scans.get (x.hang.get k).b.toNat).right).1==0) (.leaf (.tup J7) ([])) (.leaf (.tup (Jx k x))
  ((Jo x)))))) (.br (decide ((x.hang.get k).j=2)) (.need (decide ((x.hang.get k).b.toNat<x.scans.n)) (.need (true) (.br ((KA x.d.play (x.scans.get (x.hang.get k).a.toNat).down
  (x.scans.get (x.hang.get k).b.toNat).down).1==0) (.leaf (.tup J7) ([])) (.leaf (.tup (Jx k x)) ((Jo x)))))) (.need (decide ((x.hang.get k).b.toNat<x.scans.n)) (.need
  (true) (.br ((KA x.d.play (x.scans.get (x.hang.get k).a.toNat).down (x.scans.get (x.hang.get k).b.toNat).left).1==0) (.leaf (.tup J7) ([])) (.leaf (.tup (Jx k x)) ((Jo
  x)))))))))))) (.need (decide ((x.hang.get k).a.toNat<x.scans.n)) (.need (decide ((0:Int)≤(x.hang.get k).b∧(x.hang.get k).b<(x.scans.n:Int))&&decide (x.scans.n ≤
  x.scans.n)) (.need (decide ((0:Int)≤(x.hang.get k).j∧(x.hang.get k).j<4)) (.br (decide ((x.hang.get k).j=0)) (.need (decide ((x.hang.get k).b.toNat<x.scans.n)) (.need
  (true) (.br ((KA x.d.play (x.scans.get (x.hang.get k).a.toNat).left (x.scans.get (x.hang.get k).b.toNat).up).1==0) (.leaf (.tup J7) ([])) (.leaf (.tup (Jx k x)) ((Jo
  x)))))) (.br (decide ((x.hang.get k).j=1)) (.need (decide ((x.hang.get k).b.toNat<x.scans.n)) (.need (true) (.br ((KA x.d.play (x.scans.get (x.hang.get k).a.toNat).left
  (x.scans.get (x.hang.get k).b.toNat).right).1==0) (.leaf (.tup J7) ([])) (.leaf (.tup (Jx k x)) ((Jo x)))))) (.br (decide ((x.hang.get k).j=2)) (.need (decide ((x.hang.get
  k).b.toNat<x.scans.n)) (.need (true) (.br ((KA x.d.play (x.scans.get (x.hang.get k).a.toNat).left (x.scans.get (x.hang.get k).b.toNat).down).1==0) (.leaf (.tup J7) ([]))
  (.leaf (.tup (Jx k x)) ((Jo x)))))) (.need (decide ((x.hang.get k).b.toNat<x.scans.n)) (.need (true) (.br ((KA x.d.play (x.scans.get (x.hang.get k).a.toNat).left
  (x.scans.get (x.hang.get k).b.toNat).left).1==0) (.leaf (.tup J7) ([])) (.leaf (.tup (Jx k x)) ((Jo x))))))))))))))))))) (.leaf (.tup [.ptr 0 0 0,.ptr 50 0 0,.ptr 8 0 0])
  ([(QDy x),(0,.frz qY x.d.ps.n fun i=>QA.enc (x.d.ps.get i)),(1,.frz qY x.scans.n fun i=>QA.enc (x.scans.get i)),(QC6 x)])):=by kernel_rfl
theorem QT5 :QO 8 [AV.nilp,AV.int true i64 (11:Int)] ([]) GP=(
  some [(11:Int)=(11:Int)]):=by kernel_rfl
abbrev QFG:List Prop:=
  [x.d.play.slack=x.d.play.slack,x.d.play.loose=x.d.play.loose,x.d.play.damp.lo=x.d.play.damp.lo,x.d.play.damp.hi=x.d.play.damp.hi,x.d.wide=x.d.wide,x.d.high =
  x.d.high,x.d.turn=x.d.turn,0=0,x.d.ps.n=x.d.ps.n,cO=cO,0=0,x.scans.n=x.scans.n,cO=cO,0=0,x.hang.n=x.hang.n,cO=cO,
  x.lost=x.lost,x.foreign=x.foreign,x.d.ps.n≤x.d.ps.n,QE 28 x.d.ps.n (fun i=>QA.enc (x.d.ps.get i)) fun i=>QA.enc (x.d.ps.get i),x.scans.n≤x.scans.n,QE 28
  x.scans.n (fun i=>QA.enc (x.scans.get i)) fun i=>QA.enc (x.scans.get i),x.hang.n≤x.hang.n,QE 4 x.hang.n (fun i=>QA.enc (x.hang.get i)) fun i=>QA.enc
  (x.hang.get i)]
theorem QQT(k k':Nat):QO 8 [.ptr 8 0 0,.slz 2 0 x.hang.n cO,vi (x.hang.n:Int),vi (i64.wrap ((k:Int)+1))] ((Jo x)) (opJ x k')=(some ([0=0,0 =
  0,0=0,x.hang.n=x.hang.n,cO=cO,(x.hang.n:Int)=(x.hang.n:Int),i64.wrap ((k:Int)+1)=(k':Int),x.d.play.length=x.d.play.length]++(QFG
  x))):=by kernel_rfl
theorem QNl :QO 8 [.ptr 8 0 0] ([(QDy x),(0,.frz qY x.d.ps.n fun i=>QA.enc (x.d.ps.get i)),(1,.frz qY x.scans.n fun i=>QA.enc (x.scans.get i)),(QC6 x)]) (QDt x)=(some
  ([0=0,0=0,x.d.play.length=x.d.play.length]++(QFG x))):=by kernel_rfl
def Ju(s:QI)(i:Int):Edge:=match decide (i=0)with
 | true=>s.up
 | false=>match decide (i=1)with
  | true=>s.right
  | false=>match decide (i=2)with
   | true=>s.down
   | false=>s.left
def K1:Bool:=(KA x.d.play (Ju (x.scans.get (x.hang.get k).a.toNat) (x.hang.get k).i) (Ju (x.scans.get (x.hang.get k).b.toNat) (x.hang.get k).j)).1==0
def K7:Bool:=(QL (K1 x) x.hang.n 0).isSome
def opR(e:Ex)(J:JSt):Prop:=(e = .ret∧(QL (K1 x) (x.hang.n-k) k).isSome=true∧J=GP)∨(e = .exit 0∧(QL (K1 x) (x.hang.n-k) k).isSome=false∧J=QDt x)
theorem JU{x:QD}(h:x.ok=true):K6 x:=by
 simp only[QD.ok,QD.sz,QX,qbA,qdE]at h;obtain⟨⟨h1,h2,h3,h4⟩,h5,h6,h7⟩:=h;refine⟨QL9 h5,by omega,by omega,fun k hk => ?_⟩
 have hj:Ki x k=false:=by
  have:jxO x=none:=by
   cases e:jxO x with
   | none=>rfl
   | some i=>rw[e]at h7;simp[KI]at h7
  exact Zp this k (Nat.zero_le _) (by omega)
 have hs:i64.wrap ((x.scans.n:Int)-1)=(x.scans.n:Int)-1:=w64 (by omega) (by omega)
 simp only[Ki,Vk,hs,QX,Bool.or_eq_false_iff,Bool.not_eq_false',qbA,qdE]at hj;exact⟨⟨by omega,by omega⟩,by omega,by omega⟩
theorem QQc(hx:K6 x):JD (opJ x) (fun k=>k≤x.hang.n) (fun k=>x.hang.n-k) (opR x) 8 QGk [] (mkF Try.prog VN) (fun _=>hnd (mkF Try.prog VN) 0) (QZ Try.f49 0):=by
 refine⟨fun k g hk=>KF (QPa x k g) ?_⟩;have h12:=hx.n;refine QK (fun h => ?_) (fun h => ?_)
 ·have h:k<x.hang.n:=by have:=qdt h;omega
  obtain⟨m,hm⟩:∃ m,x.hang.n-k=m+1:=⟨x.hang.n-k-1,by omega⟩
  have hm':x.hang.n-(k+1)=m:=by omega
  have hw:i64.wrap ((k:Int)+1)=((k+1:Nat):Int):=(w64 (by omega) (by omega)).trans (by omega)
  obtain⟨⟨b1,b2⟩,b3,b4⟩:=hx.j k h
  have go:K1 x k=false→∀ e J,opR x (k+1) e J→opR x k e J:=fun q e J h=>by
   have hf:QL (K1 x) (x.hang.n-k) k=QL (K1 x) (x.hang.n-(k+1)) (k+1):=by rw[hm,hm',QL,q]
   unfold opR at h ⊢;rw[hf];exact h
  have stop:K1 x k=true→opR x k .ret GP:=fun q => .inl ⟨rfl,by rw[hm,QL,q];rfl,rfl⟩
  generalize hj:x.hang.get k=j at *;have na:decide (j.a.toNat<x.scans.n)=true:=by simp;omega
  have nb:decide (j.b.toNat<x.scans.n)=true:=by simp;omega
  refine QF (by simp;omega) (QF (by simp;omega) (QF (by simp;omega) (QF (by simp;omega) ?_)))
  refine QK (fun i0 => ?_) (fun i0=>QK (fun i1 => ?_) (fun i1=>QK (fun i2 => ?_) (fun i2 => ?_)))
  all_goals
   refine QF na (QF (by simp;omega) (QF (by simp;omega) ?_))
   refine QK (fun j0 => ?_) (fun j0=>QK (fun j1 => ?_) (fun j1=>QK (fun j2 => ?_) (fun j2 => ?_)))
   all_goals
    refine QF nb (QF rfl (QK (fun q => ?_) (fun q => ?_)))
    ·refine⟨_,stop ?_,rfl,rfl,_,QT5,⟨rfl,trivial⟩⟩;simp only[K1,hj,Ju, *]
    ·refine⟨k+1,by show k+1≤x.hang.n;omega,by show x.hang.n-(k+1)<x.hang.n-k;omega,go ?_,rfl,rfl,_,QQT x k (k+1),?_⟩
     ·simp only[K1,hj,Ju, *]
     ·repeat' first|exact trivial|with_reducible rfl|exact qlr _|exact qRr|exact hw|refine And.intro ?_ ?_
 ·have h:x.hang.n≤k:=by have:=of_decide_eq_false h;omega
  have hf:QL (K1 x) (x.hang.n-k) k=none:=by rw[show x.hang.n-k=0 by omega];rfl
  refine⟨_,.inr ⟨rfl,by rw[hf];rfl,rfl⟩,rfl,rfl,_,QNl x,?_⟩
  repeat' first|exact trivial|with_reducible rfl|exact qlr _|exact qRr|refine And.intro ?_ ?_
def opE(e:Int):UC:=⟨8,⟨1,[(0,.agg (JR 0 x))],JP 0 x,8⟩,fun _ => .tup [.nilp,.int false .i64 e],fun _=>[]⟩
def opO:UC:=⟨8,⟨1,[(0,.agg (JR 0 x))],JP 0 x,8⟩,fun m => .tup [.ptr m 0 0,.int true .i64 0],fun m=>srO m (m+1) x C⟩
def opX:List (Prop×Ex×JSt):=[(K7 x=true,.ret,GP),(K7 x=false,.exit 0,QDt x)]
def Z5(pb:List Prop→Bool)(x:QD)(C:List (List QC)):Tab:=Qb Qy 75 (VD pb (nsU x C))
abbrev opH(P:Program)(T:Tab)(x:QD):Hnd:={ hnd (mkE P T) 1 with loop:=fun _=>KE 8 [] (opJ x (0:Nat)) (opX x) }
abbrev QL1:List CK:=
  [.int .i64,.int .i64,.int .i64,.int .i64,.int .i64,.int .i64,.int .i64,.int .i64,.int .i64,.int .i64,.int .i64,.int .i64,.int .i64,.int .i64,.int .i64,.int .i64,.int
  .i64,.int .i64,.int .i64,.int .i64,.int .i64,.int .i64,.int .i64,.int .i64,.int .i64,.int .i64,.int .i64,.int .i64]
noncomputable abbrev QFM(x:QD):List (Nat×Blk):=
  [(48,.cells 0 125 [vi x.d.play.length,vi x.d.play.slack,vi x.d.play.loose,vi x.d.play.damp.lo,.int false .i64
  x.d.play.damp.hi,vi x.d.wide,vi x.d.high,.bool false x.d.turn,.slz 0 0 x.d.ps.n cO,.slz 1 0 x.scans.n cO,.slz 2 0 x.hang.n (Cap.of
  0),vi x.lost,vi x.foreign,.slz 49 0 C.length cO]),(0,.frz QL1 x.d.ps.n fun i=>QA.enc (x.d.ps.get i)),(1,.frz QL1 x.scans.n fun i=>
  QA.enc (x.scans.get i)),(2,.frz [.int .i64,.int .i64,.int .i64,.int .i64] x.hang.n fun i=>QA.enc (x.hang.get i)),(49,.frz2 true 38 [.int .i64,.int .i64] C.length (fun
  i=>(QN C i).length) fun i j=>QA.enc ((QN C i).getD j ⟨0,0⟩))]
theorem QLU(pb:List Prop→Bool)(x:QD)(C:List (List QC)):Vu (mkE Try.prog (Z5 pb x C)) (opH Try.prog (Z5 pb x C) x) Try.f49 (opO x C) = .need (decide (x.d.ps.n≤x.d.ps.n)&&(decide (x.scans.n≤x.scans.n)&&(decide (x.hang.n
  ≤ x.hang.n)&&true))&&decide (x.d.ps.n≤1000∧x.scans.n≤1000∧x.hang.n≤1000)) (.br (!x.ok) (.leaf (.tup [.nilp,vj 1]) ([])) (.ask (0=0) (.ask (0=0) (.ask
  (0=0) (.ask (x.hang.n=x.hang.n) (.ask (cO=cO) (.ask ((x.hang.n:Int)=(x.hang.n:Int)) (.ask ((0:Int)=0) (.ask (x.d.play.length=x.d.play.length) (.ask
  (x.d.play.slack=x.d.play.slack) (.ask (x.d.play.loose=x.d.play.loose) (.ask (x.d.play.damp.lo=x.d.play.damp.lo) (.ask (x.d.play.damp.hi=x.d.play.damp.hi) (.ask (x.d.wide =
  x.d.wide) (.ask (x.d.high=x.d.high) (.ask (x.d.turn=x.d.turn) (.ask (0=0) (.ask (x.d.ps.n=x.d.ps.n) (.ask (cO=cO) (.ask (0=0) (.ask (x.scans.n=x.scans.n)
  (.ask (cO=cO) (.ask (0=0) (.ask (x.hang.n=x.hang.n) (.ask (cO=cO) (.ask (x.lost=x.lost) (.ask (x.foreign=x.foreign) (.ask (x.d.ps.n≤x.d.ps.n)
  (.ask (QE 28 x.d.ps.n (fun i=>QA.enc (x.d.ps.get i)) fun i=>QA.enc (x.d.ps.get i)) (.ask (x.scans.n≤x.scans.n) (.ask (QE 28 x.scans.n (fun i=>QA.enc
  (x.scans.get i)) fun i=>QA.enc (x.scans.get i)) (.ask (x.hang.n≤x.hang.n) (.ask (QE 4 x.hang.n (fun i=>QA.enc (x.hang.get i)) fun i=>QA.enc (x.hang.get i)) (.both
  (.asm (K7 x=true) (.all (fun(g0:Nat→Value) => .leaf (.tup [.nilp,vi 11]) ([])))) (.asm (K7 x=false) (.all (fun(g1:Nat→Value) => .need (pb
  ([x.d.play.length=x.d.play.length,x.d.play.slack=x.d.play.slack,x.d.play.loose=x.d.play.loose,x.d.play.damp.lo=x.d.play.damp.lo,x.d.play.damp.hi=x.d.play.damp.hi,
  x.d.wide=x.d.wide,x.d.high=x.d.high,x.d.turn=x.d.turn,0=0,x.d.ps.n=x.d.ps.n,cO=cO,0=0,x.scans.n=x.scans.n,cO=cO,0=0,x.hang.n =
  x.hang.n,cO=cO,x.lost=x.lost,x.foreign=x.foreign,x.d.ps.n≤x.d.ps.n,QE 28 x.d.ps.n (fun i=>QA.enc (x.d.ps.get i)) fun i=>QA.enc (x.d.ps.get i),
  x.scans.n≤x.scans.n,QE 28 x.scans.n (fun i=>QA.enc (x.scans.get i)) fun i=>QA.enc (x.scans.get i),x.hang.n≤x.hang.n,QE 4 x.hang.n (fun i=>QA.enc
  (x.hang.get i)) fun i=>QA.enc (x.hang.get i)])) (.leaf (.tup [.ptr 48 0 0,vj 0]) ((QFM C x)))))))))))))))))))))))))))))))))))))))):=by kernel_rfl
abbrev opN(P : Program): Hnd := { hnd (mkE P Qy) 1 with loop := fun _ _ _ => .fail "a loop" }
theorem QU9:Vu (mkE Try.prog Qy) (opN Try.prog) Try.f49 (opE x 1) =
  QB.need (decide (x.d.ps.n ≤ x.d.ps.n) && (decide (x.scans.n ≤ x.scans.n) && (decide (x.hang.n ≤ x.hang.n) && true)) && decide (x.d.ps.n ≤ (1000 : Nat) ∧ x.scans.n ≤ (1000 : Nat) ∧ x.hang.n ≤ (1000 : Nat))) (QB.br (!x.ok) (QB.leaf (AV.tup [AV.nilp, AV.int true i64 (1 : Int)]) ([])) (QB.fail ("a loop"))) := by kernel_rfl
theorem QR7(e:Int):QO 8 [(AV.tup [AV.nilp,AV.int true i64 (1:Int)])] ([]) (JF (opE x e))=(
  some [(1:Int)=e]):=by kernel_rfl
theorem QP6(e:Int):QO 8 [(AV.tup [AV.nilp,AV.int false i64 (11:Int)])] ([]) (JF (opE x e))=(
  some [(11:Int)=e]):=by kernel_rfl
theorem QSK :QO 8 [(.tup [.ptr 48 0 0,vj 0])] ((QFM C x)) (JF (opO x C))=(some [0=0,0=0,(0:Int)=0,x.d.play.length=x.d.play.length,x.d.play.slack =
  x.d.play.slack,x.d.play.loose=x.d.play.loose,x.d.play.damp.lo=x.d.play.damp.lo,x.d.play.damp.hi=x.d.play.damp.hi,x.d.wide=x.d.wide,x.d.high=x.d.high,x.d.turn =
  x.d.turn,0=0,x.d.ps.n=x.d.ps.n,cO=cO,0=0,x.scans.n=x.scans.n,cO=cO,0=0,x.hang.n=x.hang.n,cO=cO,x.lost=x.lost,
  x.foreign=x.foreign,0=0,C.length=C.length,cO=cO,C.length=C.length,Ku 2 C.length (fun i=>(QN C i).length) (fun i=>(QN C i).length) (fun i j=>
  QA.enc ((QN C i).getD j ⟨0,0⟩)) fun i j=>QA.enc ((QN C i).getD j ⟨0,0⟩)]):=by kernel_rfl
theorem QG4(e:Int):(opE x e).Ok:=by
 refine⟨(by decide:8≤8),rfl,rfl,?_,rfl,fun nid h=>rfl,fun nid h=>rfl⟩
 intro q hq;simp only[UC.po,opE,List.not_mem_nil]at hq
theorem QUD:(opO x C).Ok:=by
 refine⟨(by decide:8≤8),rfl,rfl,?_,rfl,fun nid h => ?_,fun nid h => ?_⟩
 ·intro q hq;simp only[UC.po,opO,srO,Y5,List.mem_cons,List.not_mem_nil,or_false]at hq;rcases hq with rfl|rfl
  ·exact⟨rfl,rfl,rfl,fun h=>absurd (show 8<8 from h) (by decide)⟩
  ·exact⟨rfl,rfl,rfl,fun h=>absurd (show 9<8 from h) (by decide)⟩
 ·have e0:=Ws 0 nid;simp only[UC.va,opO,AV.mapId,AV.mapIdL,Nat.add_zero]at e0 ⊢;rw[e0]
 ·have e0:=Ws 0 nid;have e1:=Ws 1 nid;have l0:=qd (i:=0) (by decide) nid
  have l1:=qd (i:=1) (by decide) nid
  have l2:=qd (i:=2) (by decide) nid
  simp only[UC.po,opO,srO,Y5,JR,Qz.val,List.cons_append,List.nil_append,List.map_cons,List.map_nil,Blk.mapId,AV.mapId,AV.mapIdL,Nat.add_zero,Nat.zero_add]at e0 e1 l0 l1 l2 ⊢;rw[e0,e1,l0,l1,l2]
structure Zq (x:QD):Prop where
 d:x.d.ps.n≤1000
 s:x.scans.n≤1000
 h:x.hang.n≤1000
theorem QBu{x:QD}(hx:K6 x):QV (Z5 Qx x (Qw x x.scans.n)):=by
 have:=hx.d.n9;have:=hx.s;exact KK.add (QR6 x (by omega) (by omega))
theorem QLS{x:QD}(hx:K6 x)(G:Ctx)(hrd:G.rd=none)(hG:G.n=8):Q5 (mkE Try.prog (Z5 Qx x (Qw x x.scans.n))) G (opH Try.prog (Z5 Qx x (Qw x x.scans.n)) x) (Qq Try.f49):=by
 have hE:=QR (QBu hx);refine JT (body:=QZ Try.f49 0) hE hrd (by kernel_rfl) ?_
 refine WM (E:=mkF Try.prog VN) rfl (JX (n0:=8) (jJ qJ) (by omega) (fun s hs=>Qv (jJ qJ) 0 G _ hrd) (fun s hs=>(by decide:8≤40)) ?_ (QQc x hx) (s0:=0) (Nat.zero_le _) ?_)
 ·rintro s e J (⟨_,_,rfl⟩|⟨_,_,rfl⟩)<;>exact(by decide:8≤40)
 ·rintro e J (⟨rfl,h,rfl⟩|⟨rfl,h,rfl⟩)
  ·exact⟨_,List.mem_cons_self,h,rfl,rfl⟩
  ·exact⟨_,List.mem_cons_of_mem _ List.mem_cons_self,h,rfl,rfl⟩
theorem QND(G:Ctx)(hrd:G.rd=none):Q5 (mkE Try.prog Qy) G (opN Try.prog) (Qq Try.f49):=
 JT (body:=QZ Try.f49 0) (QR KK) hrd (by kernel_rfl) (fun _ _ _ _ _ _ _ h _ _=>h.elim)
theorem QJO(hs:Zq x)(hx:x.ok=false):QQ Try.prog 49 (uFC (opE x 1)):=by
 refine VZ (E:=mkE Try.prog Qy) (QR KK) Try.func49 (by kernel_rfl) (by kernel_rfl) (QG4 ..) (fun G h1 _=>QND G h1) ⟨?_⟩
 refine KF (QU9 x) ?_;refine QF (by simp;exact⟨hs.d,hs.s,hs.h⟩) (QK (fun h => ?_) (fun h => ?_))
 ·exact⟨rfl,rfl,_,QR7 x 1,⟨rfl,trivial⟩⟩
 ·rw[hx]at h;cases h
theorem QLM(hs:Zq x)(hx:x.ok=true)(hr:K7 x=true):QQ Try.prog 49 (uFC (opE x 11)):=by
 refine VZ (E:=mkE Try.prog (Z5 Qx x (Qw x x.scans.n))) (QR (QBu (JU hx))) Try.func49 (by kernel_rfl) (by kernel_rfl) (QG4 ..) (QLS (JU hx)) ⟨?_⟩
 generalize Qw x x.scans.n=C;refine KF (QLU Qx x C) ?_;refine QF (by simp;exact⟨hs.d,hs.s,hs.h⟩) (QK (fun h=>by rw[hx]at h;cases h) (fun h => ?_))
 repeat' first|refine Qa (p:=_=_) rfl ?_|refine Qa (p:=_≤_) (qlr _) ?_|refine Qa (p:=QE _ _ _ _) (qRr) ?_
 refine XQ (KQ fun _=>KN fun g => ?_) (KQ fun h3=>by rw[hr]at h3;cases h3)
 exact⟨rfl,rfl,_,QP6 x 11,⟨rfl,trivial⟩⟩
theorem QHU(hs:Zq x)(hx:x.ok=true)(hr:K7 x=false):QQ Try.prog 49 (uFC (opO x (Qw x x.scans.n))):=by
 refine VZ (E:=mkE Try.prog (Z5 Qx x (Qw x x.scans.n))) (QR (QBu (JU hx))) Try.func49 (by kernel_rfl) (by kernel_rfl) (QUD ..) (QLS (JU hx)) ⟨?_⟩
 generalize Qw x x.scans.n=C;refine KF (QLU Qx x C) ?_;refine QF (by simp;exact⟨hs.d,hs.s,hs.h⟩) (QK (fun h=>by rw[hx]at h;cases h) (fun h => ?_))
 repeat' first|refine Qa (p:=_=_) rfl ?_|refine Qa (p:=_≤_) (qlr _) ?_|refine Qa (p:=QE _ _ _ _) (qRr) ?_
 refine XQ (KQ fun h3=>by rw[hr]at h3;cases h3) (KQ fun _=>KN fun g => ?_)
 refine QF (JS.2 ?_) ⟨rfl,rfl,_,QSK x C,?_⟩
 ·repeat' first|exact trivial|with_reducible rfl|exact qlr _|exact qRr|exact Q0 _ _ _ _|refine And.intro ?_ ?_
 ·repeat' first|exact trivial|with_reducible rfl|exact qlr _|exact qRr|exact Q0 _ _ _ _|refine And.intro ?_ ?_
def mmB(sure may all:Int):List (Nat×Blk):=[(200,.frz [.int .i64,.int .i64] l.length fun i=>QA.enc (l.getD i ⟨0,0⟩)),(16,.cells 0 3 [.int false .i64 sure]),(24,.cells 0 3 [.int false .i64 may]),(160,.cellsR 0 3 [.int false .i64 all])]
def mmJ(n sure may all has:Int)(k:Nat):JSt:=⟨34,[(0,.int false .i64 n),(2,.ptr 16 0 0),(3,.ptr 24 0 0),(4,.ptr 160 0 0),(8,.ptr 216 0 0),(11,.slz 200 0 l.length (.of 0)),(12,.int false .i64 l.length),(13,.int false .i64 k)],[(216,.cells 0 92 [.int false .i64 has])]++mmB l sure may all,248⟩
def mmE(n sure may all has:Int):JSt:=⟨34,[(0,.int false .i64 n),(2,.ptr 16 0 0),(3,.ptr 24 0 0),(4,.ptr 160 0 0),(8,.ptr 216 0 0)],[(216,.cells 0 92 [.int false .i64 has]),(16,.cells 0 3 [.int false .i64 sure]),(24,.cells 0 3 [.int false .i64 may]),(160,.cellsR 0 3 [.int false .i64 all])],248⟩
def QMJ:Ex→List Nat
 | .normal=>[0,2,3,4,8,11,12,13]
 | .exit _=>[0,2,3,4,8]
 | .ret=>[]
noncomputable abbrev QHf(l:List QC)(n:Int):List AV:=
  [.nilp,.ptr 34 0 0,vi n,.ptr 16 0 0,.ptr 24 0 0,.ptr 160 0 0,.ptr 216 0 0,.slz 200 0 l.length cO,vi (l.length:Int),.int false .i64
  (i64.wrap ((k:Int)+1))]
noncomputable abbrev QKr(l:List QC)(may:Int)(sure:Int):List (Nat×Blk):=
  [(16,.cells 0 3 [vi sure]),(24,.cells 0 3 [vi may]),(160,.cellsR 0 3 [vi all]),(216,.cells 0 92 [vi (i64.wrap
  (↑(BitVec.ofInt 64 has ||| BitVec.ofInt 64 (i64.wrap ((1:Int)*2^min (l.getD k ⟨0,0⟩).cell.toNat 64))).toNat:Int))]),(200,.frz [.int .i64,.int .i64] l.length fun
  i=>QA.enc (l.getD i ⟨0,0⟩))]
theorem QPN(n sure may all has:Int)(k:Nat)(g:Nat→Value):exec (mkE Try.prog Qy) (hnd (mkE Try.prog Qy) 3) (QZ Try.f54 0) (JSt.inst (mmJ l n sure may all has k) g) (KW [16,24] QMJ) = .br (decide ((k:Int)<(l.length :
  Int))) (.need (decide ((0:Int)≤(k:Int)∧(k:Int)<(l.length:Int))&&decide (l.length≤l.length)) (.need (decide (k<l.length)) (.br ((l.getD k ⟨0,0⟩).cell != -2)
  (.need (decide ((0:Int)≤(l.getD k ⟨0,0⟩).cell)) (.leaf (.tup (QHf k l n)) ((QKr all has k l may sure)))) (.leaf (.tup (QHf k l n)) ([(16,.cells 0 3 [vi sure]),
  (24,.cells 0 3 [vi may]),(160,.cellsR 0 3 [vi all]),(216,.cells 0 92 [vi has]),(200,.frz [.int .i64,.int .i64] l.length fun i=>
  QA.enc (l.getD i ⟨0,0⟩))]))))) (.leaf (.tup [.ptr 0 0 0,.ptr 34 0 0,vi n,.ptr 16 0 0,.ptr 24 0 0,.ptr 160 0 0,.ptr 216 0 0]) ([(16,.cells 0 3 [.int false .i64
  sure]),(24,.cells 0 3 [vi may]),(160,.cellsR 0 3 [vi all]),(216,.cells 0 92 [vi has])])):=by kernel_rfl
abbrev QSY:List Prop:=
  [0=0,0=0,0=0,0=0,0=0]
theorem QSN(n sure may all has has':Int)(k k':Nat):QO 208 [vi n,.ptr 16 0 0,.ptr 24 0 0,.ptr 160 0 0,.ptr 216 0 0,.slz 200 0 l.length cO,vi (l.length:Int),.int false .i64
  (i64.wrap ((k:Int)+1))] ((QKr all has k l may sure)) (mmJ l n sure may all has' k')=(some ([n=n]++QSY++[0=0,0=0,0=0,0=0,l.length=l.length,
  cO=cO,(l.length:Int)=(l.length:Int),i64.wrap ((k:Int)+1)=(k':Int),i64.wrap (↑(BitVec.ofInt 64 has ||| BitVec.ofInt 64
  (i64.wrap ((1:Int)*2^min (l.getD k ⟨0,0⟩).cell.toNat 64))).toNat:Int)=has',l.length≤l.length,QE 2 l.length (fun i=>QA.enc (l.getD i ⟨0,0⟩)) fun i=>
  QA.enc (l.getD i ⟨0,0⟩),sure=sure,may=may,all=all])):=by kernel_rfl
theorem QSD(n sure may all has has':Int)(k k':Nat):QO 208 [AV.int false i64 n,AV.ptr (16:Nat) (0:Nat) (0:Nat),AV.ptr (24:Nat) (0:Nat) (0:Nat),AV.ptr (160:Nat) (0:Nat) (0:Nat),AV.ptr (216:Nat) (0:Nat) (0:Nat),AV.slz (200:Nat) (0:Nat) l.length (Cap.of (0:Nat)),AV.int false i64 (↑l.length:Int),AV.int false i64 (i64.wrap ((↑k:Int)+(1:Int)))] ([((16:Nat),Blk.cells (0:Nat) (3:Nat) [AV.int false i64 sure]),((24:Nat),Blk.cells (0:Nat) (3:Nat) [AV.int false i64 may]),((160:Nat),Blk.cellsR (0:Nat) (3:Nat) [AV.int false i64 all]),((216:Nat),Blk.cells (0:Nat) (92:Nat) [AV.int false i64 has]),((200:Nat),Blk.frz [CK.int i64,CK.int i64] l.length fun i=>QA.enc (l.getD i (QC.mk (0:Int) (0:Int))))]) (mmJ l n sure may all has' k')=(
  some [n=n,(0:Nat)=(0:Nat),(0:Nat)=(0:Nat),(0:Nat)=(0:Nat),(0:Nat)=(0:Nat),(0:Nat)=(0:Nat),(0:Nat)=(0:Nat),(0:Nat)=(0:Nat),(0 :
  Nat)=(0:Nat),(0:Nat)=(0:Nat),l.length=l.length,Cap.of (0:Nat)=Cap.of (0:Nat),(↑l.length:Int)=(↑l.length:Int),i64.wrap ((↑k:Int)+(1:Int)) =
  (↑k':Int),has=has',l.length≤l.length,QE (2:Nat) l.length (fun i=>QA.enc (l.getD i (QC.mk (0:Int) (0:Int)))) fun i=>QA.enc (l.getD i (QC.mk (0:Int)
  (0:Int))),sure=sure,may=may,all=all]):=by kernel_rfl
theorem QSl(n sure may all has has':Int):QO 208 [AV.int false i64 n,AV.ptr (16:Nat) (0:Nat) (0:Nat),AV.ptr (24:Nat) (0:Nat) (0:Nat),AV.ptr (160:Nat) (0:Nat) (0:Nat),AV.ptr (216:Nat) (0:Nat) (0:Nat)] ([((16:Nat),Blk.cells (0:Nat) (3:Nat) [AV.int false i64 sure]),((24:Nat),Blk.cells (0:Nat) (3:Nat) [AV.int false i64 may]),((160:Nat),Blk.cellsR (0:Nat) (3:Nat) [AV.int false i64 all]),((216:Nat),Blk.cells (0:Nat) (92:Nat) [AV.int false i64 has])]) (mmE n sure may all has')=(
  some [n=n,(0:Nat)=(0:Nat),(0:Nat)=(0:Nat),(0:Nat)=(0:Nat),(0:Nat)=(0:Nat),(0:Nat)=(0:Nat),(0:Nat)=(0:Nat),(0:Nat)=(0:Nat),(0 :
  Nat)=(0:Nat),has=has',sure=sure,may=may,all=all]):=by kernel_rfl
def Zd(s c:Int):Int:=i64.wrap ((BitVec.ofInt 64 s ||| BitVec.ofInt 64 (i64.wrap (1*2^min c.toNat 64))).toNat:Nat)
def GM(s:Int)(x:QC):Int:=match x.cell != -2 with
 | true=>Zd s x.cell
 | false=>s
def KL(l:List QC):Nat→Int
 | 0=>0
 | k+1=>GM (KL l k) (l.getD k ⟨0,0⟩)
structure WU (l:List QC):Prop where
 le:l.length≤1000
 s:∀ i,i<l.length→(l.getD i ⟨0,0⟩).cell = -2∨0≤(l.getD i ⟨0,0⟩).cell
theorem QSZ(n sure may all:Int)(hl:WU l):JD (fun k=>mmJ l n sure may all (KL l k) k) (fun k=>k≤l.length) (fun k=>l.length-k) (fun _ e J=>e = .exit 0∧J=mmE n sure may all (KL l l.length)) 208 QMJ [16,24] (mkE Try.prog Qy) (fun _=>hnd (mkE Try.prog Qy) 3) (QZ Try.f54 0):=by
 refine⟨fun k g hk=>KF (QPN l n sure may all (KL l k) k g) ?_⟩;have hle:=hl.le;refine QK (fun h => ?_) (fun h => ?_)
 ·have h:k<l.length:=by have:=qdt h;omega
  have hw:i64.wrap ((k:Int)+1)=((k+1:Nat):Int):=(w64 (by omega) (by omega)).trans (by omega)
  have hs:=hl.s k h;refine QF (by simp;omega) (QF (by simp;omega) (QK (fun hc=>QF ?_ ?_) (fun hc => ?_)))
  ·have:¬ (l.getD k ⟨0,0⟩).cell = -2:=by simpa using hc
   exact decide_eq_true (by omega)
  ·refine⟨k+1,h,by show l.length-(k+1)<l.length-k;omega,fun _ _ h=>h,rfl,rfl,_,QSN l n sure may all (KL l k) (KL l (k+1)) k (k+1),?_⟩
   have e:Zd (KL l k) (l.getD k ⟨0,0⟩).cell=KL l (k+1):=by simp only[KL,GM,hc]
   repeat' first|exact trivial|with_reducible rfl|exact qlr _|exact qRr|exact hw|exact e|refine And.intro ?_ ?_
  ·refine⟨k+1,h,by show l.length-(k+1)<l.length-k;omega,fun _ _ h=>h,rfl,rfl,_,QSD l n sure may all (KL l k) (KL l (k+1)) k (k+1),?_⟩
   have e:KL l k=KL l (k+1):=by simp only[KL,GM,hc]
   repeat' first|exact trivial|with_reducible rfl|exact qlr _|exact qRr|exact hw|exact e|refine And.intro ?_ ?_
 ·have:k=l.length:=by have:=of_decide_eq_false h;omega
  subst this;refine⟨_,⟨rfl,rfl⟩,rfl,rfl,_,QSl n sure may all _ _,?_⟩
  repeat' first|exact trivial|with_reducible rfl|exact qlr _|refine And.intro ?_ ?_
abbrev mmH(P:Program)(l:List QC)(n sure may all has:Int):Hnd:={ hnd (mkE P Qy) 1 with loop:=fun _=>KE 208 [16,24] (mmJ l n sure may all 0 (0:Nat)) [(True,.exit 0,mmE n sure may all has)] }
theorem QVF(n sure may all:Int)(hl:WU l)(G:Ctx)(hrd:G.rd=none)(hG:G.n=208):Q5 (mkE Try.prog Qy) G (mmH Try.prog l n sure may all (KL l l.length)) (Qq Try.f54):=by
 refine JT (body:=QZ Try.f54 0) (QR KK) hrd (by kernel_rfl) ?_
 refine JX (n0:=208) (QR KK) (by omega) (fun s hs=>Qv (QR KK) 3 G _ hrd) (fun s hs=>(by decide:208≤248)) ?_ (QSZ l n sure may all hl) (s0:=0) (Nat.zero_le _) ?_
 ·rintro s e J ⟨_,rfl⟩;exact(by decide:208≤248)
 ·rintro e J ⟨rfl,rfl⟩;exact⟨_,List.mem_cons_self,trivial,rfl,rfl⟩
def Jg(a b:Int):Int:=i64.wrap ((BitVec.ofInt 64 a &&& ~~~BitVec.ofInt 64 b).toNat:Nat)
def orN(a b:Int):Int:=i64.wrap ((BitVec.ofInt 64 a ||| BitVec.ofInt 64 b).toNat:Nat)
def mmU(n sure may all has:Int):UC:=⟨32,⟨5,[(0,.int false .i64 n),(1,.slz 200 0 l.length (.of 0)),(2,.ptr 16 0 0),(3,.ptr 24 0 0),(4,.ptr 160 0 0)],mmB l sure may all,208⟩,fun _ => .int false .i64 n,fun _=>[(16,.cells 0 3 [.int false .i64 (Jg sure has)]),(24,.cells 0 3 [.int false .i64 (orN may (Jg all has))])]⟩
theorem QSk(n sure may all has:Int):Vu (mkE Try.prog Qy) (mmH Try.prog l n sure may all has) Try.f54 (mmU l n sure may all has) =
  QB.ask (n=n) (QB.ask ((0:Nat)=(0:Nat)) (QB.ask ((0:Nat)=(0:Nat)) (QB.ask ((0:Nat)=(0:Nat)) (QB.ask ((0:Nat)=(0:Nat)) (QB.ask ((0:Nat)=(0 :
  Nat)) (QB.ask ((0:Nat)=(0:Nat)) (QB.ask ((0:Nat)=(0:Nat)) (QB.ask ((0:Nat)=(0:Nat)) (QB.ask ((0:Nat)=(0:Nat)) (QB.ask (l.length=l.length)
  (QB.ask (Cap.of (0:Nat)=Cap.of (0:Nat)) (QB.ask ((↑l.length:Int)=(↑l.length:Int)) (QB.ask ((0:Int)=(0:Int)) (QB.ask ((0:Int)=(0:Int)) (QB.ask
  (l.length≤l.length) (QB.ask (QE (2:Nat) l.length (fun i=>QA.enc (l.getD i (QC.mk (0:Int) (0:Int)))) fun i=>QA.enc (l.getD i (QC.mk (0:Int) (0:Int))))
  (QB.ask (sure=sure) (QB.ask (may=may) (QB.ask (all=all) (QB.asm (True) (QB.all (fun(g0:Nat→Value)=>QB.leaf (AV.int false i64 n) ([((16:Nat),
  Blk.cells (0:Nat) (3:Nat) [AV.int false i64 (i64.wrap (↑(BitVec.ofInt (64:Nat) sure &&& ~~~BitVec.ofInt (64:Nat) has).toNat:Int))]),((24:Nat),Blk.cells
  (0:Nat) (3:Nat) [AV.int false i64 (i64.wrap (↑(BitVec.ofInt (64:Nat) may ||| BitVec.ofInt (64:Nat) (i64.wrap (↑(BitVec.ofInt (64:Nat) all &&&
  ~~~BitVec.ofInt (64:Nat) has).toNat:Int))).toNat:Int))])]))))))))))))))))))))))):=by kernel_rfl
theorem QOF(n sure may all has:Int):QO 208 [(AV.int false i64 n)] ([((16:Nat),Blk.cells (0:Nat) (3:Nat) [AV.int false i64 (i64.wrap (↑(BitVec.ofInt (64:Nat) sure &&& ~~~BitVec.ofInt (64:Nat) has).toNat:Int))]),((24:Nat),Blk.cells (0:Nat) (3:Nat) [AV.int false i64 (i64.wrap (↑(BitVec.ofInt (64:Nat) may ||| BitVec.ofInt (64:Nat) (i64.wrap (↑(BitVec.ofInt (64:Nat) all &&& ~~~BitVec.ofInt (64:Nat) has).toNat:Int))).toNat:Int))])]) (JF (mmU l n sure may all has))=(
  some [n=n,i64.wrap (↑(BitVec.ofInt (64:Nat) sure &&& ~~~BitVec.ofInt (64:Nat) has).toNat:Int)=Jg sure has,i64.wrap (↑(BitVec.ofInt (64:Nat) may |||
  BitVec.ofInt (64:Nat) (i64.wrap (↑(BitVec.ofInt (64:Nat) all &&& ~~~BitVec.ofInt (64:Nat) has).toNat:Int))).toNat:Int)=orN may (Jg all has)]):=by kernel_rfl
theorem QPm(n sure may all:Int)(hl:WU l):QQ Try.prog 54 (uFC (mmU l n sure may all (KL l l.length))):=by
 refine VZ (E:=mkE Try.prog Qy) (QR KK) Try.func54 (by kernel_rfl) (by kernel_rfl) ?_ (QVF l n sure may all hl) ⟨?_⟩
 ·refine⟨(by decide:32≤208),rfl,rfl,?_,rfl,fun _ _=>rfl,fun _ _=>rfl⟩
  intro q hq;simp only[UC.po,mmU,List.mem_cons,List.not_mem_nil,or_false]at hq;rcases hq with rfl|rfl<;>exact⟨rfl,rfl,rfl,fun _=>rfl⟩
 refine KF (QSk l n sure may all (KL l l.length)) ?_
 repeat' first|refine QF rfl ?_|refine Qa (p:=_=_) rfl ?_|refine Qa (p:=_≤_) (qlr _) ?_|refine Qa (p:=QE _ _ _ _) (qRr) ?_
 refine KQ fun _=>KN fun g=>⟨rfl,rfl,_,QOF l n sure may all _,?_⟩
 repeat' first|exact trivial|with_reducible rfl|exact qlr _|exact qRr|exact(show _=Jg _ _ from rfl)|exact(show _=orN _ _ from rfl)|refine And.intro ?_ ?_
inductive Res (σ:Type) where
 | go (s:σ) (has:Int→Bool)
 | stop (s:σ) (has:Int→Bool)
def QM(c:Int):Int:=(l.countP fun s=>s.cell==c:Nat)
def Jp{σ:Type}(f:σ→(Int→Bool)→QC→Res σ):List QC→σ→(Int→Bool)→Res σ
 | [],s,h => .go s h
 | c::l,s,h=>match f s h c with
  | .go s h=>Jp f l s h
  | .stop s h => .stop s h
def Jy(c:QC):Bool:=decide (QM l c.cell≥(match c.cell == -2 with|true=>x.foreign|false=>1))
theorem Wx{x:QD}{l:List QC}:Jy x l c=decide (QM l c.cell≥cond (c.cell == -2) x.foreign 1):=by unfold Jy;cases c.cell == -2<;>rfl
theorem Qc:∀{a b:List Prop},Q6 a→Q6 b→Q6 (a++b)
 | [],_,_,h=>h
 | _::_,_,h,g=>⟨h.1,Qc h.2 g⟩
abbrev mkC(P:Program)(C:Tab):Env:=⟨P,C,Zz P,false,fun _=>false,true,false,false⟩
theorem QAF{C:Tab}(hC:QV C):(mkC Try.prog C).Sound:={ c:=hC,m:=jL Try.prog,mixed:=jQ }
def Yn:Bool:=decide ((x.d.ps.n:Int)-((l.length:Int)-QM l (-2))>x.lost)
def Jf(rec:σ→(Int→Bool)→QC→Res σ)(s:σ)(h:Int→Bool)(c:QC):Res σ:=match Jy x l c with
 | true => .go s h
 | false=>match JB x (l++[c])with
  | false => .go s (Qp c.cell true (Qp c.cell true h))
  | true=>match rec s (Qp c.cell true h) c with
   | .go s h => .go s (Qp c.cell true h)
   | .stop s h => .stop s (Qp c.cell true h)
def X2(Y:σ→List QC→σ×Bool)(l:List QC)(s:σ)(h:Int→Bool):Res σ:=match Yn x l with
 | true => .go s h
 | false=>match Y s l with
  | (s,true) => .go s h
  | (s,false) => .stop s h
def onT{σ:Type}(x:QD)(C:List (List QC))(Y:σ→List QC→σ×Bool):Nat→List QC→σ→(Int→Bool)→Res σ
 | 0,l,s,h=>X2 x Y l s h
 | d+1,l,s,h=>Jp (Jf x l fun s h c=>onT x C Y d (l++[c]) s h) (QN C l.length) s h
theorem Wq(c:QC)(n:Int):QM (l++[c]) n=if c.cell=n then QM l n+1 else QM l n:=by
 unfold QM;rw[List.countP_append]
 by_cases h:c.cell=n
 ·rw[if_pos h];simp[h]
 ·rw[if_neg h];simp[h]
theorem QAg:0≤QM l n:=Int.natCast_nonneg _
theorem HC:QM l n≤l.length:=by
 unfold QM;have:=List.countP_le_length (p:=fun s:QC=>s.cell==n) (l:=l);omega
abbrev XG:Int→AV:=fun c => .int false .i64 (QM l c)
theorem XC(z:Bool)(h:Int→Bool)(l:List QC):K8 (.int z .i64 0) (.int true .i64 0) h h (XG l) (XG l):=⟨fun _=>rfl,rfl,fun _=>rfl,fun _=>⟨fun _=>rfl,rfl⟩⟩
theorem QEl(z b:Bool){l:List QC}{n:Int}(hl:l.length≤1000)(hn:n=i64.wrap (QM l c.cell+1))(h:Int→Bool):K8 (.int z .i64 0) (.int true .i64 0) h h (KH c.cell (.int b .i64 n) (XG l)) (XG (l++[c])):=by
 have h1:=QAg l c.cell;have h2:=HC l c.cell;have hw:i64.wrap (QM l c.cell+1)=QM l c.cell+1:=w64 (by omega) (by omega)
 refine⟨fun _=>rfl,rfl,fun _=>rfl,fun k=>⟨fun r => ?_,rfl⟩⟩;simp only[KH]
 by_cases e:k=c.cell
 ·subst e;have q:QM (l++[c]) c.cell=QM l c.cell+1:=by rw[Wq,if_pos rfl]
  simp only[decide_true,hn,hw,XG,q];rfl
 ·have q:QM (l++[c]) k=QM l k:=by rw[Wq,if_neg (fun q=>e q.symm)]
  simp only[e,decide_false,XG,q]
theorem QMS(z b:Bool){l:List QC}{n:Int}(hl:l.length≤1000)(hn:n=i64.wrap (QM (l++[c]) c.cell-1))(h:Int→Bool):K8 (.int z .i64 0) (.int true .i64 0) h h (KH c.cell (.int b .i64 n) (XG (l++[c]))) (XG l):=by
 have h1:=QAg l c.cell;have h2:=HC l c.cell
 have hw:i64.wrap (QM (l++[c]) c.cell-1)=QM l c.cell:=by
  rw[Wq,if_pos rfl];exact(w64 (by omega) (by omega)).trans (by omega)
 refine⟨fun _=>rfl,rfl,fun _=>rfl,fun k=>⟨fun r => ?_,rfl⟩⟩;simp only[KH]
 by_cases e:k=c.cell
 ·subst e;simp only[decide_true,hn,hw];rfl
 ·have q:QM (l++[c]) k=QM l k:=by rw[Wq,if_neg (fun q=>e q.symm)]
  simp only[e,decide_false,XG,q]
theorem QFs(z b b':Bool){l:List QC}{m n:Int}(hl:l.length≤1000)(hm:n=i64.wrap (i64.wrap (QM l c.cell+1)-1))(h:Int→Bool):K8 (.int z .i64 0) (.int true .i64 0) h h (KH c.cell (.int b .i64 n) (KH c.cell (.int b' .i64 m) (XG l))) (XG l):=by
 have h1:=QAg l c.cell;have h2:=HC l c.cell;have hw:i64.wrap (QM l c.cell+1)=QM l c.cell+1:=w64 (by omega) (by omega)
 have hw2:i64.wrap (QM l c.cell+1-1)=QM l c.cell:=(w64 (by omega) (by omega)).trans (by omega)
 rw[hw,hw2]at hm;refine⟨fun _=>rfl,rfl,fun _=>rfl,fun k=>⟨fun r => ?_,rfl⟩⟩;simp only[KH]
 by_cases e:k=c.cell
 ·subst e;simp only[decide_true,hm];rfl
 ·simp only[e,decide_false]
def rwL(id:Nat)(l:List QC):Nat×Blk:=(id,.rowz true 56 [.int .i64,.int .i64] l.length fun i=>QA.enc (l.getD i ⟨0,0⟩))
theorem Gh(c:QC)(n:Nat)(hn:n=l.length):QE 2 (l++[c]).length (QP n (fun i=>QA.enc (l.getD i ⟨0,0⟩)) (QJ [[.int false .i64 c.cell,.int false .i64 c.turn]] 0)) (fun i=>QA.enc ((l++[c]).getD i ⟨0,0⟩)):=by
 subst hn;intro i hi;have hi:i<l.length+1:=by simpa using hi
 show eqF 2 0 (QP l.length (fun i=>QA.enc (l.getD i ⟨0,0⟩)) (QJ [[.int false .i64 c.cell,.int false .i64 c.turn]] 0) i) (QA.enc ((l++[c]).getD i ⟨0,0⟩))
 by_cases h:i<l.length
 ·have e:(l++[c]).getD i ⟨0,0⟩=l.getD i ⟨0,0⟩:=by
   rw[List.getD_eq_getElem?_getD,List.getD_eq_getElem?_getD,List.getElem?_append_left h]
  have e2:QP l.length (fun i=>QA.enc (l.getD i (⟨0,0⟩:QC))) (QJ [[.int false .i64 c.cell,.int false .i64 c.turn]] 0) i=QA.enc (l.getD i ⟨0,0⟩):=by
   funext j;rw[VC,if_pos h]
  rw[e,e2];exact⟨rfl,rfl,trivial⟩
 ·have q:i=l.length:=by omega
  subst q;have e:(l++[c]).getD l.length ⟨0,0⟩=c:=by simp
  have e2:QP l.length (fun i=>QA.enc (l.getD i (⟨0,0⟩:QC))) (QJ [[.int false .i64 c.cell,.int false .i64 c.turn]] 0) l.length=QJ [[.int false .i64 c.cell,.int false .i64 c.turn]] 0 0:=by
   funext j;rw[VC,if_neg h,Nat.sub_self]
  rw[e,e2];exact⟨rfl,rfl,trivial⟩
theorem QJF(c:QC):QE 2 l.length (fun i=>QA.enc ((l++[c]).getD i ⟨0,0⟩)) (fun i=>QA.enc (l.getD i ⟨0,0⟩)):=by
 intro i hi
 have e:(l++[c]).getD i ⟨0,0⟩=l.getD i ⟨0,0⟩:=by
  rw[List.getD_eq_getElem?_getD,List.getD_eq_getElem?_getD,List.getElem?_append_left hi]
 show eqF 2 0 (QA.enc ((l++[c]).getD i ⟨0,0⟩)) (QA.enc (l.getD i ⟨0,0⟩));rw[e];exact⟨rfl,rfl,trivial⟩
theorem H3(c:QC):l.length+1=(l++[c]).length:=by simp
theorem Hq(c:QC):(l++[c]).length≤l.length+1:=by simp
theorem QIA(c:QC)(hl:l.length≤1000):(i64.wrap (((l++[c]).length:Int)-1)).toNat=l.length:=by
 rw[List.length_append,List.length_singleton,w64 (by omega) (by omega)];omega
theorem QGR(hl:l.length≤1000):(i64.wrap (((l.length+1:Nat):Int)-1)).toNat=l.length:=by
 rw[w64 (by omega) (by omega)];omega
theorem QLy(g:Nat→Nat→Int):QE 2 l.length (QP l.length (fun i=>QA.enc (l.getD i (⟨0,0⟩:QC))) g) (fun i=>QA.enc (l.getD i ⟨0,0⟩)):=by
 intro i hi;show eqF 2 0 (QP l.length (fun i=>QA.enc (l.getD i (⟨0,0⟩:QC))) g i) (QA.enc (l.getD i ⟨0,0⟩))
 have e2:QP l.length (fun i=>QA.enc (l.getD i (⟨0,0⟩:QC))) g i=QA.enc (l.getD i ⟨0,0⟩):=by
  funext j;rw[VC,if_pos hi]
 rw[e2];exact⟨rfl,rfl,trivial⟩
theorem QEr{f:σ→(Int→Bool)→QC→Res σ}{cs:List QC}{k:Nat}(h:cs.length≤k)(s:σ)(has:Int→Bool):Jp f (cs.drop k) s has = .go s has:=by
 rw[List.drop_eq_nil_of_le h,Jp]
theorem QJN{f:σ→(Int→Bool)→QC→Res σ}{cs:List QC}{k:Nat}(h:k<cs.length)(s:σ)(has:Int→Bool):Jp f (cs.drop k) s has=match f s has (cs.getD k ⟨0,0⟩)with
  | .go s h=>Jp f (cs.drop (k+1)) s h
  | .stop s h => .stop s h:=by
 rw[List.drop_eq_getElem_cons h,Jp,List.getD_eq_getElem?_getD,List.getElem?_eq_getElem h];rfl
theorem QKw{σ:Type}{f:σ→(Int→Bool)→QC→Res σ}(hf:∀ s h c,∃ s' h',f s h c = .go s' h'):∀(l:List QC) (s:σ) (h:Int→Bool),∃ s' h',Jp f l s h = .go s' h'
 | [],s,h=>⟨s,h,rfl⟩
 | c::l,s,h=>by
  obtain⟨s',h',e⟩:=hf s h c;rw[Jp,e];exact QKw hf l s' h'
theorem Z1{σ:Type}{x:QD}{C:List (List QC)}{Y:σ→List QC→σ×Bool}(hY:∀ s l,(Y s l).2=true):∀(d:Nat) (l:List QC) (s:σ) (h:Int→Bool),∃ s' h',onT x C Y d l s h = .go s' h'
 | 0,l,s,h=>by
  rw[onT,X2];split
  ·exact⟨_,_,rfl⟩
  ·have:=hY s l;split
   ·exact⟨_,_,rfl⟩
   ·rename_i e;rw[e]at this;cases this
 | d+1,l,s,h=>by
  rw[onT];refine QKw (fun s h c => ?_) _ s h;unfold Jf;split
  ·exact⟨_,_,rfl⟩
  ·split
   ·exact⟨_,_,rfl⟩
   ·obtain⟨s',h',e⟩:=Z1 (x:=x) (C:=C) hY d (l++[c]) s (Qp c.cell true h);simp only[e];exact⟨_,_,rfl⟩
end Go.Proofs.Ytbpffdkemeoajaa
