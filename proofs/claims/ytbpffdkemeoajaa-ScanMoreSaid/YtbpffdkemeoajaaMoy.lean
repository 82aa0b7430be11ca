/- - -/
import Derived.Test.YtbpffdkemeoajaaMox
open Go.IntKind (i64)
set_option maxRecDepth 100000
namespace Go.Proofs.Ytbpffdkemeoajaa
open Go.SX
variable {c:QC}{σ:Type}(pb:List Prop→Bool)(x:QB)(f l:List QC)(k:Nat)(moved turned n:Int)(C:List (List QC))
def opJ:JSt:=⟨50,[(1,.ptr 8 0 0),(12,.slz 2 0 x.hang.n (.of 0)),(13,.int false .i64 x.hang.n),(14,.int false .i64 k)],[(8,.cells 0 50 (JQ 0 x))]++JN 0 x,40⟩
def QIi:Ex→List Nat
 | .normal=>[1,12,13,14]
 | .exit _=>[1]
 | .ret=>[2,3]
def HS:JSt:=⟨50,[(2,.nilp),(3,.int false .i64 11)],[],40⟩
def QCT:JSt:=⟨50,[(1,.ptr 8 0 0)],[(8,.cells 0 50 (JQ 0 x))]++JN 0 x,40⟩
noncomputable abbrev Jw:List AV:=
  [.nili,.ptr 50 0 0,.nilp,vj 11]
noncomputable abbrev Jy(x:QB):List AV:=
  [.nilp,.ptr 50 0 0,.ptr 8 0 0,.slz 2 0 x.hang.n cO,vi (x.hang.n:Int),vi (i64.wrap ((k:Int)+1))]
noncomputable abbrev QDJ:Nat×Blk:=
  (8,.cells 0 50 [vi x.d.play.length,vi x.d.play.slack,vi x.d.play.loose,vi x.d.play.damp.lo,vi x.d.play.damp.hi,
  .int false .i64 x.d.wide,vi x.d.high,.bool false x.d.turn,.slz 0 0 x.d.ps.n cO,.slz 1 0 x.scans.n cO,.slz 2 0 x.hang.n cO,.int false .i64
  x.lost,vi x.foreign])
noncomputable abbrev QDS:Nat×Blk:=
  (2,.frz [.int .i64,.int .i64,.int .i64,.int .i64] x.hang.n fun i=>QA.enc (x.hang.get i))
abbrev qx:List CK:=
  [.int .i64,.int .i64,.int .i64,.int .i64,.int .i64,.int .i64,.int .i64,.int .i64,.int .i64,.int .i64,.int .i64,.int .i64,.int .i64,.int .i64,.int .i64,.int .i64,.int
  .i64,.int .i64,.int .i64,.int .i64,.int .i64,.int .i64,.int .i64,.int .i64,.int .i64,.int .i64,.int .i64,.int .i64]
noncomputable abbrev Je:List (Nat×Blk):=
  [(QDJ x),(QDS x),(0,.frz qx x.d.ps.n fun i=>QA.enc (x.d.ps.get i)),(1,.frz qx x.scans.n fun i=>QA.enc (x.scans.get i))]
theorem QOZ(g:Nat→Value):exec (mkF Try.prog Vc) (hnd (mkF Try.prog Vc) 0) (QV Try.f49 0) (JSt.inst (opJ x k) g) (KH [] QIi) = .br (decide ((k:Int)<(x.hang.n:Int))) (.need (decide ((0 :
  Int)≤(k:Int)∧(k:Int)<(x.hang.n:Int))&&decide (x.hang.n≤x.hang.n)) (.need (decide (k<x.hang.n)) (.need (decide ((0:Int)≤(x.hang.get k).a∧(x.hang.get k).a <
  (x.scans.n:Int))&&decide (x.scans.n≤x.scans.n)) (.need (decide ((0:Int)≤(x.hang.get k).i∧(x.hang.get k).i<4)) (.br (decide ((x.hang.get k).i=0)) (.need (decide
  ((x.hang.get k).a.toNat<x.scans.n)) (.need (decide ((0:Int)≤(x.hang.get k).b∧(x.hang.get k).b<(x.scans.n:Int))&&decide (x.scans.n≤x.scans.n)) (.need (decide ((0 :
  Int)≤(x.hang.get k).j∧(x.hang.get k).j<4)) (.br (decide ((x.hang.get k).j=0)) (.need (decide ((x.hang.get k).b.toNat<x.scans.n)) (.need (true) (.br ((Q8 x.d.play
  (x.scans.get (x.hang.get k).a.toNat).up (x.scans.get (x.hang.get k).b.toNat).up).1==0) (.leaf (.tup Jw) ([])) (.leaf (.tup (Jy k x)) ((Je x)))))) (.br (decide ((x.hang.get
  k).j=1)) (.need (decide ((x.hang.get k).b.toNat<x.scans.n)) (.need (true) (.br ((Q8 x.d.play (x.scans.get (x.hang.get k).a.toNat).up (x.scans.get (x.hang.get
  k).b.toNat).right).1==0) (.leaf (.tup Jw) ([])) (.leaf (.tup (Jy k x)) ((Je x)))))) (.br (decide ((x.hang.get k).j=2)) (.need (decide ((x.hang.get k).b.toNat<x.scans.n))
  (.need (true) (.br ((Q8 x.d.play (x.scans.get (x.hang.get k).a.toNat).up (x.scans.get (x.hang.get k).b.toNat).down).1==0) (.leaf (.tup Jw) ([])) (.leaf (.tup (Jy k x))
  ((Je x)))))) (.need (decide ((x.hang.get k).b.toNat<x.scans.n)) (.need (true) (.br ((Q8 x.d.play (x.scans.get (x.hang.get k).a.toNat).up (x.scans.get (x.hang.get
  k).b.toNat).left).1==0) (.leaf (.tup Jw) ([])) (.leaf (.tup (Jy k x)) ((Je x)))))))))))) (.br (decide ((x.hang.get k).i=1)) (.need (decide ((x.hang.get k).a.toNat <
  x.scans.n)) (.need (decide ((0:Int)≤(x.hang.get k).b∧(x.hang.get k).b<(x.scans.n:Int))&&decide (x.scans.n≤x.scans.n)) (.need (decide ((0:Int)≤(x.hang.get k).j ∧
  (x.hang.get k).j<4)) (.br (decide ((x.hang.get k).j=0)) (.need (decide ((x.hang.get k).b.toNat<x.scans.n)) (.need (true) (.br ((Q8 x.d.play (x.scans.get (x.hang.get
  k).a.toNat).right (x.scans.get (x.hang.get k).b.toNat).up).1==0) (.leaf (.tup Jw) ([])) (.leaf (.tup (Jy k x)) ((Je x)))))) (.br (decide ((x.hang.get k).j=1)) (.need
  (decide ((x.hang.get k).b.toNat<x.scans.n)) (.need (true) (.br ((Q8 x.d.play (x.scans.get (x.hang.get k).a.toNat).right (x.scans.get (x.hang.get k).b.toNat).right).1==0)
  (.leaf (.tup Jw) ([])) (.leaf (.tup (Jy k x)) ((Je x)))))) (.br (decide ((x.hang.get k).j=2)) (.need (decide ((x.hang.get k).b.toNat<x.scans.n)) (.need (true) (.br ((Q8
  x.d.play (x.scans.get (x.hang.get k).a.toNat).right (x.scans.get (x.hang.get k).b.toNat).down).1==0) (.leaf (.tup Jw) ([])) (.leaf (.tup (Jy k x)) ((Je x)))))) (.need
  (decide ((x.hang.get k).b.toNat<x.scans.n)) (.need (true) (.br ((Q8 x.d.play (x.scans.get (x.hang.get k).a.toNat).right (x.scans.get (x.hang.get k).b.toNat).left).1==0) (.leaf
  (.tup Jw) ([])) (.leaf (.tup (Jy k x)) ((Je x)))))))))))) (.br (decide ((x.hang.get k).i=2)) (.need (decide ((x.hang.get k).a.toNat<x.scans.n)) (.need (decide ((0:Int) ≤
  (x.hang.get k).b∧(x.hang.get k).b<(x.scans.n:Int))&&decide (x.scans.n≤x.scans.n)) (.need (decide ((0:Int)≤(x.hang.get k).j∧(x.hang.get k).j<4)) (.br (decide
  ((x.hang.get k).j=0)) (.need (decide ((x.hang.get k).b.toNat<x.scans.n)) (.need (true) (.br ((Q8 x.d.play (x.scans.get (x.hang.get k).a.toNat).down (x.scans.get (x.hang.get
  k).b.toNat).up).1==0) (.leaf (.tup Jw) ([])) (.leaf (.tup (Jy k x)) ((Je x)))))) (.br (decide ((x.hang.get k).j=1)) (.need (decide ((x.hang.get k).b.toNat<x.scans.n))
  (.need (true) (.br ((Q8 x.d.play (x.scans.get (x.hang.get k).a.toNat).down (x.scans.get (x.hang.get k).b.toNat).right).1==0) (.leaf (.tup Jw) ([])) (.leaf (.tup (Jy k x))
  ((Je x)))))) (.br (decide ((x.hang.get k).j=2)) (.need (decide ((x.hang.get k).b.toNat<x.scans.n)) (.need (true) (.br ((Q8 x.d.play (x.scans.get (x.hang.get k).a.toNat).down
  (x.scans.get (x.hang.get k).b.toNat).down).1==0) (.leaf (.tup Jw) ([])) (.leaf (.tup (Jy k x)) ((Je x)))))) (.need (decide ((x.hang.get k).b.toNat<x.scans.n)) (.need
  (true) (.br ((Q8 x.d.play (x.scans.get (x.hang.get k).a.toNat).down (x.scans.get (x.hang.get k).b.toNat).left).1==0) (.leaf (.tup Jw) ([])) (.leaf (.tup (Jy k x)) ((Je
  x)))))))))))) (.need (decide ((x.hang.get k).a.toNat<x.scans.n)) (.need (decide ((0:Int)≤(x.hang.get k).b∧(x.hang.get k).b<(x.scans.n:Int))&&decide (x.scans.n ≤
  x.scans.n)) (.need (decide ((0:Int)≤(x.hang.get k).j∧(x.hang.get k).j<4)) (.br (decide ((x.hang.get k).j=0)) (.need (decide ((x.hang.get k).b.toNat<x.scans.n)) (.need
  (true) (.br ((Q8 x.d.play (x.scans.get (x.hang.get k).a.toNat).left (x.scans.get (x.hang.get k).b.toNat).up).1==0) (.leaf (.tup Jw) ([])) (.leaf (.tup (Jy k x)) ((Je
  x)))))) (.br (decide ((x.hang.get k).j=1)) (.need (decide ((x.hang.get k).b.toNat<x.scans.n)) (.need (true) (.br ((Q8 x.d.play (x.scans.get (x.hang.get k).a.toNat).left
  (x.scans.get (x.hang.get k).b.toNat).right).1==0) (.leaf (.tup Jw) ([])) (.leaf (.tup (Jy k x)) ((Je x)))))) (.br (decide ((x.hang.get k).j=2)) (.need (decide ((x.hang.get
  k).b.toNat<x.scans.n)) (.need (true) (.br ((Q8 x.d.play (x.scans.get (x.hang.get k).a.toNat).left (x.scans.get (x.hang.get k).b.toNat).down).1==0) (.leaf (.tup Jw) ([]))
  (.leaf (.tup (Jy k x)) ((Je x)))))) (.need (decide ((x.hang.get k).b.toNat<x.scans.n)) (.need (true) (.br ((Q8 x.d.play (x.scans.get (x.hang.get k).a.toNat).left
  (x.scans.get (x.hang.get k).b.toNat).left).1==0) (.leaf (.tup Jw) ([])) (.leaf (.tup (Jy k x)) ((Je x))))))))))))))))))) (.leaf (.tup [.ptr 0 0 0,.ptr 50 0 0,.ptr 8 0 0])
  ([(QDJ x),(0,.frz qx x.d.ps.n fun i=>QA.enc (x.d.ps.get i)),(1,.frz qx x.scans.n fun i=>QA.enc (x.scans.get i)),(QDS x)])):=by kernel_rfl
theorem QPH :QM 8 [AV.nilp,AV.int true i64 (11:Int)] ([]) HS=(
  some [(11:Int)=(11:Int)]):=by kernel_rfl
abbrev QGK:List Prop:=
  [x.d.play.slack=x.d.play.slack,x.d.play.loose=x.d.play.loose,x.d.play.damp.lo=x.d.play.damp.lo,x.d.play.damp.hi=x.d.play.damp.hi,x.d.wide=x.d.wide,x.d.high =
  x.d.high,x.d.turn=x.d.turn,0=0,x.d.ps.n=x.d.ps.n,cO=cO,0=0,x.scans.n=x.scans.n,cO=cO,0=0,x.hang.n=x.hang.n,cO=cO,
  x.lost=x.lost,x.foreign=x.foreign,x.d.ps.n≤x.d.ps.n,QE 28 x.d.ps.n (fun i=>QA.enc (x.d.ps.get i)) fun i=>QA.enc (x.d.ps.get i),x.scans.n≤x.scans.n,QE 28
  x.scans.n (fun i=>QA.enc (x.scans.get i)) fun i=>QA.enc (x.scans.get i),x.hang.n≤x.hang.n,QE 4 x.hang.n (fun i=>QA.enc (x.hang.get i)) fun i=>QA.enc
  (x.hang.get i)]
theorem QVM(k k':Nat):QM 8 [.ptr 8 0 0,.slz 2 0 x.hang.n cO,vi (x.hang.n:Int),vi (i64.wrap ((k:Int)+1))] ((Je x)) (opJ x k')=(some ([0=0,0 =
  0,0=0,x.hang.n=x.hang.n,cO=cO,(x.hang.n:Int)=(x.hang.n:Int),i64.wrap ((k:Int)+1)=(k':Int),x.d.play.length=x.d.play.length]++(QGK
  x))):=by kernel_rfl
theorem QXO :QM 8 [.ptr 8 0 0] ([(QDJ x),(0,.frz qx x.d.ps.n fun i=>QA.enc (x.d.ps.get i)),(1,.frz qx x.scans.n fun i=>QA.enc (x.scans.get i)),(QDS x)]) (QCT x)=(some
  ([0=0,0=0,x.d.play.length=x.d.play.length]++(QGK x))):=by kernel_rfl
def YT(s:QK)(i:Int):Edge:=match decide (i=0)with
 | true=>s.up
 | false=>match decide (i=1)with
  | true=>s.right
  | false=>match decide (i=2)with
   | true=>s.down
   | false=>s.left
def Vb:Bool:=(Q8 x.d.play (YT (x.scans.get (x.hang.get k).a.toNat) (x.hang.get k).i) (YT (x.scans.get (x.hang.get k).b.toNat) (x.hang.get k).j)).1==0
def K4:Bool:=(QO (Vb x) x.hang.n 0).isSome
def opR(e:Ex)(J:JSt):Prop:=(e = .ret∧(QO (Vb x) (x.hang.n-k) k).isSome=true∧J=HS)∨(e = .exit 0∧(QO (Vb x) (x.hang.n-k) k).isSome=false∧J=QCT x)
theorem VI{x:QB}(h:x.ok=true):JR x:=by
 simp only[QB.ok,QB.sz,Qa,qbA,qdE]at h;obtain⟨⟨h1,h2,h3,h4⟩,h5,h6,h7⟩:=h;refine⟨QFS h5,by omega,by omega,fun k hk => ?_⟩
 have hj:Km x k=false:=by
  have:jxO x=none:=by
   cases e:jxO x with
   | none=>rfl
   | some i=>rw[e]at h7;simp[KR]at h7
  exact Ws this k (Nat.zero_le _) (by omega)
 have hs:i64.wrap ((x.scans.n:Int)-1)=(x.scans.n:Int)-1:=w64 (by omega) (by omega)
 simp only[Km,ZW,hs,Qa,Bool.or_eq_false_iff,Bool.not_eq_false',qbA,qdE]at hj;exact⟨⟨by omega,by omega⟩,by omega,by omega⟩
theorem QOl(hx:JR x):Kz (opJ x) (fun k=>k≤x.hang.n) (fun k=>x.hang.n-k) (opR x) 8 QIi [] (mkF Try.prog Vc) (fun _=>hnd (mkF Try.prog Vc) 0) (QV Try.f49 0):=by
 refine⟨fun k g hk=>Q5 (QOZ x k g) ?_⟩;have h12:=hx.n;refine QI (fun h => ?_) (fun h => ?_)
 ·have h:k<x.hang.n:=by have:=qdt h;omega
  obtain⟨m,hm⟩:∃ m,x.hang.n-k=m+1:=⟨x.hang.n-k-1,by omega⟩
  have hm':x.hang.n-(k+1)=m:=by omega
  have hw:i64.wrap ((k:Int)+1)=((k+1:Nat):Int):=(w64 (by omega) (by omega)).trans (by omega)
  obtain⟨⟨b1,b2⟩,b3,b4⟩:=hx.j k h
  have go:Vb x k=false→∀ e J,opR x (k+1) e J→opR x k e J:=fun q e J h=>by
   have hf:QO (Vb x) (x.hang.n-k) k=QO (Vb x) (x.hang.n-(k+1)) (k+1):=by rw[hm,hm',QO,q]
   unfold opR at h ⊢;rw[hf];exact h
  have stop:Vb x k=true→opR x k .ret HS:=fun q => .inl ⟨rfl,by rw[hm,QO,q];rfl,rfl⟩
  generalize hj:x.hang.get k=j at *;have na:decide (j.a.toNat<x.scans.n)=true:=by simp;omega
  have nb:decide (j.b.toNat<x.scans.n)=true:=by simp;omega
  refine QG (by simp;omega) (QG (by simp;omega) (QG (by simp;omega) (QG (by simp;omega) ?_)))
  refine QI (fun i0 => ?_) (fun i0=>QI (fun i1 => ?_) (fun i1=>QI (fun i2 => ?_) (fun i2 => ?_)))
  all_goals
   refine QG na (QG (by simp;omega) (QG (by simp;omega) ?_))
   refine QI (fun j0 => ?_) (fun j0=>QI (fun j1 => ?_) (fun j1=>QI (fun j2 => ?_) (fun j2 => ?_)))
   all_goals
    refine QG nb (QG rfl (QI (fun q => ?_) (fun q => ?_)))
    ·refine⟨_,stop ?_,rfl,rfl,_,QPH,⟨rfl,trivial⟩⟩;simp only[Vb,hj,YT, *]
    ·refine⟨k+1,by show k+1≤x.hang.n;omega,by show x.hang.n-(k+1)<x.hang.n-k;omega,go ?_,rfl,rfl,_,QVM x k (k+1),?_⟩
     ·simp only[Vb,hj,YT, *]
     ·repeat' first|exact trivial|with_reducible rfl|exact qlr _|exact qRr|exact hw|refine And.intro ?_ ?_
 ·have h:x.hang.n≤k:=by have:=of_decide_eq_false h;omega
  have hf:QO (Vb x) (x.hang.n-k) k=none:=by rw[show x.hang.n-k=0 by omega];rfl
  refine⟨_,.inr ⟨rfl,by rw[hf];rfl,rfl⟩,rfl,rfl,_,QXO x,?_⟩
  repeat' first|exact trivial|with_reducible rfl|exact qlr _|exact qRr|refine And.intro ?_ ?_
def opE(e:Int):UC:=⟨8,⟨1,[(0,.agg (JQ 0 x))],JN 0 x,8⟩,fun _ => .tup [.nilp,.int false .i64 e],fun _=>[]⟩
def opO:UC:=⟨8,⟨1,[(0,.agg (JQ 0 x))],JN 0 x,8⟩,fun m => .tup [.ptr m 0 0,.int true .i64 0],fun m=>srO m (m+1) x C⟩
def opX:List (Prop×Ex×JSt):=[(K4 x=true,.ret,HS),(K4 x=false,.exit 0,QCT x)]
def WZ:Tab:=Qh Qu 75 (J1 pb (nsU x C))
abbrev opH(P:Program)(T:Tab)(x:QB):Hnd:={ hnd (mkE P T) 1 with loop:=fun _=>KD 8 [] (opJ x (0:Nat)) (opX x) }
abbrev QHe:List CK:=
  [.int .i64,.int .i64,.int .i64,.int .i64,.int .i64,.int .i64,.int .i64,.int .i64,.int .i64,.int .i64,.int .i64,.int .i64,.int .i64,.int .i64,.int .i64,.int .i64,.int
  .i64,.int .i64,.int .i64,.int .i64,.int .i64,.int .i64,.int .i64,.int .i64,.int .i64,.int .i64,.int .i64,.int .i64]
noncomputable abbrev QGp(x:QB):List (Nat×Blk):=
  [(48,.cells 0 125 [vi x.d.play.length,vi x.d.play.slack,vi x.d.play.loose,vi x.d.play.damp.lo,.int false .i64
  x.d.play.damp.hi,vi x.d.wide,vi x.d.high,.bool false x.d.turn,.slz 0 0 x.d.ps.n cO,.slz 1 0 x.scans.n cO,.slz 2 0 x.hang.n (Cap.of
  0),vi x.lost,vi x.foreign,.slz 49 0 C.length cO]),(0,.frz QHe x.d.ps.n fun i=>QA.enc (x.d.ps.get i)),(1,.frz QHe x.scans.n fun i=>
  QA.enc (x.scans.get i)),(2,.frz [.int .i64,.int .i64,.int .i64,.int .i64] x.hang.n fun i=>QA.enc (x.hang.get i)),(49,.frz2 true 38 [.int .i64,.int .i64] C.length (fun
  i=>(QN C i).length) fun i j=>QA.enc ((QN C i).getD j ⟨0,0⟩))]
theorem QGk :VY (mkE Try.prog (WZ pb x C)) (opH Try.prog (WZ pb x C) x) Try.f49 (opO x C) = .need (decide (x.d.ps.n≤x.d.ps.n)&&(decide (x.scans.n≤x.scans.n)&&(decide (x.hang.n
  ≤ x.hang.n)&&true))&&decide (x.d.ps.n≤1000∧x.scans.n≤1000∧x.hang.n≤1000)) (.br (!x.ok) (.leaf (.tup [.nilp,vj 1]) ([])) (.ask (0=0) (.ask (0=0) (.ask
  (0=0) (.ask (x.hang.n=x.hang.n) (.ask (cO=cO) (.ask ((x.hang.n:Int)=(x.hang.n:Int)) (.ask ((0:Int)=0) (.ask (x.d.play.length=x.d.play.length) (.ask
  (x.d.play.slack=x.d.play.slack) (.ask (x.d.play.loose=x.d.play.loose) (.ask (x.d.play.damp.lo=x.d.play.damp.lo) (.ask (x.d.play.damp.hi=x.d.play.damp.hi) (.ask (x.d.wide =
  x.d.wide) (.ask (x.d.high=x.d.high) (.ask (x.d.turn=x.d.turn) (.ask (0=0) (.ask (x.d.ps.n=x.d.ps.n) (.ask (cO=cO) (.ask (0=0) (.ask (x.scans.n=x.scans.n)
  (.ask (cO=cO) (.ask (0=0) (.ask (x.hang.n=x.hang.n) (.ask (cO=cO) (.ask (x.lost=x.lost) (.ask (x.foreign=x.foreign) (.ask (x.d.ps.n≤x.d.ps.n)
  (.ask (QE 28 x.d.ps.n (fun i=>QA.enc (x.d.ps.get i)) fun i=>QA.enc (x.d.ps.get i)) (.ask (x.scans.n≤x.scans.n) (.ask (QE 28 x.scans.n (fun i=>QA.enc
  (x.scans.get i)) fun i=>QA.enc (x.scans.get i)) (.ask (x.hang.n≤x.hang.n) (.ask (QE 4 x.hang.n (fun i=>QA.enc (x.hang.get i)) fun i=>QA.enc (x.hang.get i)) (.both
  (.asm (K4 x=true) (.all (fun(g0:Nat→Value) => .leaf (.tup [.nilp,vi 11]) ([])))) (.asm (K4 x=false) (.all (fun(g1:Nat→Value) => .need (pb
  ([x.d.play.length=x.d.play.length,x.d.play.slack=x.d.play.slack,x.d.play.loose=x.d.play.loose,x.d.play.damp.lo=x.d.play.damp.lo,x.d.play.damp.hi=x.d.play.damp.hi,
  x.d.wide=x.d.wide,x.d.high=x.d.high,x.d.turn=x.d.turn,0=0,x.d.ps.n=x.d.ps.n,cO=cO,0=0,x.scans.n=x.scans.n,cO=cO,0=0,x.hang.n =
  x.hang.n,cO=cO,x.lost=x.lost,x.foreign=x.foreign,x.d.ps.n≤x.d.ps.n,QE 28 x.d.ps.n (fun i=>QA.enc (x.d.ps.get i)) fun i=>QA.enc (x.d.ps.get i),
  x.scans.n≤x.scans.n,QE 28 x.scans.n (fun i=>QA.enc (x.scans.get i)) fun i=>QA.enc (x.scans.get i),x.hang.n≤x.hang.n,QE 4 x.hang.n (fun i=>QA.enc
  (x.hang.get i)) fun i=>QA.enc (x.hang.get i)])) (.leaf (.tup [.ptr 48 0 0,vj 0]) ((QGp C x)))))))))))))))))))))))))))))))))))))))):=by kernel_rfl
abbrev opN(P : Program): Hnd := { hnd (mkE P Qu) 1 with loop := fun _ _ _ => .fail "a loop" }
theorem QQ3:VY (mkE Try.prog Qu) (opN Try.prog) Try.f49 (opE x 1) =
  QD.need (decide (x.d.ps.n ≤ x.d.ps.n) && (decide (x.scans.n ≤ x.scans.n) && (decide (x.hang.n ≤ x.hang.n) && true)) && decide (x.d.ps.n ≤ (1000 : Nat) ∧ x.scans.n ≤ (1000 : Nat) ∧ x.hang.n ≤ (1000 : Nat))) (QD.br (!x.ok) (QD.leaf (AV.tup [AV.nilp, AV.int true i64 (1 : Int)]) ([])) (QD.fail ("a loop"))) := by kernel_rfl
theorem QST(e:Int):QM 8 [(AV.tup [AV.nilp,AV.int true i64 (1:Int)])] ([]) (K8 (opE x e))=(
  some [(1:Int)=e]):=by kernel_rfl
theorem QTX(e:Int):QM 8 [(AV.tup [AV.nilp,AV.int false i64 (11:Int)])] ([]) (K8 (opE x e))=(
  some [(11:Int)=e]):=by kernel_rfl
theorem QOD :QM 8 [(.tup [.ptr 48 0 0,vj 0])] ((QGp C x)) (K8 (opO x C))=(some [0=0,0=0,(0:Int)=0,x.d.play.length=x.d.play.length,x.d.play.slack =
  x.d.play.slack,x.d.play.loose=x.d.play.loose,x.d.play.damp.lo=x.d.play.damp.lo,x.d.play.damp.hi=x.d.play.damp.hi,x.d.wide=x.d.wide,x.d.high=x.d.high,x.d.turn =
  x.d.turn,0=0,x.d.ps.n=x.d.ps.n,cO=cO,0=0,x.scans.n=x.scans.n,cO=cO,0=0,x.hang.n=x.hang.n,cO=cO,x.lost=x.lost,
  x.foreign=x.foreign,0=0,C.length=C.length,cO=cO,C.length=C.length,Kv 2 C.length (fun i=>(QN C i).length) (fun i=>(QN C i).length) (fun i j=>
  QA.enc ((QN C i).getD j ⟨0,0⟩)) fun i j=>QA.enc ((QN C i).getD j ⟨0,0⟩)]):=by kernel_rfl
theorem QGQ(e:Int):(opE x e).Ok:=by
 refine⟨(by decide:8≤8),rfl,rfl,?_,rfl,fun nid h=>rfl,fun nid h=>rfl⟩
 intro q hq;simp only[UC.po,opE,List.not_mem_nil]at hq
theorem QPX:(opO x C).Ok:=by
 refine⟨(by decide:8≤8),rfl,rfl,?_,rfl,fun nid h => ?_,fun nid h => ?_⟩
 ·intro q hq;simp only[UC.po,opO,srO,ZY,List.mem_cons,List.not_mem_nil,or_false]at hq;rcases hq with rfl|rfl
  ·exact⟨rfl,rfl,rfl,fun h=>absurd (show 8<8 from h) (by decide)⟩
  ·exact⟨rfl,rfl,rfl,fun h=>absurd (show 9<8 from h) (by decide)⟩
 ·have e0:=qu 0 nid;simp only[UC.va,opO,AV.mapId,AV.mapIdL,Nat.add_zero]at e0 ⊢;rw[e0]
 ·have e0:=qu 0 nid;have e1:=qu 1 nid;have l0:=qb (i:=0) (by decide) nid
  have l1:=qb (i:=1) (by decide) nid
  have l2:=qb (i:=2) (by decide) nid
  simp only[UC.po,opO,srO,ZY,JQ,Q4.val,List.cons_append,List.nil_append,List.map_cons,List.map_nil,Blk.mapId,AV.mapId,AV.mapIdL,Nat.add_zero,Nat.zero_add]at e0 e1 l0 l1 l2 ⊢;rw[e0,e1,l0,l1,l2]
structure ZQ (x:QB):Prop where
 d:x.d.ps.n≤1000
 s:x.scans.n≤1000
 h:x.hang.n≤1000
theorem QBm{x:QB}(hx:JR x):QW (WZ Qt x (Qz x x.scans.n)):=by
 have:=hx.d.n9;have:=hx.s;exact KL.add (QOa x (by omega) (by omega))
theorem QGB{x:QB}(hx:JR x)(G:Ctx)(hrd:G.rd=none)(hG:G.n=8):Q9 (mkE Try.prog (WZ Qt x (Qz x x.scans.n))) G (opH Try.prog (WZ Qt x (Qz x x.scans.n)) x) (Qr Try.f49):=by
 have hE:=QT (QBm hx);refine JM (body:=QV Try.f49 0) hE hrd (by kernel_rfl) ?_
 refine ZM (E:=mkF Try.prog Vc) rfl (JE (n0:=8) (ZR qn) (by omega) (fun s hs=>Q0 (ZR qn) 0 G _ hrd) (fun s hs=>(by decide:8≤40)) ?_ (QOl x hx) (s0:=0) (Nat.zero_le _) ?_)
 ·rintro s e J (⟨_,_,rfl⟩|⟨_,_,rfl⟩)<;>exact(by decide:8≤40)
 ·rintro e J (⟨rfl,h,rfl⟩|⟨rfl,h,rfl⟩)
  ·exact⟨_,List.mem_cons_self,h,rfl,rfl⟩
  ·exact⟨_,List.mem_cons_of_mem _ List.mem_cons_self,h,rfl,rfl⟩
theorem QQW(G:Ctx)(hrd:G.rd=none):Q9 (mkE Try.prog Qu) G (opN Try.prog) (Qr Try.f49):=
 JM (body:=QV Try.f49 0) (QT KL) hrd (by kernel_rfl) (fun _ _ _ _ _ _ _ h _ _=>h.elim)
theorem QFk(hs:ZQ x)(hx:x.ok=false):QQ Try.prog 49 (uFC (opE x 1)):=by
 refine VL (E:=mkE Try.prog Qu) (QT KL) Try.func49 (by kernel_rfl) (by kernel_rfl) (QGQ ..) (fun G h1 _=>QQW G h1) ⟨?_⟩
 refine Q5 (QQ3 x) ?_;refine QG (by simp;exact⟨hs.d,hs.s,hs.h⟩) (QI (fun h => ?_) (fun h => ?_))
 ·exact⟨rfl,rfl,_,QST x 1,⟨rfl,trivial⟩⟩
 ·rw[hx]at h;cases h
theorem QFo(hs:ZQ x)(hx:x.ok=true)(hr:K4 x=true):QQ Try.prog 49 (uFC (opE x 11)):=by
 refine VL (E:=mkE Try.prog (WZ Qt x (Qz x x.scans.n))) (QT (QBm (VI hx))) Try.func49 (by kernel_rfl) (by kernel_rfl) (QGQ ..) (QGB (VI hx)) ⟨?_⟩
 generalize Qz x x.scans.n=C;refine Q5 (QGk Qt x C) ?_;refine QG (by simp;exact⟨hs.d,hs.s,hs.h⟩) (QI (fun h=>by rw[hx]at h;cases h) (fun h => ?_))
 repeat' first|refine QU (p:=_=_) rfl ?_|refine QU (p:=_≤_) (qlr _) ?_|refine QU (p:=QE _ _ _ _) (qRr) ?_
 refine X0 (KB fun _=>KE fun g => ?_) (KB fun h3=>by rw[hr]at h3;cases h3)
 exact⟨rfl,rfl,_,QTX x 11,⟨rfl,trivial⟩⟩
theorem QCI(hs:ZQ x)(hx:x.ok=true)(hr:K4 x=false):QQ Try.prog 49 (uFC (opO x (Qz x x.scans.n))):=by
 refine VL (E:=mkE Try.prog (WZ Qt x (Qz x x.scans.n))) (QT (QBm (VI hx))) Try.func49 (by kernel_rfl) (by kernel_rfl) (QPX ..) (QGB (VI hx)) ⟨?_⟩
 generalize Qz x x.scans.n=C;refine Q5 (QGk Qt x C) ?_;refine QG (by simp;exact⟨hs.d,hs.s,hs.h⟩) (QI (fun h=>by rw[hx]at h;cases h) (fun h => ?_))
 repeat' first|refine QU (p:=_=_) rfl ?_|refine QU (p:=_≤_) (qlr _) ?_|refine QU (p:=QE _ _ _ _) (qRr) ?_
 refine X0 (KB fun h3=>by rw[hr]at h3;cases h3) (KB fun _=>KE fun g => ?_)
 refine QG (JA.2 ?_) ⟨rfl,rfl,_,QOD x C,?_⟩
 ·repeat' first|exact trivial|with_reducible rfl|exact qlr _|exact qRr|exact Qo _ _ _ _|refine And.intro ?_ ?_
 ·repeat' first|exact trivial|with_reducible rfl|exact qlr _|exact qRr|exact Qo _ _ _ _|refine And.intro ?_ ?_
def VN(s c:Int):Int:=i64.wrap ((BitVec.ofInt 64 s ||| BitVec.ofInt 64 (i64.wrap (1*2^min c.toNat 64))).toNat:Nat)
structure G2 (l:List QC):Prop where
 le:l.length≤1000
 s:∀ i,i<l.length→(l.getD i ⟨0,0⟩).cell = -2∨0≤(l.getD i ⟨0,0⟩).cell
inductive Res (σ:Type) where
 | go (s:σ) (has:Int→Bool)
 | stop (s:σ) (has:Int→Bool)
def QP(c:Int):Int:=(l.countP fun s=>s.cell==c:Nat)
def Ji{σ:Type}(f:σ→(Int→Bool)→QC→Res σ):List QC→σ→(Int→Bool)→Res σ
 | [],s,h => .go s h
 | c::l,s,h=>match f s h c with
  | .go s h=>Ji f l s h
  | .stop s h => .stop s h
def Jt(c:QC):Bool:=decide (QP l c.cell≥(match c.cell == -2 with|true=>x.foreign|false=>1))
theorem W9{x:QB}{l:List QC}:Jt x l c=decide (QP l c.cell≥cond (c.cell == -2) x.foreign 1):=by unfold Jt;cases c.cell == -2<;>rfl
theorem QR:∀{a b:List Prop},KC a→KC b→KC (a++b)
 | [],_,_,h=>h
 | _::_,_,h,g=>⟨h.1,QR h.2 g⟩
abbrev mkC(P:Program)(C:Tab):Env:=⟨P,C,Z6 P,false,fun _=>false,true,false,false⟩
theorem QAX{C:Tab}(hC:QW C):(mkC Try.prog C).Sound:={ c:=hC,m:=vw Try.prog,mixed:=je }
def YQ:Bool:=decide ((x.d.ps.n:Int)-((l.length:Int)-QP l (-2))>x.lost)
def JZ(rec:σ→(Int→Bool)→QC→Res σ)(s:σ)(h:Int→Bool)(c:QC):Res σ:=match Jt x l c with
 | true => .go s h
 | false=>match JD x (l++[c])with
  | false => .go s (Qq c.cell true (Qq c.cell true h))
  | true=>match rec s (Qq c.cell true h) c with
   | .go s h => .go s (Qq c.cell true h)
   | .stop s h => .stop s (Qq c.cell true h)
def Xc(Y:σ→List QC→σ×Bool)(l:List QC)(s:σ)(h:Int→Bool):Res σ:=match YQ x l with
 | true => .go s h
 | false=>match Y s l with
  | (s,true) => .go s h
  | (s,false) => .stop s h
def onT{σ:Type}(x:QB)(C:List (List QC))(Y:σ→List QC→σ×Bool):Nat→List QC→σ→(Int→Bool)→Res σ
 | 0,l,s,h=>Xc x Y l s h
 | d+1,l,s,h=>Ji (JZ x l fun s h c=>onT x C Y d (l++[c]) s h) (QN C l.length) s h
theorem qO(c:QC)(n:Int):QP (l++[c]) n=if c.cell=n then QP l n+1 else QP l n:=by
 unfold QP;rw[List.countP_append]
 by_cases h:c.cell=n
 ·rw[if_pos h];simp[h]
 ·rw[if_neg h];simp[h]
theorem z6:0≤QP l n:=Int.natCast_nonneg _
theorem G3:QP l n≤l.length:=by
 unfold QP;have:=List.countP_le_length (p:=fun s:QC=>s.cell==n) (l:=l);omega
abbrev XC:Int→AV:=fun c => .int false .i64 (QP l c)
theorem XK(z:Bool)(h:Int→Bool)(l:List QC):K7 (.int z .i64 0) (.int true .i64 0) h h (XC l) (XC l):=⟨fun _=>rfl,rfl,fun _=>rfl,fun _=>⟨fun _=>rfl,rfl⟩⟩
theorem QL5(z b:Bool){l:List QC}{n:Int}(hl:l.length≤1000)(hn:n=i64.wrap (QP l c.cell+1))(h:Int→Bool):K7 (.int z .i64 0) (.int true .i64 0) h h (KP c.cell (.int b .i64 n) (XC l)) (XC (l++[c])):=by
 have h1:=z6 l c.cell;have h2:=G3 l c.cell;have hw:i64.wrap (QP l c.cell+1)=QP l c.cell+1:=w64 (by omega) (by omega)
 refine⟨fun _=>rfl,rfl,fun _=>rfl,fun k=>⟨fun r => ?_,rfl⟩⟩;simp only[KP]
 by_cases e:k=c.cell
 ·subst e;have q:QP (l++[c]) c.cell=QP l c.cell+1:=by rw[qO,if_pos rfl]
  simp only[decide_true,hn,hw,XC,q];rfl
 ·have q:QP (l++[c]) k=QP l k:=by rw[qO,if_neg (fun q=>e q.symm)]
  simp only[e,decide_false,XC,q]
theorem QMj(z b:Bool){l:List QC}{n:Int}(hl:l.length≤1000)(hn:n=i64.wrap (QP (l++[c]) c.cell-1))(h:Int→Bool):K7 (.int z .i64 0) (.int true .i64 0) h h (KP c.cell (.int b .i64 n) (XC (l++[c]))) (XC l):=by
 have h1:=z6 l c.cell;have h2:=G3 l c.cell
 have hw:i64.wrap (QP (l++[c]) c.cell-1)=QP l c.cell:=by
  rw[qO,if_pos rfl];exact(w64 (by omega) (by omega)).trans (by omega)
 refine⟨fun _=>rfl,rfl,fun _=>rfl,fun k=>⟨fun r => ?_,rfl⟩⟩;simp only[KP]
 by_cases e:k=c.cell
 ·subst e;simp only[decide_true,hn,hw];rfl
 ·have q:QP (l++[c]) k=QP l k:=by rw[qO,if_neg (fun q=>e q.symm)]
  simp only[e,decide_false,XC,q]
theorem QFR(z b b':Bool){l:List QC}{m n:Int}(hl:l.length≤1000)(hm:n=i64.wrap (i64.wrap (QP l c.cell+1)-1))(h:Int→Bool):K7 (.int z .i64 0) (.int true .i64 0) h h (KP c.cell (.int b .i64 n) (KP c.cell (.int b' .i64 m) (XC l))) (XC l):=by
 have h1:=z6 l c.cell;have h2:=G3 l c.cell;have hw:i64.wrap (QP l c.cell+1)=QP l c.cell+1:=w64 (by omega) (by omega)
 have hw2:i64.wrap (QP l c.cell+1-1)=QP l c.cell:=(w64 (by omega) (by omega)).trans (by omega)
 rw[hw,hw2]at hm;refine⟨fun _=>rfl,rfl,fun _=>rfl,fun k=>⟨fun r => ?_,rfl⟩⟩;simp only[KP]
 by_cases e:k=c.cell
 ·subst e;simp only[decide_true,hm];rfl
 ·simp only[e,decide_false]
def rwL(id:Nat)(l:List QC):Nat×Blk:=(id,.rowz true 56 [.int .i64,.int .i64] l.length fun i=>QA.enc (l.getD i ⟨0,0⟩))
theorem Hx(c:QC)(n:Nat)(hn:n=l.length):QE 2 (l++[c]).length (Qd n (fun i=>QA.enc (l.getD i ⟨0,0⟩)) (QS [[.int false .i64 c.cell,.int false .i64 c.turn]] 0)) (fun i=>QA.enc ((l++[c]).getD i ⟨0,0⟩)):=by
 subst hn;intro i hi;have hi:i<l.length+1:=by simpa using hi
 show eqF 2 0 (Qd l.length (fun i=>QA.enc (l.getD i ⟨0,0⟩)) (QS [[.int false .i64 c.cell,.int false .i64 c.turn]] 0) i) (QA.enc ((l++[c]).getD i ⟨0,0⟩))
 by_cases h:i<l.length
 ·have e:(l++[c]).getD i ⟨0,0⟩=l.getD i ⟨0,0⟩:=by
   rw[List.getD_eq_getElem?_getD,List.getD_eq_getElem?_getD,List.getElem?_append_left h]
  have e2:Qd l.length (fun i=>QA.enc (l.getD i (⟨0,0⟩:QC))) (QS [[.int false .i64 c.cell,.int false .i64 c.turn]] 0) i=QA.enc (l.getD i ⟨0,0⟩):=by
   funext j;rw[XP,if_pos h]
  rw[e,e2];exact⟨rfl,rfl,trivial⟩
 ·have q:i=l.length:=by omega
  subst q;have e:(l++[c]).getD l.length ⟨0,0⟩=c:=by simp
  have e2:Qd l.length (fun i=>QA.enc (l.getD i (⟨0,0⟩:QC))) (QS [[.int false .i64 c.cell,.int false .i64 c.turn]] 0) l.length=QS [[.int false .i64 c.cell,.int false .i64 c.turn]] 0 0:=by
   funext j;rw[XP,if_neg h,Nat.sub_self]
  rw[e,e2];exact⟨rfl,rfl,trivial⟩
theorem QLt(c:QC):QE 2 l.length (fun i=>QA.enc ((l++[c]).getD i ⟨0,0⟩)) (fun i=>QA.enc (l.getD i ⟨0,0⟩)):=by
 intro i hi
 have e:(l++[c]).getD i ⟨0,0⟩=l.getD i ⟨0,0⟩:=by
  rw[List.getD_eq_getElem?_getD,List.getD_eq_getElem?_getD,List.getElem?_append_left hi]
 show eqF 2 0 (QA.enc ((l++[c]).getD i ⟨0,0⟩)) (QA.enc (l.getD i ⟨0,0⟩));rw[e];exact⟨rfl,rfl,trivial⟩
theorem G9(c:QC):l.length+1=(l++[c]).length:=by simp
theorem GG(c:QC):(l++[c]).length≤l.length+1:=by simp
theorem QHT(c:QC)(hl:l.length≤1000):(i64.wrap (((l++[c]).length:Int)-1)).toNat=l.length:=by
 rw[List.length_append,List.length_singleton,w64 (by omega) (by omega)];omega
theorem QGf(hl:l.length≤1000):(i64.wrap (((l.length+1:Nat):Int)-1)).toNat=l.length:=by
 rw[w64 (by omega) (by omega)];omega
theorem QIu(g:Nat→Nat→Int):QE 2 l.length (Qd l.length (fun i=>QA.enc (l.getD i (⟨0,0⟩:QC))) g) (fun i=>QA.enc (l.getD i ⟨0,0⟩)):=by
 intro i hi;show eqF 2 0 (Qd l.length (fun i=>QA.enc (l.getD i (⟨0,0⟩:QC))) g i) (QA.enc (l.getD i ⟨0,0⟩))
 have e2:Qd l.length (fun i=>QA.enc (l.getD i (⟨0,0⟩:QC))) g i=QA.enc (l.getD i ⟨0,0⟩):=by
  funext j;rw[XP,if_pos hi]
 rw[e2];exact⟨rfl,rfl,trivial⟩
theorem QFN{f:σ→(Int→Bool)→QC→Res σ}{cs:List QC}{k:Nat}(h:cs.length≤k)(s:σ)(has:Int→Bool):Ji f (cs.drop k) s has = .go s has:=by
 rw[List.drop_eq_nil_of_le h,Ji]
theorem QGl{f:σ→(Int→Bool)→QC→Res σ}{cs:List QC}{k:Nat}(h:k<cs.length)(s:σ)(has:Int→Bool):Ji f (cs.drop k) s has=match f s has (cs.getD k ⟨0,0⟩)with
  | .go s h=>Ji f (cs.drop (k+1)) s h
  | .stop s h => .stop s h:=by
 rw[List.drop_eq_getElem_cons h,Ji,List.getD_eq_getElem?_getD,List.getElem?_eq_getElem h];rfl
theorem QLF{σ:Type}{f:σ→(Int→Bool)→QC→Res σ}(hf:∀ s h c,∃ s' h',f s h c = .go s' h'):∀(l:List QC) (s:σ) (h:Int→Bool),∃ s' h',Ji f l s h = .go s' h'
 | [],s,h=>⟨s,h,rfl⟩
 | c::l,s,h=>by
  obtain⟨s',h',e⟩:=hf s h c;rw[Ji,e];exact QLF hf l s' h'
theorem Zm{σ:Type}{x:QB}{C:List (List QC)}{Y:σ→List QC→σ×Bool}(hY:∀ s l,(Y s l).2=true):∀(d:Nat) (l:List QC) (s:σ) (h:Int→Bool),∃ s' h',onT x C Y d l s h = .go s' h'
 | 0,l,s,h=>by
  rw[onT,Xc];split
  ·exact⟨_,_,rfl⟩
  ·have:=hY s l;split
   ·exact⟨_,_,rfl⟩
   ·rename_i e;rw[e]at this;cases this
 | d+1,l,s,h=>by
  rw[onT];refine QLF (fun s h c => ?_) _ s h;unfold JZ;split
  ·exact⟨_,_,rfl⟩
  ·split
   ·exact⟨_,_,rfl⟩
   ·obtain⟨s',h',e⟩:=Zm (x:=x) (C:=C) hY d (l++[c]) s (Qq c.cell true h);simp only[e];exact⟨_,_,rfl⟩
def Qj(fn:Func)(k:Nat):Code×Code:=match (Kj (Qr fn))[k]? with
 | some (.rangeFunc _ _ ac body)=>(ac,body)
 | _=>(.skip,.skip)
def srK(c:Nat)(x:QB)(C:List (List QC)):List AV:=JQ 0 x++[.slz c 0 C.length (.of 0)]
def W4(pb1 pb2:List Prop→Bool)(x:QB)(C:List (List QC))(l:List QC)(U:UC):Tab:=Qh (Qh Qu 78 (J1 pb1 (ftU x C l))) 77 (J1 pb2 U)
def zm:Ex→List Nat
 | .normal=>[0,1,2,3,4,48,49,50]
 | .exit _=>[]
 | .ret=>[5]
theorem Ks{k n:Nat}(h:k<n)(hn:n≤1000):i64.wrap ((k:Int)+1)=((k+1:Nat):Int):=(w64 (by omega) (by omega)).trans (by omega)
abbrev msN(P : Program)(T : Tab): Hnd := { hnd (mkE P T) 2 with loop := fun _ _ _ => .fail "a loop" }
theorem qp(N M k nid:Nat)(h:N≤M+k):JF N M nid (M+k)=nid+k:=by
 have:Nat.blt (M+k) N=false:=W6 (by omega)
 simp only[JF,this];omega
structure WW (x:QB) (C:List (List QC)):Prop where
 n:C.length=x.scans.n
 le:∀ i,(QN C i).length≤1000
 s:∀ i,∀ c∈QN C i,JV c
theorem Hb{α:Type}{l:List α}{i:Nat}{z:α}(h:i<l.length):l.getD i z∈l:=by
 rw[List.getD_eq_getElem?_getD,List.getElem?_eq_getElem h];exact List.getElem_mem h
theorem QFI{l:List QC}(hp:0<l.length)(hl:l.length≤1000)(h:∀ c∈l,JV c):qq l:=⟨hp,hl,fun i hi=>h _ (Hb hi)⟩
theorem QRb{l:List QC}(hl:l.length≤1000)(h:∀ c∈l,JV c):G2 l:=⟨hl,fun i hi=>by
 have:=(h _ (Hb (z:=⟨0,0⟩) hi)).cell;omega⟩
theorem QHl{x:QB}{l:List QC}(h1:x.d.ps.n≤1000)(h2:l.length≤1000):decide (i64.wrap ((x.d.ps.n:Int)-i64.wrap ((l.length:Int)-QP l (-2)))>x.lost)=YQ x l:=by
 have a1:=z6 l (-2);have a2:=G3 l (-2);rw[show i64.wrap ((l.length:Int)-QP l (-2))=(l.length:Int)-QP l (-2)from w64 (by omega) (by omega),show i64.wrap ((x.d.ps.n:Int)-((l.length:Int)-QP l (-2)))=(x.d.ps.n:Int)-((l.length:Int)-QP l (-2))from w64 (by omega) (by omega)]
 rfl
theorem QEj(T:Tab)(hT:QW T)(G:Ctx)(hrd:G.rd=none):Q9 (mkE Try.prog T) G (msN Try.prog T) (Qr Try.f77):=
 JM (body:=QV Try.f77 0) (QT hT) hrd (by kernel_rfl) (fun _ _ _ _ _ _ _ h _ _=>h.elim)
def noH:Int→Bool:=fun _=>false
def Jl(U:UC):Tab:=Qh Qu 49 (J1 pb U)
theorem QPb{q:Bool}{l:List QC}{c t:Nat}{y:QC}(h:y∈V1 q l c t):y∈l∨y=⟨c,t⟩:=by
 cases q with
 | true=>simpa[V1]using h
 | false=>exact .inl h
theorem QFC{d:Puz}{s:QK}{l:List QC}{c:Nat}{y:QC}:∀{t:Nat},y∈KI d s l c t→y∈l∨∃ u,u<t∧y=⟨c,(u:Nat)⟩
 | 0,h => .inl h
 | t+1,h=>by
  simp only[KI]at h;rcases QPb h with h|h
  ·rcases QFC h with h|⟨u,h1,h2⟩
   ·exact .inl h
   ·exact .inr ⟨u,by omega,h2⟩
  ·exact .inr ⟨t,by omega,h⟩
theorem QBG{d:Puz}{s:QK}{y:QC}:∀{c:Nat},y∈KF d s c→∃ k u:Nat,k<c∧u<4∧y=⟨(k:Nat),(u:Nat)⟩
 | 0,h=>by cases h
 | c+1,h=>by
  simp only[KF]at h;rcases QFC h with h|⟨u,h1,h2⟩
  ·obtain⟨k,u,a,b,e⟩:=QBG h;exact⟨k,u,by omega,b,e⟩
  ·exact⟨c,u,by omega,h1,h2⟩
theorem QSn{x:QB}(hn:x.d.ps.n≤9){k:Nat}{y:QC}(h:y∈Xk x k):JV y:=by
 simp only[Xk,List.mem_cons]at h;rcases h with rfl|h
 ·exact⟨.inl rfl,by decide⟩
 ·obtain⟨c,u,h1,h2,rfl⟩:=QBG h;exact⟨.inr ⟨by simp only;omega,by simp only;omega⟩,by simp only;omega,by simp only;omega⟩
theorem jR{x:QB}:∀{k i:Nat},i<k→QN (Qz x k) i=Xk x i
 | k+1,i,h=>by
  rw[Qz,QC3,YY]
  by_cases e:i<k
  ·rw[if_pos e];exact jR e
  ·have:i=k:=by omega
   subst this;rw[if_neg e,if_pos rfl]
theorem QA5{C:List (List QC)}{i:Nat}(h:C.length≤i):QN C i=[]:=by
 unfold QN;rw[List.getD_eq_getElem?_getD,List.getElem?_eq_none h];rfl
theorem QJH{x:QB}(hn:x.d.ps.n≤9):WW x (Qz x x.scans.n):=by
 refine⟨YY _ _,fun i => ?_,fun i c hc => ?_⟩
 ·by_cases h:i<x.scans.n
  ·rw[jR h];have:=vY x.d (x.scans.get i) x.d.ps.n;simp only[Xk,List.length_cons];omega
  ·rw[QA5 (by rw[YY];omega)];simp
 ·by_cases h:i<x.scans.n
  ·rw[jR h]at hc;exact QSn hn hc
  ·rw[QA5 (by rw[YY];omega)]at hc;cases hc
theorem QGJ(b:Bool):zu (.int b .i64 0) noH (XC []):=⟨rfl,fun _=>rfl,fun _=>⟨fun _=>rfl,rfl⟩⟩
theorem QHZ{σ:Type}{G:σ→Prop}{f:σ→(Int→Bool)→QC→Res σ}(hf:∀ s h c s' h',G s→f s h c = .go s' h'→G s'):∀(l:List QC) (s:σ) (h:Int→Bool) {s':σ} {h':Int→Bool},G s→Ji f l s h = .go s' h'→G s'
 | [],s,h,s',h',hg,e=>by cases e;exact hg
 | c::l,s,h,s',h',hg,e=>by
  rw[Ji]at e;split at e
  ·rename_i s1 h1 e1;exact QHZ hf l s1 h1 (hf _ _ _ _ _ hg e1) e
  ·cases e
theorem QAU{σ:Type}{x:QB}{C:List (List QC)}{Y:σ→List QC→σ×Bool}{G:σ→Prop}(hY:∀ s l,G s→l.length=x.scans.n→G (Y s l).1):∀(d:Nat) (l:List QC) (s:σ) (h:Int→Bool) {s':σ} {h':Int→Bool},l.length+d=x.scans.n→G s→onT x C Y d l s h = .go s' h'→G s'
 | 0,l,s,h,s',h',hn,hg,e=>by
  rw[onT,Xc]at e;split at e
  ·cases e;exact hg
  ·have hy:=hY s l hg (by omega)
   split at e
   ·rename_i e1;rw[e1]at hy;cases e;exact hy
   ·cases e
 | d+1,l,s,h,s',h',hn,hg,e=>by
  rw[onT]at e;refine QHZ (G:=G) (fun s h c s' h' hg e => ?_) _ s h hg e;unfold JZ at e;split at e
  ·cases e;exact hg
  ·split at e
   ·cases e;exact hg
   ·split at e
    ·rename_i e1;cases e;exact QAU hY d (l++[c]) s _ (by simp;omega) hg e1
    ·cases e
def clU:UC:=⟨0,⟨1,[(0,.slz 5 0 l.length (.of 0))],[frS 5 l],8⟩,fun m => .slz m 0 l.length (.of 0),fun m=>[rwL m l]⟩
theorem QPh:VY (mkE Try.prog Qu) (hnd (mkE Try.prog Qu) 1) Try.f56 (clU l) =
  QD.need (decide ((0:Nat)<l.length∧l.length≤l.length)) (QD.need (true&&(decide (l.length≤l.length)&&decide (((0:Nat)+l.length+((0:Nat)+l.length) / (4 :
  Nat)+(192:Nat))*(16:Nat)≤(281474976710656:Nat)∧(0:Nat)+l.length≤(9223372036854775807:Nat)))) (QD.leaf (AV.slz (48:Nat) (0:Nat) ((0:Nat)+l.length)
  (Cap.of (0:Nat))) ([((48:Nat),Blk.rowz true (56:Nat) [CK.int i64,CK.int i64] ((0:Nat)+l.length) (Qd (0:Nat) (fun x x_1=>(0:Int)) fun i=>
  QA.enc (l.getD i (QC.mk (0:Int) (0:Int)))))]))):=by kernel_rfl
theorem QNu(n:Nat)(g:Nat→Nat→Int)(l:List QC):QM 8 [.slz 48 0 n cO] [(48,.rowz true 56 [.int .i64,.int .i64] n g)] (K8 (clU l))=(
  some [(0:Nat)=(0:Nat),n=l.length,Cap.of (0:Nat)=Cap.of (0:Nat),l.length≤n,QE (2:Nat) l.length g fun i=>QA.enc (l.getD i (QC.mk (0:Int) (0:Int)))]):=by kernel_rfl
theorem QPp(m n:Nat)(f g:Nat→Nat→Int):QE m n (Qd 0 f g) g:=by
 intro i hi;have:Qd 0 f g i=g i:=by funext j;rw[XP,if_neg (Nat.not_lt_zero i),Nat.sub_zero]
 rw[this];exact YB _ _ _
theorem QVn:(clU l).Ok:=by
 refine⟨(by decide:0≤8),rfl,rfl,?_,rfl,fun nid h => ?_,fun nid h => ?_⟩
 ·intro q hq;simp only[UC.po,clU,rwL,List.mem_cons,List.not_mem_nil,or_false]at hq;subst hq;exact⟨rfl,rfl,rfl,fun h=>absurd (show 8<0 from h) (by decide)⟩
 ·have e0:=qp 0 8 0 nid (by decide)
  simp only[UC.va,clU,AV.mapId,Nat.add_zero]at e0 ⊢;rw[e0]
 ·have e0:=qp 0 8 0 nid (by decide)
  simp only[UC.po,clU,rwL,List.map_cons,List.map_nil,Blk.mapId,Nat.add_zero]at e0 ⊢;rw[e0]
theorem QRS(hp:0<l.length)(hl:l.length≤1000):QQ Try.prog 56 (uFC (clU l)):=by
 refine VL (c:=Qr Try.f56) (E:=mkE Try.prog Qu) (QT KL) Try.func56 (by kernel_rfl) (by kernel_rfl) (QVn l) (fun G h1 _=>Q0 (QT KL) 1 G _ h1) ⟨?_⟩
 refine Q5 (QPh l) ?_;refine QG (by simp;omega) (QG (by simp;omega) ⟨rfl,rfl,_,QNu _ _ l,?_⟩)
 repeat' first|with_reducible refine QR ?_ ?_|exact trivial|with_reducible rfl|exact Nat.zero_add _|exact QPp _ _ _ _|omega|refine And.intro ?_ ?_
def tmS(b:Nat)(f:List QC)(moved turned:Int):List (Nat×Blk):=[(120,.cells 0 38 [.slz b 0 f.length (.of 0)]),rwL b f,(112,.cells 0 92 [.int false .i64 moved]),(104,.cells 0 92 [.int false .i64 turned])]
def tmB(b:Nat)(l f:List QC)(moved turned:Int):List (Nat×Blk):=(200,.frz [.int .i64,.int .i64] l.length fun i=>QA.enc (l.getD i ⟨0,0⟩))::tmS b f moved turned
def tmJ(l f:List QC)(n moved turned:Int)(k:Nat):JSt:=⟨44,[(0,.int false .i64 n),(2,.ptr 120 0 0),(3,.ptr 112 0 0),(4,.ptr 104 0 0),(14,.slz 200 0 l.length (.of 0)),(15,.int false .i64 l.length),(16,.int false .i64 k)],tmB 232 l f moved turned,288⟩
def tmE(n moved turned:Int):JSt:=⟨44,[(0,.int false .i64 n)],tmS 232 f moved turned,288⟩
def QHM:Ex→List Nat
 | .normal=>[0,2,3,4,14,15,16]
 | .exit _=>[0]
 | .ret=>[]
def QA3:List Nat:=[120,112,104]
noncomputable abbrev Gy(l:List QC)(n:Int):List AV:=
  [.nilp,.ptr 44 0 0,vi n,.ptr 120 0 0,.ptr 112 0 0,.ptr 104 0 0,.slz 200 0 l.length cO,vi (l.length:Int),vi (i64.wrap
  ((k:Int)+1))]
noncomputable abbrev YZ:Nat×Blk:=
  (120,.cells 0 38 [.slz 232 0 f.length cO])
noncomputable abbrev QBF:Int:=
  (↑(BitVec.ofInt 64 moved ||| BitVec.ofInt 64 (i64.wrap ((1:Int)*2^min k 64))).toNat:Int)
noncomputable abbrev zy:Nat×Blk:=
  (112,.cells 0 92 [vi (i64.wrap (QBF k moved))])
noncomputable abbrev QCG:Int:=
  (↑(BitVec.ofInt 64 turned ||| BitVec.ofInt 64 (i64.wrap ((1:Int)*2^min k 64))).toNat:Int)
noncomputable abbrev Hz:Nat×Blk:=
  (104,.cells 0 92 [vi (i64.wrap (QCG k turned))])
noncomputable abbrev Zg:Nat×Blk:=
  (200,.frz [.int .i64,.int .i64] l.length fun i=>QA.enc (l.getD i ⟨0,0⟩))
noncomputable abbrev YM:Nat×Blk:=
  (232,.rowz true 56 [.int .i64,.int .i64] f.length fun i=>QA.enc (f.getD i ⟨0,0⟩))
noncomputable abbrev ji:Nat×Blk:=
  (104,.cells 0 92 [vi turned])
noncomputable abbrev zQ:Nat×Blk:=
  (112,.cells 0 92 [vi moved])
theorem QQq(l f:List QC)(n moved turned:Int)(k:Nat)(g:Nat→Value):exec (mkE Try.prog Qu) (hnd (mkE Try.prog Qu) 3) (QV Try.f62 0) (JSt.inst (tmJ l f n moved turned k) g) (KH QA3 QHM) = .br (decide ((k:Int)<(l.length:Int)))
  (.need (decide ((0:Int)≤(k:Int)∧(k:Int)<(l.length:Int))&&decide (l.length≤l.length)) (.need (decide (k<l.length)) (.need (decide ((0:Int)≤(k:Int)∧(k :
  Int)<(f.length:Int))&&decide (f.length≤f.length)) (.need (decide (k<f.length)) (.br ((l.getD k ⟨0,0⟩).cell != (f.getD k ⟨0,0⟩).cell) (.need (decide ((0:Int)≤(k :
  Int))) (.need (decide ((0:Int)≤(k:Int)∧(k:Int)<(f.length:Int))&&decide (f.length≤f.length)) (.need (decide (k<f.length)) (.br (!((l.getD k ⟨0,0⟩).cell ==
  (f.getD k ⟨0,0⟩).cell&&((l.getD k ⟨0,0⟩).turn==(f.getD k ⟨0,0⟩).turn&&true))) (.need (decide ((0:Int)≤(k:Int))) (.leaf (.tup (Gy k l n)) ([(YZ f),(zy k moved),
  (Hz k turned),(Zg l),(YM f)]))) (.leaf (.tup (Gy k l n)) ([(YZ f),(zy k moved),(ji turned),(Zg l),(YM f)])))))) (.need (decide ((0:Int)≤(k:Int)∧(k :
  Int)<(f.length:Int))&&decide (f.length≤f.length)) (.need (decide (k<f.length)) (.br (!((l.getD k ⟨0,0⟩).cell==(f.getD k ⟨0,0⟩).cell&&((l.getD k ⟨0,0⟩).turn ==
  (f.getD k ⟨0,0⟩).turn&&true))) (.need (decide ((0:Int)≤(k:Int))) (.leaf (.tup (Gy k l n)) ([(YZ f),(zQ moved),(Hz k turned),(Zg l),(YM f)]))) (.leaf (.tup
  (Gy k l n)) ([(YZ f),(zQ moved),(ji turned),(Zg l),(YM f)])))))))))) (.leaf (.tup [.ptr 0 0 0,.ptr 44 0 0,vi n]) ([(YZ f),(zQ moved),(ji
  turned),(YM f)])):=by kernel_rfl
noncomputable abbrev Gh(l:List QC)(n:Int):List AV:=
  [vi n,.ptr 120 0 0,.ptr 112 0 0,.ptr 104 0 0,.slz 200 0 l.length cO,vi (l.length:Int),vi (i64.wrap ((k:Int)+1))]
abbrev QAM(k':Nat)(l:List QC):List Prop:=
  [0=0,0=0,0=0,0=0,0=0,l.length=l.length,cO=cO,(l.length:Int)=(l.length:Int),i64.wrap ((k:Int)+1)=(k':Int),l.length ≤
  l.length,QE 2 l.length (fun i=>QA.enc (l.getD i ⟨0,0⟩)) fun i=>QA.enc (l.getD i ⟨0,0⟩),0=0,f.length=f.length,cO=cO,f.length≤f.length,QE 2
  f.length (fun i=>QA.enc (f.getD i ⟨0,0⟩)) fun i=>QA.enc (f.getD i ⟨0,0⟩)]
theorem QWY(l f:List QC)(n moved turned moved' turned':Int)(k k':Nat):QM 216 (Gh k l n) ([(YZ f),(zy k moved),(Hz k turned),(Zg l),(YM f)]) (tmJ l f n moved' turned' k')=(some ([n=n,0=0,0=0]++(QAM f k k' l) ++
  [i64.wrap (QBF k moved)=moved',i64.wrap (QCG k turned)=turned'])):=by kernel_rfl
theorem QXG(l f:List QC)(n moved turned moved' turned':Int)(k k':Nat):QM 216 (Gh k l n) ([(YZ f),(zy k moved),(ji turned),(Zg l),(YM f)]) (tmJ l f n moved' turned' k')=(some ([n=n,0=0,0=0]++(QAM f k k' l) ++
  [i64.wrap (QBF k moved)=moved',turned=turned'])):=by kernel_rfl
theorem QPE(l f:List QC)(n moved turned moved' turned':Int)(k k':Nat):QM 216 (Gh k l n) ([(YZ f),(zQ moved),(Hz k turned),(Zg l),(YM f)]) (tmJ l f n moved' turned' k')=(some ([n=n,0=0,0=0]++(QAM f k k' l)++[moved =
  moved',i64.wrap (QCG k turned)=turned'])):=by kernel_rfl
theorem QTz(l f:List QC)(n moved turned moved' turned':Int)(k k':Nat):QM 216 (Gh k l n) ([(YZ f),(zQ moved),(ji turned),(Zg l),(YM f)]) (tmJ l f n moved' turned' k')=(some ([n=n,0=0,0=0]++(QAM f k k' l)++[moved =
  moved',turned=turned'])):=by kernel_rfl
theorem QO5(n moved turned moved' turned':Int):QM 216 [AV.int false i64 n] ([((120:Nat),Blk.cells (0:Nat) (38:Nat) [AV.slz (232:Nat) (0:Nat) f.length (Cap.of (0:Nat))]),((112:Nat),Blk.cells (0:Nat) (92:Nat) [AV.int false i64 moved]),((104:Nat),Blk.cells (0:Nat) (92:Nat) [AV.int false i64 turned]),((232:Nat),Blk.rowz true (56:Nat) [CK.int i64,CK.int i64] f.length fun i=>QA.enc (f.getD i (QC.mk (0:Int) (0:Int))))]) (tmE f n moved' turned')=(
  some [n=n,(0:Nat)=(0:Nat),f.length=f.length,Cap.of (0:Nat)=Cap.of (0:Nat),f.length≤f.length,QE (2:Nat) f.length (fun i=>QA.enc (f.getD i (QC.mk (0
  : Int) (0:Int)))) fun i=>QA.enc (f.getD i (QC.mk (0:Int) (0:Int))),moved=moved',turned=turned']):=by kernel_rfl
def XD(l f:List QC)(k:Nat):Bool := !((l.getD k ⟨0,0⟩).cell==(f.getD k ⟨0,0⟩).cell&&((l.getD k ⟨0,0⟩).turn==(f.getD k ⟨0,0⟩).turn&&true))
def mvL(l f:List QC)(m:Int):Nat→Int
 | 0=>m
 | k+1=>match (l.getD k ⟨0,0⟩).cell != (f.getD k ⟨0,0⟩).cell with
  | true=>VN (mvL l f m k) k
  | false=>mvL l f m k
def tuL(l f:List QC)(m:Int):Nat→Int
 | 0=>m
 | k+1=>match XD l f k with
  | true=>VN (tuL l f m k) k
  | false=>tuL l f m k
theorem QOE(l f:List QC)(n moved turned:Int)(hl:l.length≤1000)(hf:l.length≤f.length):Kz (fun k=>tmJ l f n (mvL l f moved k) (tuL l f turned k) k) (fun k=>k≤l.length) (fun k=>l.length-k) (fun _ e J=>e = .exit 0∧J=tmE f n (mvL l f moved l.length) (tuL l f turned l.length)) 216 QHM QA3 (mkE Try.prog Qu) (fun _=>hnd (mkE Try.prog Qu) 3) (QV Try.f62 0):=by
 refine⟨fun k g hk=>Q5 (QQq l f n (mvL l f moved k) (tuL l f turned k) k g) ?_⟩;refine QI (fun h => ?_) (fun h => ?_)
 ·have h:k<l.length:=by have:=qdt h;omega
  have hw:=Ks h hl;refine QG (by simp;omega) (QG (by simp;omega) (QG (by simp;omega) (QG (by simp;omega) (QI (fun hc => ?_) (fun hc => ?_)))))
  ·refine QG (by simp) (QG (by simp;omega) (QG (by simp;omega) (QI (fun hd=>QG (by simp) ?_) (fun hd => ?_))))
   ·refine⟨k+1,h,by show l.length-(k+1)<l.length-k;omega,fun _ _ h=>h,rfl,rfl,_,QWY l f n (mvL l f moved k) (tuL l f turned k) (mvL l f moved (k+1)) (tuL l f turned (k+1)) k (k+1),?_⟩
    have e1:VN (mvL l f moved k) k=mvL l f moved (k+1):=by simp only[mvL,hc]
    have e2:VN (tuL l f turned k) k=tuL l f turned (k+1):=by simp only[tuL,XD,hd]
    repeat' first|with_reducible refine QR ?_ ?_|exact trivial|with_reducible rfl|exact qlr _|exact qRr|exact hw|exact e1|exact e2|refine And.intro ?_ ?_
   ·refine⟨k+1,h,by show l.length-(k+1)<l.length-k;omega,fun _ _ h=>h,rfl,rfl,_,QXG l f n (mvL l f moved k) (tuL l f turned k) (mvL l f moved (k+1)) (tuL l f turned (k+1)) k (k+1),?_⟩
    have e1:VN (mvL l f moved k) k=mvL l f moved (k+1):=by simp only[mvL,hc]
    have e2:tuL l f turned k=tuL l f turned (k+1):=by simp only[tuL,XD,hd]
    repeat' first|with_reducible refine QR ?_ ?_|exact trivial|with_reducible rfl|exact qlr _|exact qRr|exact hw|exact e1|exact e2|refine And.intro ?_ ?_
  ·refine QG (by simp;omega) (QG (by simp;omega) (QI (fun hd=>QG (by simp) ?_) (fun hd => ?_)))
   ·refine⟨k+1,h,by show l.length-(k+1)<l.length-k;omega,fun _ _ h=>h,rfl,rfl,_,QPE l f n (mvL l f moved k) (tuL l f turned k) (mvL l f moved (k+1)) (tuL l f turned (k+1)) k (k+1),?_⟩
    have e1:mvL l f moved k=mvL l f moved (k+1):=by simp only[mvL,hc]
    have e2:VN (tuL l f turned k) k=tuL l f turned (k+1):=by simp only[tuL,XD,hd]
    repeat' first|with_reducible refine QR ?_ ?_|exact trivial|with_reducible rfl|exact qlr _|exact qRr|exact hw|exact e1|exact e2|refine And.intro ?_ ?_
   ·refine⟨k+1,h,by show l.length-(k+1)<l.length-k;omega,fun _ _ h=>h,rfl,rfl,_,QTz l f n (mvL l f moved k) (tuL l f turned k) (mvL l f moved (k+1)) (tuL l f turned (k+1)) k (k+1),?_⟩
    have e1:mvL l f moved k=mvL l f moved (k+1):=by simp only[mvL,hc]
    have e2:tuL l f turned k=tuL l f turned (k+1):=by simp only[tuL,XD,hd]
    repeat' first|with_reducible refine QR ?_ ?_|exact trivial|with_reducible rfl|exact qlr _|exact qRr|exact hw|exact e1|exact e2|refine And.intro ?_ ?_
 ·have:k=l.length:=by have:=of_decide_eq_false h;omega
  subst this;refine⟨_,⟨rfl,rfl⟩,rfl,rfl,_,QO5 f n (mvL l f moved l.length) (tuL l f turned l.length) _ _,?_⟩
  repeat' first|with_reducible refine QR ?_ ?_|exact trivial|with_reducible rfl|exact qlr _|exact qRr|refine And.intro ?_ ?_
def GD:Tab:=Qh Qu 56 (J1 pb (clU l))
abbrev tmH(P:Program)(T:Tab)(l f:List QC)(n moved turned moved' turned':Int):Hnd:={ hnd (mkE P T) 1 with loop:=fun _=>KD 216 QA3 (tmJ l f n moved turned (0:Nat)) [(True,.exit 0,tmE f n moved' turned')] }
theorem QTD{T:Tab}(hT:QW T)(l f:List QC)(n moved turned:Int)(hl:l.length≤1000)(hf:l.length≤f.length)(G:Ctx)(hrd:G.rd=none)(hG:G.n=216):Q9 (mkE Try.prog T) G (tmH Try.prog T l f n moved turned (mvL l f moved l.length) (tuL l f turned l.length)) (Qr Try.f62):=by
 refine JM (body:=QV Try.f62 0) (QT hT) hrd (by kernel_rfl) ?_
 refine ZM (E:=mkE Try.prog Qu) rfl (JE (n0:=216) (QT KL) (by omega) (fun s hs=>Q0 (QT KL) 3 G _ hrd) (fun s hs=>(by decide:216≤288)) ?_ (QOE l f n moved turned hl hf) (s0:=0) (Nat.zero_le _) ?_)
 ·rintro s e J ⟨_,rfl⟩;exact(by decide:216≤288)
 ·rintro e J ⟨rfl,rfl⟩;exact⟨_,List.mem_cons_self,trivial,rfl,rfl⟩
def tmU(l f:List QC)(n moved turned:Int)(f2:List QC)(moved' turned':Int):UC:=⟨128,⟨5,[(0,.int false .i64 n),(1,.slz 200 0 l.length (.of 0)),(2,.ptr 120 0 0),(3,.ptr 112 0 0),(4,.ptr 104 0 0)],tmB 208 l f moved turned,216⟩,fun _ => .int false .i64 (i64.wrap (n+1)),fun m=>tmS m f2 moved' turned'⟩
noncomputable abbrev QJz(f2:List QC)(moved':Int)(turned':Int):List (Nat×Blk):=
  [(120,.cells 0 38 [.slz 232 0 f2.length cO]),(112,.cells 0 92 [vi moved']),(104,.cells 0 92 [vi turned']),(232,.rowz true 56 [.int .i64,
  .int .i64] f2.length fun i=>QA.enc (f2.getD i ⟨0,0⟩))]
theorem QT3(l f f2:List QC)(n moved turned moved' turned':Int):VY (mkE Try.prog (GD pb l)) (tmH Try.prog (GD pb l) l f2 n moved turned moved' turned') Try.f62 (tmU l f n moved turned f2 moved' turned') = .br (n==0) (.need (pb ([0 =
  0,l.length=l.length,cO=cO,l.length≤l.length,QE 2 l.length (fun i=>QA.enc (l.getD i ⟨0,0⟩)) fun i=>QA.enc (l.getD i ⟨0,0⟩)])) (.ask (n=n) (.ask
  (0=0) (.ask (0=0) (.ask (0=0) (.ask (0=0) (.ask (0=0) (.ask (0=0) (.ask (0=0) (.ask (l.length=l.length) (.ask (cO=cO) (.ask ((l.length:Int) =
  (l.length:Int)) (.ask ((0:Int)=0) (.ask (l.length≤l.length) (.ask (QE 2 l.length (fun i=>QA.enc (l.getD i ⟨0,0⟩)) fun i=>QA.enc (l.getD i ⟨0,0⟩)) (.ask (0=0)
  (.ask (l.length=f2.length) (.ask (cO=cO) (.ask (f2.length≤l.length) (.ask (QE 2 f2.length (fun i=>QA.enc (l.getD i ⟨0,0⟩)) fun i=>QA.enc (f2.getD i
  ⟨0,0⟩)) (.ask (moved=moved) (.ask (turned=turned) (.asm (True) (.all (fun(g0:Nat→Value) => .leaf (.int false .i64 (i64.wrap (n+1))) ((QJz f2 moved'
  turned'))))))))))))))))))))))))))) (.ask (n=n) (.ask (0=0) (.ask (0=0) (.ask (0=0) (.ask (0=0) (.ask (0=0) (.ask (0=0) (.ask (0=0) (.ask (l.length=l.length) (.ask
  (cO=cO) (.ask ((l.length:Int)=(l.length:Int)) (.ask ((0:Int)=0) (.ask (l.length≤l.length) (.ask (QE 2 l.length (fun i=>QA.enc (l.getD i ⟨0,0⟩))
  fun i=>QA.enc (l.getD i ⟨0,0⟩)) (.ask (0=0) (.ask (f.length=f2.length) (.ask (cO=cO) (.ask (f2.length≤f.length) (.ask (QE 2 f2.length (fun i=>QA.enc
  (f.getD i ⟨0,0⟩)) fun i=>QA.enc (f2.getD i ⟨0,0⟩)) (.ask (moved=moved) (.ask (turned=turned) (.asm (True) (.all (fun(g1:Nat→Value) => .leaf (.int false .i64
  (i64.wrap (n+1))) ((QJz f2 moved' turned')))))))))))))))))))))))))):=by kernel_rfl
theorem QHL(f2:List QC)(l f:List QC)(n moved turned moved' turned':Int):QM 216 [(AV.int false i64 (i64.wrap (n+(1:Int))))] ([((120:Nat),Blk.cells (0:Nat) (38:Nat) [AV.slz (232:Nat) (0:Nat) f2.length (Cap.of (0:Nat))]),((112:Nat),Blk.cells (0:Nat) (92:Nat) [AV.int false i64 moved']),((104:Nat),Blk.cells (0:Nat) (92:Nat) [AV.int false i64 turned']),((232:Nat),Blk.rowz true (56:Nat) [CK.int i64,CK.int i64] f2.length fun i=>QA.enc (f2.getD i (QC.mk (0:Int) (0:Int))))]) (K8 (tmU l f n moved turned f2 moved' turned'))=(
  some [i64.wrap (n+(1:Int))=i64.wrap (n+(1:Int)),(0:Nat)=(0:Nat),f2.length=f2.length,Cap.of (0:Nat)=Cap.of (0:Nat),f2.length≤f2.length,
  QE (2:Nat) f2.length (fun i=>QA.enc (f2.getD i (QC.mk (0:Int) (0:Int)))) fun i=>QA.enc (f2.getD i (QC.mk (0:Int) (0:Int))),moved'=moved',turned' =
  turned']):=by kernel_rfl
theorem QQN(l f:List QC)(n moved turned:Int)(f2:List QC)(moved' turned':Int):(tmU l f n moved turned f2 moved' turned').Ok:=by
 refine⟨(by decide:128≤216),rfl,rfl,?_,rfl,fun _ _=>rfl,fun nid h => ?_⟩
 ·intro q hq;simp only[UC.po,tmU,tmS,rwL,List.mem_cons,List.not_mem_nil,or_false]at hq;rcases hq with rfl|rfl|rfl|rfl<;>refine⟨rfl,rfl,rfl,?_⟩<;>first|exact fun _=>rfl|exact fun h=>absurd (show 216<128 from h) (by decide)
 ·have e0:=qp 128 216 0 nid (by decide)
  simp only[UC.po,tmU,tmS,rwL,List.map_cons,List.map_nil,Blk.mapId,AV.mapId,AV.mapIdL,Nat.add_zero]at e0 ⊢;rw[e0];rfl
def Q6(l f:List QC):List QC:=match n==0 with
 | true=>l
 | false=>f
theorem QOm(l f:List QC)(n moved turned:Int)(hp:0<l.length)(hl:l.length≤1000)(hf:(n==0)=false→f.length=l.length):QQ Try.prog 62 (uFC (tmU l f n moved turned (Q6 n l f) (mvL l (Q6 n l f) moved l.length) (tuL l (Q6 n l f) turned l.length))):=by
 have hT:QW (GD Qt l):=KL.add (QRS l hp hl)
 have hf2:l.length≤(Q6 n l f).length:=by
  unfold Q6;split
  ·exact qlr _
  ·rename_i h;rw[hf h];exact qlr _
 have h1:(n==0)=true→Q6 n l f=l:=fun h=>by unfold Q6;rw[h]
 have h2:(n==0)=false→Q6 n l f=f:=fun h=>by unfold Q6;rw[h]
 refine VL (E:=mkE Try.prog (GD Qt l)) (QT hT) Try.func62 (by kernel_rfl) (by kernel_rfl) (QQN ..) (QTD hT l (Q6 n l f) n moved turned hl hf2) ⟨?_⟩
 generalize Q6 n l f=f2 at h1 h2;refine Q5 (QT3 Qt l f f2 n moved turned _ _) ?_;refine QI (fun h=>QG (JA.2 ?_) ?_) (fun h => ?_)
 ·repeat' first|with_reducible refine QR ?_ ?_|exact trivial|with_reducible rfl|exact qlr _|exact qRr|refine And.intro ?_ ?_
 ·obtain rfl:=h1 h
  repeat' first|refine QU (p:=_=_) rfl ?_|refine QU (p:=_≤_) (qlr _) ?_|refine QU (p:=QE _ _ _ _) (qRr) ?_
  refine KB fun _=>KE fun g=>⟨rfl,rfl,_,QHL f2 f2 f n moved turned _ _,?_⟩
  repeat' first|with_reducible refine QR ?_ ?_|exact trivial|with_reducible rfl|exact qlr _|exact qRr|refine And.intro ?_ ?_
 ·obtain rfl:=h2 h
  repeat' first|refine QU (p:=_=_) rfl ?_|refine QU (p:=_≤_) (qlr _) ?_|refine QU (p:=QE _ _ _ _) (qRr) ?_
  refine KB fun _=>KE fun g=>⟨rfl,rfl,_,QHL f2 l f2 n moved turned _ _,?_⟩
  repeat' first|with_reducible refine QR ?_ ?_|exact trivial|with_reducible rfl|exact qlr _|exact qRr|refine And.intro ?_ ?_
end Go.Proofs.Ytbpffdkemeoajaa
