/- - -/
import Derived.Test.YtbpffdkemeoajaaGreatMpx
open Go.Proofs.Tryz
open Go.IntKind (i64)
set_option maxRecDepth 100000
namespace Go.Proofs.YtbpffdkemeoajaaGreat
open Go.SX
variable {c:QB}{σ:Type}(x:QD)(l:List QB)(all has n:Int)(C:List (List QB))(k:Nat)
def opJ:JSt:=⟨50,[(1,.ptr 8 0 0),(12,.slz 2 0 x.hang.n (.of 0)),(13,vi x.hang.n),(14,vi k)],[(8,.cells 0 31 (K2 0 x))]++JC 0 x,40⟩
def QLq:Ex->List Nat
 | .normal=>[1,12,13,14]
 | .exit _=>[1]
 | .ret=>[2,3]
def QCd:JSt:=⟨50,[(2,.nilp),(3,.int false .i64 11)],[],40⟩
def QIj:JSt:=⟨50,[(1,.ptr 8 0 0)],[(8,.cells 0 31 (K2 0 x))]++JC 0 x,40⟩
noncomputable abbrev XI:List AV:=
  [.nili,.ptr 50 0 0,.nilp,vj 11]
noncomputable abbrev Vr(x:QD):List AV:=
  [.nilp,.ptr 50 0 0,.ptr 8 0 0,.slz 2 0 x.hang.n cO,vi (x.hang.n:Int),vi (i64.wrap ((k:Int)+1))]
noncomputable abbrev QHJ:Nat×Blk:=
  (8,.cells 0 31 [vi x.d.pK.length,vi x.d.pK.aK,vi x.d.pK.oK,vi x.d.pK.dK.lo,vi x.d.pK.dK.hi,
  vi x.d.wide,vi x.d.high,.bool false x.d.turn,.slz 0 0 x.d.ps.n cO,.slz 1 0 x.sK.n cO,.slz 2 0 x.hang.n cO,.int false .i64
  x.lost,vi x.fK])
noncomputable abbrev QFq:Nat×Blk:=
  (2,.frz [.int .i64,.int .i64,.int .i64,.int .i64] x.hang.n λi=>QA.enc (x.hang.get i))
abbrev GJ:List CK:=
  [.int .i64,.int .i64,.int .i64,.int .i64,.int .i64,.int .i64,.int .i64,.int .i64,.int .i64,.int .i64,.int .i64,.int .i64,.int .i64,.int .i64,.int .i64,.int .i64,.int
  .i64,.int .i64,.int .i64,.int .i64,.int .i64,.int .i64,.int .i64,.int .i64,.int .i64,.int .i64,.int .i64,.int .i64]
noncomputable abbrev Vn:List (Nat×Blk):=
  [(QHJ x),(QFq x),(0,.frz GJ x.d.ps.n λi=>QA.enc (x.d.ps.get i)),(1,.frz GJ x.sK.n λi=>QA.enc (x.sK.get i))]
theorem Qdj(g:Nat->Value):exec (mkF prog Xl) (hnd (mkF prog Xl) 0) (QT f35 0) (JSt.inst (opJ x k) g) (KG [] QLq) = .br (decide ((k:Int)<(x.hang.n:Int))) (.need (decide ((0:Int)<=(k:Int)/\(k:Int)<(x.hang.n:Int))&&decide (x.hang.n<=x.hang.n)) (.need (decide (k<x.hang.n)) (.need (decide ((0:Int)<=(x.hang.get k).a/\(x.hang.get k).a<(x.sK.n:Int))&&decide (x.sK.n<=x.sK.n)) (.need (decide ((0:Int)<=(x.hang.get k).i/\(x.hang.get k).i<4)) (.br (decide ((x.hang.get k).i=0)) (.need (decide ((x.hang.get k).a.toNat<x.sK.n)) (.need (decide ((0:Int)<=(x.hang.get k).b/\(x.hang.get k).b<(x.sK.n:Int))&&decide (x.sK.n<=x.sK.n)) (.need (decide ((0:Int)<=(x.hang.get k).j/\(x.hang.get k).j<4)) (.br (decide ((x.hang.get k).j=0)) (.need (decide ((x.hang.get k).b.toNat<x.sK.n)) (.need (true) (.br ((KE x.d.pK (x.sK.get (x.hang.get k).a.toNat).up (x.sK.get (x.hang.get k).b.toNat).up).1==0) (.leaf (.tup XI) ([])) (.leaf (.tup (Vr k x)) ((Vn x)))))) (.br (decide ((x.hang.get k).j=1)) (.need (decide ((x.hang.get k).b.toNat<x.sK.n)) (.need (true) (.br ((KE x.d.pK (x.sK.get (x.hang.get k).a.toNat).up (x.sK.get (x.hang.get k).b.toNat).right).1==0) (.leaf (.tup XI) ([])) (.leaf (.tup (Vr k x)) ((Vn x)))))) (.br (decide ((x.hang.get k).j=2)) (.need (decide ((x.hang.get k).b.toNat<x.sK.n)) (.need (true) (.br ((KE x.d.pK (x.sK.get (x.hang.get k).a.toNat).up (x.sK.get (x.hang.get k).b.toNat).down).1==0) (.leaf (.tup XI) ([])) (.leaf (.tup (Vr k x)) ((Vn x)))))) (.need (decide ((x.hang.get k).b.toNat<x.sK.n)) (.need (true) (.br ((KE x.d.pK (x.sK.get (x.hang.get k).a.toNat).up (x.sK.get (x.hang.get k).b.toNat).left).1==0) (.leaf (.tup XI) ([])) (.leaf (.tup (Vr k x)) ((Vn x)))))))))))) (.br (decide ((x.hang.get k).i=1)) (.need (decide ((x.hang.get k).a.toNat<x.sK.n)) (.need (decide ((0:Int)<=(x.hang.get k).b/\(x.hang.get k).b<(x.sK.n:Int))&&decide (x.sK.n<=x.sK.n)) (.need (decide ((0:Int)<=(x.hang.get k).j/\(x.hang.get k).j<4)) (.br (decide ((x.hang.get k).j=0)) (.need (decide ((x.hang.get k).b.toNat<x.sK.n)) (.need (true) (.br ((KE x.d.pK (x.sK.get (x.hang.get k).a.toNat).right (x.sK.get (x.hang.get k).b.toNat).up).1==0) (.leaf (.tup XI) ([])) (.leaf (.tup (Vr k x)) ((Vn x)))))) (.br (decide ((x.hang.get k).j=1)) (.need (decide ((x.hang.get k).b.toNat<x.sK.n)) (.need (true) (.br ((KE x.d.pK (x.sK.get (x.hang.get k).a.toNat).right (x.sK.get (x.hang.get k).b.toNat).right).1==0) (.leaf (.tup XI) ([])) (.leaf (.tup (Vr k x)) ((Vn x)))))) (.br (decide ((x.hang.get k).j=2)) (.need (decide ((x.hang.get k).b.toNat<x.sK.n)) (.need (true) (.br ((KE x.d.pK (x.sK.get (x.hang.get k).a.toNat).right (x.sK.get (x.hang.get k).b.toNat).down).1==0) (.leaf (.tup XI) ([])) (.leaf (.tup (Vr k x)) ((Vn x)))))) (.need (decide ((x.hang.get k).b.toNat<x.sK.n)) (.need (true) (.br ((KE x.d.pK (x.sK.get (x.hang.get k).a.toNat).right (x.sK.get (x.hang.get k).b.toNat).left).1==0) (.leaf (.tup XI) ([])) (.leaf (.tup (Vr k x)) ((Vn x)))))))))))) (.br (decide ((x.hang.get k).i=2)) (.need (decide ((x.hang.get k).a.toNat<x.sK.n)) (.need (decide ((0:Int)<=(x.hang.get k).b/\(x.hang.get k).b<(x.sK.n:Int))&&decide (x.sK.n<=x.sK.n)) (.need (decide ((0:Int)<=(x.hang.get k).j/\(x.hang.get k).j<4)) (.br (decide ((x.hang.get k).j=0)) (.need (decide ((x.hang.get k).b.toNat<x.sK.n)) (.need (true) (.br ((KE x.d.pK (x.sK.get (x.hang.get k).a.toNat).down (x.sK.get (x.hang.get k).b.toNat).up).1==0) (.leaf (.tup XI) ([])) (.leaf (.tup (Vr k x)) ((Vn x)))))) (.br (decide ((x.hang.get k).j=1)) (.need (decide ((x.hang.get k).b.toNat<x.sK.n)) (.need (true) (.br ((KE x.d.pK (x.sK.get (x.hang.get k).a.toNat).down (x.sK.get (x.hang.get k).b.toNat).right).1==0) (.leaf (.tup XI) ([])) (.leaf (.tup (Vr k x)) ((Vn x)))))) (.br (decide ((x.hang.get k).j=2)) (.need (decide ((x.hang.get k).b.toNat<x.sK.n)) (.need (true) (.br ((KE x.d.pK (x.sK.get (x.hang.get k).a.toNat).down (x.sK.get (x.hang.get k).b.toNat).down).1==0) (.leaf (.tup XI) ([])) (.leaf (.tup (Vr k x)) ((Vn x)))))) (.need (decide ((x.hang.get k).b.toNat<x.sK.n)) (.need (true) (.br ((KE x.d.pK (x.sK.get (x.hang.get k).a.toNat).down (x.sK.get (x.hang.get k).b.toNat).left).1==0) (.leaf (.tup XI) ([])) (.leaf (.tup (Vr k x)) ((Vn x)))))))))))) (.need (decide ((x.hang.get k).a.toNat<x.sK.n)) (.need (decide ((0:Int)<=(x.hang.get k).b/\(x.hang.get k).b<(x.sK.n:Int))&&decide (x.sK.n<=x.sK.n)) (.need (decide ((0:Int)<=(x.hang.get k).j/\(x.hang.get k).j<4)) (.br (decide ((x.hang.get k).j=0)) (.need (decide ((x.hang.get k).b.toNat<x.sK.n)) (.need (true) (.br ((KE x.d.pK (x.sK.get (x.hang.get k).a.toNat).left (x.sK.get (x.hang.get k).b.toNat).up).1==0) (.leaf (.tup XI) ([])) (.leaf (.tup (Vr k x)) ((Vn x)))))) (.br (decide ((x.hang.get k).j=1)) (.need (decide ((x.hang.get k).b.toNat<x.sK.n)) (.need (true) (.br ((KE x.d.pK (x.sK.get (x.hang.get k).a.toNat).left (x.sK.get (x.hang.get k).b.toNat).right).1==0) (.leaf (.tup XI) ([])) (.leaf (.tup (Vr k x)) ((Vn x)))))) (.br (decide ((x.hang.get k).j=2)) (.need (decide ((x.hang.get k).b.toNat<x.sK.n)) (.need (true) (.br ((KE x.d.pK (x.sK.get (x.hang.get k).a.toNat).left (x.sK.get (x.hang.get k).b.toNat).down).1==0) (.leaf (.tup XI) ([])) (.leaf (.tup (Vr k x)) ((Vn x)))))) (.need (decide ((x.hang.get k).b.toNat<x.sK.n)) (.need (true) (.br ((KE x.d.pK (x.sK.get (x.hang.get k).a.toNat).left (x.sK.get (x.hang.get k).b.toNat).left).1==0) (.leaf (.tup XI) ([])) (.leaf (.tup (Vr k x)) ((Vn x))))))))))))))))))) (.leaf (.tup [.ptr 0 0 0,.ptr 50 0 0,.ptr 8 0 0]) ([(QHJ x),(0,.frz GJ x.d.ps.n λi=>QA.enc (x.d.ps.get i)),(1,.frz GJ x.sK.n λi=>QA.enc (x.sK.get i)),(QFq x)])):=by kernel_rfl
theorem QZP :QI 8 [AV.nilp,vj (11:Int)] ([]) QCd=( some [(11:Int)=(11:Int)]):=by kernel_rfl
abbrev QQj:List Prop:=
  [x.d.pK.aK=x.d.pK.aK,x.d.pK.oK=x.d.pK.oK,x.d.pK.dK.lo=x.d.pK.dK.lo,x.d.pK.dK.hi=x.d.pK.dK.hi,x.d.wide=x.d.wide,x.d.high =
  x.d.high,x.d.turn=x.d.turn,0=0,x.d.ps.n=x.d.ps.n,cO=cO,0=0,x.sK.n=x.sK.n,cO=cO,0=0,x.hang.n=x.hang.n,cO=cO,
  x.lost=x.lost,x.fK=x.fK,x.d.ps.n<=x.d.ps.n,QC 28 x.d.ps.n (λi=>QA.enc (x.d.ps.get i)) λi=>QA.enc (x.d.ps.get i),x.sK.n<=x.sK.n,QC 28
  x.sK.n (λi=>QA.enc (x.sK.get i)) λi=>QA.enc (x.sK.get i),x.hang.n<=x.hang.n,QC 4 x.hang.n (λi=>QA.enc (x.hang.get i)) λi=>QA.enc
  (x.hang.get i)]
theorem Qdf(k k':Nat):QI 8 [.ptr 8 0 0,.slz 2 0 x.hang.n cO,vi (x.hang.n:Int),vi (i64.wrap ((k:Int)+1))] ((Vn x)) (opJ x k')=(some ([0=0,0=0,0=0,x.hang.n=x.hang.n,cO=cO,(x.hang.n:Int)=(x.hang.n:Int),i64.wrap ((k:Int)+1)=(k':Int),x.d.pK.length=x.d.pK.length]++(QQj x))):=by kernel_rfl
theorem QXP :QI 8 [.ptr 8 0 0] ([(QHJ x),(0,.frz GJ x.d.ps.n λi=>QA.enc (x.d.ps.get i)),(1,.frz GJ x.sK.n λi=>QA.enc (x.sK.get i)),(QFq x)]) (QIj x)=(some ([0=0,0=0,x.d.pK.length=x.d.pK.length]++(QQj x))):=by kernel_rfl
def ze(s:QQ)(i:Int):Edge:=match decide (i=0)with
 | true=>s.up
 | false=>match decide (i=1)with
  | true=>s.right
  | false=>match decide (i=2)with
   | true=>s.down
   | false=>s.left
def VK:Bool:=(KE x.d.pK (ze (x.sK.get (x.hang.get k).a.toNat) (x.hang.get k).i) (ze (x.sK.get (x.hang.get k).b.toNat) (x.hang.get k).j)).1==0
def Ky:Bool:=(QN (VK x) x.hang.n 0).isSome
def opR(e:Ex)(J:JSt):Prop:=(e = .ret/\(QN (VK x) (x.hang.n-k) k).isSome=true/\J=QCd)∨(e = .exit 0/\(QN (VK x) (x.hang.n-k) k).isSome=false/\J=QIj x)
theorem Jo{x:QD}(h:x.ok=true):Kx x:=by
 simp only[QD.ok,QD.sz,Qe,qbA,qdE]at h;obtain⟨⟨h1,h2,h3,h4⟩,h5,h6,h7⟩:=h;refine⟨QJH h5,by omega,by omega,λk hk=>?_⟩
 have hj:Jf x k=false:=by
  have:jxO x=none:=by
   cases e:jxO x with
   | none=>rfl
   | some i=>rw[e]at h7;simp[Kq]at h7
  exact QAN this k (Nat.zero_le _) (by omega)
 have hs:i64.wrap ((x.sK.n:Int)-1)=(x.sK.n:Int)-1:=w64 (by omega) (by omega)
 simp only[Jf,qU,hs,Qe,Bool.or_eq_false_iff,Bool.not_eq_false',qbA,qdE]at hj;exact⟨⟨by omega,by omega⟩,by omega,by omega⟩
theorem Qa6(hx:Kx x):Kk (opJ x) (λk=>k<=x.hang.n) (λk=>x.hang.n-k) (opR x) 8 QLq [] (mkF prog Xl) (λ_=>hnd (mkF prog Xl) 0) (QT f35 0):=by
 refine⟨λk g hk=>Qp (Qdj x k g) ?_⟩;have h12:=hx.n;refine QH ?_ ?_<;>intro h
 .have h:k<x.hang.n:=by have:=qdt h;omega
  obtain⟨m,hm⟩:∃ m,x.hang.n-k=m+1:=⟨x.hang.n-k-1,by omega⟩
  have hm':x.hang.n-(k+1)=m:=by omega
  have hw:i64.wrap ((k:Int)+1)=((k+1:Nat):Int):=(w64 (by omega) (by omega)).trans (by omega)
  obtain⟨⟨b1,b2⟩,b3,b4⟩:=hx.j k h
  have go:VK x k=false->∀ e J,opR x (k+1) e J->opR x k e J:=λq e J h=>by
   have hf:QN (VK x) (x.hang.n-k) k=QN (VK x) (x.hang.n-(k+1)) (k+1):=by rw[hm,hm',QN,q]
   unfold opR at h ⊢;rw[hf];exact h
  have stop:VK x k=true->opR x k .ret QCd:=λq=>.inl ⟨rfl,by rw[hm,QN,q];rfl,rfl⟩
  generalize hj:x.hang.get k=j at *;have na:decide (j.a.toNat<x.sK.n)=true:=by simp;omega
  have nb:decide (j.b.toNat<x.sK.n)=true:=by simp;omega
  refine QF (by simp;omega) (QF (by simp;omega) (QF (by simp;omega) (QF (by simp;omega) ?_)))
  refine QH (λi0=>?_) (λi0=>QH (λi1=>?_) (λi1=>QH (λi2=>?_) (λi2=>?_)))
  all_goals
   refine QF na (QF (by simp;omega) (QF (by simp;omega) ?_))
   refine QH (λj0=>?_) (λj0=>QH (λj1=>?_) (λj1=>QH (λj2=>?_) (λj2=>?_)))
   all_goals
    refine QF nb (QF rfl (QH (λq=>?_) (λq=>?_)))
    .refine⟨_,stop ?_,rfl,rfl,_,QZP,⟨rfl,trivial⟩⟩;simp only[VK,hj,ze, *]
    .refine⟨k+1,by show k+1<=x.hang.n;omega,by show x.hang.n-(k+1)<x.hang.n-k;omega,go ?_,rfl,rfl,_,Qdf x k (k+1),?_⟩
     .simp only[VK,hj,ze, *]
     .repeat' first|exact tv|exact hw|refine aI ?_ ?_
 .have h:x.hang.n<=k:=by have:=qdf h;omega
  have hf:QN (VK x) (x.hang.n-k) k=none:=by rw[show x.hang.n-k=0 by omega];rfl
  refine⟨_,.inr ⟨rfl,by rw[hf];rfl,rfl⟩,rfl,rfl,_,QXP x,?_⟩
  repeat' first|exact tv|refine aI ?_ ?_
def opE(e:Int):UC:=⟨8,⟨1,[(0,.agg (K2 0 x))],JC 0 x,8⟩,λ_=>.tup [.nilp,.int false .i64 e],λ_=>[]⟩
def opO:UC:=⟨8,⟨1,[(0,.agg (K2 0 x))],JC 0 x,8⟩,λm=>.tup [.ptr m 0 0,.int true .i64 0],λm=>srO m (m+1) x C⟩
def opX:List (Prop×Ex×JSt):=[(Ky x=true,.ret,QCd),(Ky x=false,.exit 0,QIj x)]
def jJ(pb:List Prop->Bool)(x:QD)(C:List (List QB)):Tab:=Qh Qu 74 (Jj pb (nsU x C))
abbrev opH(P:Program)(T:Tab)(x:QD):Hnd:={ hnd (mkE P T) 1 with loop:=λ_=>Q4 8 [] (opJ x (0:Nat)) (opX x) }
abbrev QOn:List CK:=
  [.int .i64,.int .i64,.int .i64,.int .i64,.int .i64,.int .i64,.int .i64,.int .i64,.int .i64,.int .i64,.int .i64,.int .i64,.int .i64,.int .i64,.int .i64,.int .i64,.int
  .i64,.int .i64,.int .i64,.int .i64,.int .i64,.int .i64,.int .i64,.int .i64,.int .i64,.int .i64,.int .i64,.int .i64]
noncomputable abbrev QPi(x:QD):List (Nat×Blk):=
  [(48,.cells 0 149 [vi x.d.pK.length,vi x.d.pK.aK,vi x.d.pK.oK,vi x.d.pK.dK.lo,.int false .i64
  x.d.pK.dK.hi,vi x.d.wide,vi x.d.high,.bool false x.d.turn,.slz 0 0 x.d.ps.n cO,.slz 1 0 x.sK.n cO,.slz 2 0 x.hang.n (Cap.of
  0),vi x.lost,vi x.fK,.slz 49 0 C.length cO]),(0,.frz QOn x.d.ps.n λi=>QA.enc (x.d.ps.get i)),(1,.frz QOn x.sK.n λi=>
  QA.enc (x.sK.get i)),(2,.frz [.int .i64,.int .i64,.int .i64,.int .i64] x.hang.n λi=>QA.enc (x.hang.get i)),(49,.frz2 true 38 kB C.length (fun
  i=>(QG C i).length) λi j=>QA.enc ((QG C i).getD j ⟨0,0⟩))]
theorem QP5(pb:List Prop->Bool)(x:QD)(C:List (List QB)):Js (mkE prog (jJ pb x C)) (opH prog (jJ pb x C) x) f35 (opO x C) = .need (decide (x.d.ps.n<=x.d.ps.n)&&(decide (x.sK.n<=x.sK.n)&&(decide (x.hang.n<=x.hang.n)&&true))&&decide (x.d.ps.n<=1000/\x.sK.n<=1000/\x.hang.n<=1000)) (.br (!x.ok) (.leaf (.tup [.nilp,vj 1]) ([])) (.ak [0=0,0=0,0=0,x.hang.n=x.hang.n,cO=cO,(x.hang.n:Int)=(x.hang.n:Int),(0:Int)=0] (.ak (xq x) (.ak (xp x) (.both (.asm (Ky x=true) (.all (λ(g0:Nat->Value)=>.leaf (.tup [.nilp,vi 11]) ([])))) (.asm (Ky x=false) (.all (λ(g1:Nat->Value)=>.need (pb (xq x++(xp x))) (.leaf (.tup [.ptr 48 0 0,vj 0]) ((QPi C x))))))))))):=by kernel_rfl
abbrev opN(P : Program): Hnd := { hnd (mkE P Qu) 1 with loop := λ_ _ _=>.fail "a loop" }
theorem QcW:Js (mkE prog Qu) (opN prog) f35 (opE x 1) =
  QE.need (decide (x.d.ps.n <= x.d.ps.n) && (decide (x.sK.n <= x.sK.n) && (decide (x.hang.n <= x.hang.n) && true)) && decide (x.d.ps.n <= (1000 : Nat) /\ x.sK.n <= (1000 : Nat) /\ x.hang.n <= (1000 : Nat))) (QE.br (!x.ok) (QE.leaf (AV.tup [AV.nilp, AV.int true i64 (1 : Int)]) ([])) (QE.fail ("a loop"))) := by kernel_rfl
theorem QaZ(e:Int):QI 8 [(AV.tup [AV.nilp,vj (1:Int)])] ([]) (Kb (opE x e))=( some [(1:Int)=e]):=by kernel_rfl
theorem Qca(e:Int):QI 8 [(AV.tup [AV.nilp,vi (11:Int)])] ([]) (Kb (opE x e))=( some [(11:Int)=e]):=by kernel_rfl
theorem Qci :QI 8 [(.tup [.ptr 48 0 0,vj 0])] ((QPi C x)) (Kb (opO x C))=(some ([0=0,0=0,(0:Int)=0]++(xq x++([0=0,C.length=C.length,cO=cO,C.length=C.length,Q1 2 C.length (λi=>(QG C i).length) (λi=>(QG C i).length) (λi j=>QA.enc ((QG C i).getD j ⟨0,0⟩)) λi j=>QA.enc ((QG C i).getD j ⟨0,0⟩)])))):=by kernel_rfl
theorem QMK(e:Int):(opE x e).Ok:=by
 refine⟨(by decide:8<=8),rfl,rfl,?_,rfl,λnid h=>rfl,λnid h=>rfl⟩
 intro q hq;simp only[UC.po,opE,List.not_mem_nil]at hq
theorem Qe2:(opO x C).Ok:=by
 refine⟨(by decide:8<=8),rfl,rfl,?_,rfl,λnid h=>?_,λnid h=>?_⟩
 .intro q hq;simp only[UC.po,opO,srO,Jm,List.mem_cons,List.not_mem_nil,or_false]at hq;rcases hq with rfl|rfl
  .exact⟨rfl,rfl,rfl,λh=>absurd (show 8<8 from h) (by decide)⟩
  .exact⟨rfl,rfl,rfl,λh=>absurd (show 9<8 from h) (by decide)⟩
 .have e0:=qo 0 nid;simp only[UC.va,opO,AV.mapId,AV.mapIdL,Nat.add_zero]at e0 ⊢;rw[e0]
 .have e0:=qo 0 nid;have e1:=qo 1 nid;have l0:=zj (i:=0) (by decide) nid
  have l1:=zj (i:=1) (by decide) nid
  have l2:=zj (i:=2) (by decide) nid
  simp only[UC.po,opO,srO,Jm,K2,KD.val,List.cons_append,List.nil_append,List.map_cons,List.map_nil,Blk.mapId,AV.mapId,AV.mapIdL,Nat.add_zero,Nat.zero_add]at e0 e1 l0 l1 l2 ⊢;rw[e0,e1,l0,l1,l2]
structure XZ (x:QD):Prop where
 d:x.d.ps.n<=1000
 s:x.sK.n<=1000
 h:x.hang.n<=1000
theorem QHM{x:QD}(hx:Kx x):QZ (jJ QV x (Qn x x.sK.n)):=by
 have:=hx.d.n9;have:=hx.s;exact KC.add (QUX x (by omega) (by omega))
theorem QJU{x:QD}(hx:Kx x)(G:Ctx)(hrd:G.rd=none)(hG:G.n=8):Q8 (mkE prog (jJ QV x (Qn x x.sK.n))) G (opH prog (jJ QV x (Qn x x.sK.n)) x) (Qi f35):=by
 have hE:=QL (QHM hx);refine Kg (body:=QT f35 0) hE hrd (by kernel_rfl) ?_
 refine YG (E:=mkF prog Xl) rfl (Kr (n0:=8) (Wk zT) (by omega) (λs hs=>Qw (Wk zT) 0 G _ hrd) (λs hs=>(by decide:8<=40)) ?_ (Qa6 x hx) (s0:=0) (Nat.zero_le _) ?_)
 .rintro s e J (⟨_,_,rfl⟩|⟨_,_,rfl⟩)<;>exact(by decide:8<=40)
 .rintro e J (⟨rfl,h,rfl⟩|⟨rfl,h,rfl⟩)
  .exact⟨_,qmc,h,rfl,rfl⟩
  .exact⟨_,List.mem_cons_of_mem _ qmc,h,rfl,rfl⟩
theorem Qgs(G:Ctx)(hrd:G.rd=none):Q8 (mkE prog Qu) G (opN prog) (Qi f35):=
 Kg (body:=QT f35 0) (QL KC) hrd (by kernel_rfl) (λ_ _ _ _ _ _ _ h _ _=>h.elim)
theorem QDa(hs:XZ x)(hx:x.ok=false):QO prog 35 (uFC (opE x 1)):=by
 refine JT (E:=mkE prog Qu) (QL KC) func35 (by kernel_rfl) (by kernel_rfl) (QMK ..) (λG h1 _=>Qgs G h1) ⟨?_⟩
 refine Qp (QcW x) ?_;refine QF (by simp;exact⟨hs.d,hs.s,hs.h⟩) (QH (λh=>?_) (λh=>?_))
 .exact⟨rfl,rfl,_,QaZ x 1,⟨rfl,trivial⟩⟩
 .rw[hx]at h;cases h
theorem QCo(hs:XZ x)(hx:x.ok=true)(hr:Ky x=true):QO prog 35 (uFC (opE x 11)):=by
 refine JT (E:=mkE prog (jJ QV x (Qn x x.sK.n))) (QL (QHM (Jo hx))) func35 (by kernel_rfl) (by kernel_rfl) (QMK ..) (QJU (Jo hx)) ⟨?_⟩
 generalize Qn x x.sK.n=C;refine Qp (QP5 QV x C) ?_;refine QF (by simp;exact⟨hs.d,hs.s,hs.h⟩) (QH (λh=>by rw[hx]at h;cases h) (λh=>?_))
 repeat' first|refine QX (p:=_=_) rfl ?_|refine QX (p:=_<=_) (qlr _) ?_|refine QX (p:=QC _ _ _ _) (qRr) ?_
 refine Vx (KB λ_=>Q7 λg=>?_) (KB λh3=>by rw[hr]at h3;cases h3)
 exact⟨rfl,rfl,_,Qca x 11,⟨rfl,trivial⟩⟩
theorem qx(hs:XZ x)(hx:x.ok=true)(hr:Ky x=false):QO prog 35 (uFC (opO x (Qn x x.sK.n))):=by
 refine JT (E:=mkE prog (jJ QV x (Qn x x.sK.n))) (QL (QHM (Jo hx))) func35 (by kernel_rfl) (by kernel_rfl) (Qe2 ..) (QJU (Jo hx)) ⟨?_⟩
 generalize Qn x x.sK.n=C;refine Qp (QP5 QV x C) ?_;refine QF (by simp;exact⟨hs.d,hs.s,hs.h⟩) (QH (λh=>by rw[hx]at h;cases h) (λh=>?_))
 repeat' first|refine QX (p:=_=_) rfl ?_|refine QX (p:=_<=_) (qlr _) ?_|refine QX (p:=QC _ _ _ _) (qRr) ?_
 refine Vx (KB λh3=>by rw[hr]at h3;cases h3) (KB λ_=>Q7 λg=>?_)
 refine QF (KP.2 ?_) ⟨rfl,rfl,_,Qci x C,?_⟩
 .repeat' first|exact tv|refine aI ?_ ?_
 .repeat' first|exact tv|refine aI ?_ ?_
def mmB(sure may all:Int):List (Nat×Blk):=[(200,.frz kB l.length λi=>QA.enc (l.getD i ⟨0,0⟩)),(16,.cells 0 3 [vi sure]),(24,.cells 0 3 [vi may]),(160,.cellsR 0 3 [vi all])]
def mmJ(n sure may all has:Int)(k:Nat):JSt:=⟨34,[(0,.int false .i64 n),(2,.ptr 16 0 0),(3,.ptr 24 0 0),(4,.ptr 160 0 0),(8,.ptr 216 0 0),(11,.slz 200 0 l.length (.of 0)),(12,.int false .i64 l.length),(13,.int false .i64 k)],[(216,.cells 0 91 [.int false .i64 has])]++mmB l sure may all,248⟩
def mmE(n sure may all has:Int):JSt:=⟨34,[(0,.int false .i64 n),(2,.ptr 16 0 0),(3,.ptr 24 0 0),(4,.ptr 160 0 0),(8,.ptr 216 0 0)],[(216,.cells 0 91 [.int false .i64 has]),(16,.cells 0 3 [.int false .i64 sure]),(24,.cells 0 3 [.int false .i64 may]),(160,.cellsR 0 3 [.int false .i64 all])],248⟩
def QQ4:Ex->List Nat
 | .normal=>[0,2,3,4,8,11,12,13]
 | .exit _=>[0,2,3,4,8]
 | .ret=>[]
noncomputable abbrev QL6(l:List QB)(n:Int):List AV:=
  [.nilp,.ptr 34 0 0,vi n,.ptr 16 0 0,.ptr 24 0 0,.ptr 160 0 0,.ptr 216 0 0,.slz 200 0 l.length cO,vi (l.length:Int),.int false .i64
  (i64.wrap ((k:Int)+1))]
noncomputable abbrev QPo(l:List QB)(may:Int)(sure:Int):List (Nat×Blk):=
  [(16,.cells 0 3 [vi sure]),(24,.cells 0 3 [vi may]),(160,.cellsR 0 3 [vi all]),(216,.cells 0 91 [vi (i64.wrap
  (↑(BitVec.ofInt 64 has ||| BitVec.ofInt 64 (i64.wrap ((1:Int)*2^min (l.getD k ⟨0,0⟩).cell.toNat 64))).toNat:Int))]),(200,.frz kB l.length fun
  i=>QA.enc (l.getD i ⟨0,0⟩))]
theorem QT1(n sure may all has:Int)(k:Nat)(g:Nat->Value):exec (mkE prog Qu) (hnd (mkE prog Qu) 3) (QT f44 0) (JSt.inst (mmJ l n sure may all has k) g) (KG [16,24] QQ4) = .br (decide ((k:Int)<(l.length:Int))) (.need (decide ((0:Int)<=(k:Int)/\(k:Int)<(l.length:Int))&&decide (l.length<=l.length)) (.need (decide (k<l.length)) (.br ((l.getD k ⟨0,0⟩).cell != -2) (.need (decide ((0:Int)<=(l.getD k ⟨0,0⟩).cell)) (.leaf (.tup (QL6 k l n)) ((QPo all has k l may sure)))) (.leaf (.tup (QL6 k l n)) ([(16,.cells 0 3 [vi sure]), (24,.cells 0 3 [vi may]),(160,.cellsR 0 3 [vi all]),(216,.cells 0 91 [vi has]),(200,.frz kB l.length λi=>QA.enc (l.getD i ⟨0,0⟩))]))))) (.leaf (.tup [.ptr 0 0 0,.ptr 34 0 0,vi n,.ptr 16 0 0,.ptr 24 0 0,.ptr 160 0 0,.ptr 216 0 0]) ([(16,.cells 0 3 [vi sure]),(24,.cells 0 3 [vi may]),(160,.cellsR 0 3 [vi all]),(216,.cells 0 91 [vi has])])):=by kernel_rfl
abbrev Qdr:List Prop:=
  [0=0,0=0,0=0,0=0,0=0]
theorem QUN(n sure may all has has':Int)(k k':Nat):QI 208 [vi n,.ptr 16 0 0,.ptr 24 0 0,.ptr 160 0 0,.ptr 216 0 0,.slz 200 0 l.length cO,vi (l.length:Int),vi (i64.wrap ((k:Int)+1))] ((QPo all has k l may sure)) (mmJ l n sure may all has' k')=(some ([n=n]++Qdr++[0=0,0=0,0=0,0=0,l.length=l.length, cO=cO,(l.length:Int)=(l.length:Int),i64.wrap ((k:Int)+1)=(k':Int),i64.wrap (↑(BitVec.ofInt 64 has ||| BitVec.ofInt 64 (i64.wrap ((1:Int)*2^min (l.getD k ⟨0,0⟩).cell.toNat 64))).toNat:Int)=has',l.length<=l.length,QC 2 l.length (λi=>QA.enc (l.getD i ⟨0,0⟩)) λi=>QA.enc (l.getD i ⟨0,0⟩),sure=sure,may=may,all=all])):=by kernel_rfl
theorem QY9(n sure may all has has':Int)(k k':Nat):QI 208 [vi n,AV.ptr (16:Nat) (0:Nat) (0:Nat),AV.ptr (24:Nat) (0:Nat) (0:Nat),AV.ptr (160:Nat) (0:Nat) (0:Nat),AV.ptr (216:Nat) (0:Nat) (0:Nat),AV.slz (200:Nat) (0:Nat) l.length cO,vi (↑l.length:Int),vi (i64.wrap ((↑k:Int)+(1:Int)))] ([((16:Nat),Blk.cells (0:Nat) (3:Nat) [vi sure]),((24:Nat),Blk.cells (0:Nat) (3:Nat) [vi may]),((160:Nat),Blk.cellsR (0:Nat) (3:Nat) [vi all]),((216:Nat),Blk.cells (0:Nat) (91:Nat) [vi has]),((200:Nat),Blk.frz [CK.int i64,CK.int i64] l.length λi=>QA.enc (l.getD i (QB.mk (0:Int) (0:Int))))]) (mmJ l n sure may all has' k')=( some ([n=n]++(rz 9++([l.length=l.length,cO=cO,(↑l.length:Int)=(↑l.length:Int),i64.wrap ((↑k:Int)+(1:Int))=(↑k':Int),has=has',l.length<=l.length,QC (2:Nat) l.length (λi=>QA.enc (l.getD i (QB.mk (0:Int) (0:Int)))) λi=>QA.enc (l.getD i (QB.mk (0:Int) (0:Int))),sure=sure,may=may,all=all])))):=by kernel_rfl
theorem QUz(n sure may all has has':Int):QI 208 [vi n,AV.ptr (16:Nat) (0:Nat) (0:Nat),AV.ptr (24:Nat) (0:Nat) (0:Nat),AV.ptr (160:Nat) (0:Nat) (0:Nat),AV.ptr (216:Nat) (0:Nat) (0:Nat)] ([((16:Nat),Blk.cells (0:Nat) (3:Nat) [vi sure]),((24:Nat),Blk.cells (0:Nat) (3:Nat) [vi may]),((160:Nat),Blk.cellsR (0:Nat) (3:Nat) [vi all]),((216:Nat),Blk.cells (0:Nat) (91:Nat) [vi has])]) (mmE n sure may all has')=( some ([n=n]++(rz 8++([has=has',sure=sure,may=may,all=all])))):=by kernel_rfl
def Vl(s c:Int):Int:=i64.wrap ((BitVec.ofInt 64 s ||| BitVec.ofInt 64 (i64.wrap (1*2^min c.toNat 64))).toNat:Nat)
def QCj(s:Int)(x:QB):Int:=match x.cell != -2 with
 | true=>Vl s x.cell
 | false=>s
def Ku(l:List QB):Nat->Int
 | 0=>0
 | k+1=>QCj (Ku l k) (l.getD k ⟨0,0⟩)
structure jd (l:List QB):Prop where
 le:l.length<=1000
 s:∀ i,i<l.length->(l.getD i ⟨0,0⟩).cell = -2∨0<=(l.getD i ⟨0,0⟩).cell
theorem Qfo(n sure may all:Int)(hl:jd l):Kk (λk=>mmJ l n sure may all (Ku l k) k) (λk=>k<=l.length) (λk=>l.length-k) (λ_ e J=>e = .exit 0/\J=mmE n sure may all (Ku l l.length)) 208 QQ4 [16,24] (mkE prog Qu) (λ_=>hnd (mkE prog Qu) 3) (QT f44 0):=by
 refine⟨λk g hk=>Qp (QT1 l n sure may all (Ku l k) k g) ?_⟩;have hle:=hl.le;refine QH ?_ ?_<;>intro h
 .have h:k<l.length:=by have:=qdt h;omega
  have hw:i64.wrap ((k:Int)+1)=((k+1:Nat):Int):=(w64 (by omega) (by omega)).trans (by omega)
  have hs:=hl.s k h;refine QF (by simp;omega) (QF (by simp;omega) (QH (λhc=>QF ?_ ?_) (λhc=>?_)))
  .have:¬ (l.getD k ⟨0,0⟩).cell = -2:=by simpa using hc
   exact qde (by omega)
  .refine⟨k+1,h,by show l.length-(k+1)<l.length-k;omega,λ_ _ h=>h,rfl,rfl,_,QUN l n sure may all (Ku l k) (Ku l (k+1)) k (k+1),?_⟩
   have e:Vl (Ku l k) (l.getD k ⟨0,0⟩).cell=Ku l (k+1):=by simp only[Ku,QCj,hc]
   repeat' first|exact tv|exact hw|exact e|refine aI ?_ ?_
  .refine⟨k+1,h,by show l.length-(k+1)<l.length-k;omega,λ_ _ h=>h,rfl,rfl,_,QY9 l n sure may all (Ku l k) (Ku l (k+1)) k (k+1),?_⟩
   have e:Ku l k=Ku l (k+1):=by simp only[Ku,QCj,hc]
   repeat' first|exact tv|exact hw|exact e|refine aI ?_ ?_
 .have:k=l.length:=by have:=qdf h;omega
  subst this;refine⟨_,⟨rfl,rfl⟩,rfl,rfl,_,QUz n sure may all _ _,?_⟩
  repeat' first|exact tv|refine aI ?_ ?_
abbrev mmH(P:Program)(l:List QB)(n sure may all has:Int):Hnd:={ hnd (mkE P Qu) 1 with loop:=λ_=>Q4 208 [16,24] (mmJ l n sure may all 0 (0:Nat)) [(True,.exit 0,mmE n sure may all has)] }
theorem QXL(n sure may all:Int)(hl:jd l)(G:Ctx)(hrd:G.rd=none)(hG:G.n=208):Q8 (mkE prog Qu) G (mmH prog l n sure may all (Ku l l.length)) (Qi f44):=by
 refine Kg (body:=QT f44 0) (QL KC) hrd (by kernel_rfl) ?_
 refine Kr (n0:=208) (QL KC) (by omega) (λs hs=>Qw (QL KC) 3 G _ hrd) (λs hs=>(by decide:208<=248)) ?_ (Qfo l n sure may all hl) (s0:=0) (Nat.zero_le _) ?_
 .rintro s e J ⟨_,rfl⟩;exact(by decide:208<=248)
 .rintro e J ⟨rfl,rfl⟩;exact⟨_,qmc,trivial,rfl,rfl⟩
def VR(a b:Int):Int:=i64.wrap ((BitVec.ofInt 64 a &&& ~~~BitVec.ofInt 64 b).toNat:Nat)
def orN(a b:Int):Int:=i64.wrap ((BitVec.ofInt 64 a ||| BitVec.ofInt 64 b).toNat:Nat)
def mmU(n sure may all has:Int):UC:=⟨32,⟨5,[(0,.int false .i64 n),(1,.slz 200 0 l.length (.of 0)),(2,.ptr 16 0 0),(3,.ptr 24 0 0),(4,.ptr 160 0 0)],mmB l sure may all,208⟩,λ_=>.int false .i64 n,λ_=>[(16,.cells 0 3 [.int false .i64 (VR sure has)]),(24,.cells 0 3 [.int false .i64 (orN may (VR all has))])]⟩
theorem QUE(n sure may all has:Int):Js (mkE prog Qu) (mmH prog l n sure may all has) f44 (mmU l n sure may all has)=QE.ask (n=n) (QE.ask (0=0) (QE.ask (0=0) (QE.ask (0=0) (QE.ask (0=0) (QE.ask (0=0) (QE.ask (0=0) (QE.ask (0=0) (QE.ask (0=0) (QE.ask (0=0) (QE.ask (l.length=l.length) (QE.ask (cO=cO) (QE.ask ((↑l.length:Int)=(↑l.length:Int)) (QE.ask ((0:Int)=(0:Int)) (QE.ask ((0:Int)=(0:Int)) (QE.ask (l.length<=l.length) (QE.ask (QC (2:Nat) l.length (λi=>QA.enc (l.getD i (QB.mk (0:Int) (0:Int)))) λi=>QA.enc (l.getD i (QB.mk (0:Int) (0:Int)))) (QE.ask (sure=sure) (QE.ask (may=may) (QE.ask (all=all) (QE.asm (True) (QE.all (λ(g0:Nat->Value)=>QE.leaf (vi n) ([((16:Nat), Blk.cells (0:Nat) (3:Nat) [vi (i64.wrap (↑(BitVec.ofInt (64:Nat) sure &&& ~~~BitVec.ofInt (64:Nat) has).toNat:Int))]),((24:Nat),Blk.cells (0:Nat) (3:Nat) [vi (i64.wrap (↑(BitVec.ofInt (64:Nat) may ||| BitVec.ofInt (64:Nat) (i64.wrap (↑(BitVec.ofInt (64:Nat) all &&& ~~~BitVec.ofInt (64:Nat) has).toNat:Int))).toNat:Int))])]))))))))))))))))))))))):=by kernel_rfl
theorem QYA(n sure may all has:Int):QI 208 [(vi n)] ([((16:Nat),Blk.cells (0:Nat) (3:Nat) [vi (i64.wrap (↑(BitVec.ofInt (64:Nat) sure &&& ~~~BitVec.ofInt (64:Nat) has).toNat:Int))]),((24:Nat),Blk.cells (0:Nat) (3:Nat) [vi (i64.wrap (↑(BitVec.ofInt (64:Nat) may ||| BitVec.ofInt (64:Nat) (i64.wrap (↑(BitVec.ofInt (64:Nat) all &&& ~~~BitVec.ofInt (64:Nat) has).toNat:Int))).toNat:Int))])]) (Kb (mmU l n sure may all has))=( some [n=n,i64.wrap (↑(BitVec.ofInt (64:Nat) sure &&& ~~~BitVec.ofInt (64:Nat) has).toNat:Int)=VR sure has,i64.wrap (↑(BitVec.ofInt (64:Nat) may ||| BitVec.ofInt (64:Nat) (i64.wrap (↑(BitVec.ofInt (64:Nat) all &&& ~~~BitVec.ofInt (64:Nat) has).toNat:Int))).toNat:Int)=orN may (VR all has)]):=by kernel_rfl
theorem QTk(n sure may all:Int)(hl:jd l):QO prog 44 (uFC (mmU l n sure may all (Ku l l.length))):=by
 refine JT (E:=mkE prog Qu) (QL KC) func44 (by kernel_rfl) (by kernel_rfl) ?_ (QXL l n sure may all hl) ⟨?_⟩
 .refine⟨(by decide:32<=208),rfl,rfl,?_,rfl,λ_ _=>rfl,λ_ _=>rfl⟩
  intro q hq;simp only[UC.po,mmU,List.mem_cons,List.not_mem_nil,or_false]at hq;rcases hq with rfl|rfl<;>exact⟨rfl,rfl,rfl,λ_=>rfl⟩
 refine Qp (QUE l n sure may all (Ku l l.length)) ?_
 repeat' first|refine QF rfl ?_|refine QX (p:=_=_) rfl ?_|refine QX (p:=_<=_) (qlr _) ?_|refine QX (p:=QC _ _ _ _) (qRr) ?_
 refine KB λ_=>Q7 λg=>⟨rfl,rfl,_,QYA l n sure may all _,?_⟩
 repeat' first|exact tv|exact(show _=VR _ _ from rfl)|exact(show _=orN _ _ from rfl)|refine aI ?_ ?_
inductive Res (σ:Type) where
 | go (s:σ) (has:Int->Bool)
 | stop (s:σ) (has:Int->Bool)
def QJ(c:Int):Int:=(l.countP λs=>s.cell==c:Nat)
def J2{σ:Type}(f:σ->(Int->Bool)->QB->Res σ):List QB->σ->(Int->Bool)->Res σ
 | [],s,h => .go s h
 | c::l,s,h=>match f s h c with
  | .go s h=>J2 f l s h
  | .stop s h => .stop s h
def JO(c:QB):Bool:=decide (QJ l c.cell≥(match c.cell == -2 with|true=>x.fK|false=>1))
theorem XO{x:QD}{l:List QB}:JO x l c=decide (QJ l c.cell≥cond (c.cell == -2) x.fK 1):=by unfold JO;cases c.cell == -2<;>rfl
theorem QK:∀{a b:List Prop},KX a->KX b->KX (a++b)
 | [],_,_,h=>h
 | _::_,_,h,g=>⟨h.1,QK h.2 g⟩
abbrev mkC(P:Program)(C:Tab):Env:=⟨P,C,vJ P,false,λ_=>false,true,false,false⟩
theorem Ws{C:Tab}(hC:QZ C):(mkC prog C).Sound:={ c:=hC,m:=QAn prog,mixed:=HL }
def YF:Bool:=decide ((x.d.ps.n:Int)-((l.length:Int)-QJ l (-2))>x.lost)
def Ki(rec:σ->(Int->Bool)->QB->Res σ)(s:σ)(h:Int->Bool)(c:QB):Res σ:=match JO x l c with
 | true => .go s h
 | false=>match Kn x (l++[c])with
  | false => .go s (Qc c.cell true (Qc c.cell true h))
  | true=>match rec s (Qc c.cell true h) c with
   | .go s h => .go s (Qc c.cell true h)
   | .stop s h => .stop s (Qc c.cell true h)
def J4(Y:σ->List QB->σ×Bool)(l:List QB)(s:σ)(h:Int->Bool):Res σ:=match YF x l with
 | true => .go s h
 | false=>match Y s l with
  | (s,true) => .go s h
  | (s,false) => .stop s h
def onT{σ:Type}(x:QD)(C:List (List QB))(Y:σ->List QB->σ×Bool):Nat->List QB->σ->(Int->Bool)->Res σ
 | 0,l,s,h=>J4 x Y l s h
 | d+1,l,s,h=>J2 (Ki x l λs h c=>onT x C Y d (l++[c]) s h) (QG C l.length) s h
theorem Z1(c:QB)(n:Int):QJ (l++[c]) n=if c.cell=n then QJ l n+1 else QJ l n:=by
 unfold QJ;rw[List.countP_append]
 by_cases h:c.cell=n
 .rw[if_pos h];simp[h]
 .rw[if_neg h];simp[h]
theorem jC:0<=QJ l n:=Int.natCast_nonneg _
theorem j7:QJ l n<=l.length:=by
 unfold QJ;have:=List.countP_le_length (p:=λs:QB=>s.cell==n) (l:=l);omega
abbrev Yn:Int->AV:=λc=>.int false .i64 (QJ l c)
theorem K7(z:Bool)(h:Int->Bool)(l:List QB):Ka (.int z .i64 0) (.int true .i64 0) h h (Yn l) (Yn l):=⟨λ_=>rfl,rfl,λ_=>rfl,λ_=>⟨λ_=>rfl,rfl⟩⟩
theorem QA0(z b:Bool){l:List QB}{n:Int}(hl:l.length<=1000)(hn:n=i64.wrap (QJ l c.cell+1))(h:Int->Bool):Ka (.int z .i64 0) (.int true .i64 0) h h (KO c.cell (.int b .i64 n) (Yn l)) (Yn (l++[c])):=by
 have h1:=jC l c.cell;have h2:=j7 l c.cell;have hw:i64.wrap (QJ l c.cell+1)=QJ l c.cell+1:=w64 (by omega) (by omega)
 refine⟨λ_=>rfl,rfl,λ_=>rfl,λk=>⟨λr=>?_,rfl⟩⟩;simp only[KO]
 by_cases e:k=c.cell
 .subst e;have q:QJ (l++[c]) c.cell=QJ l c.cell+1:=by rw[Z1,if_pos rfl]
  simp only[decide_true,hn,hw,Yn,q];rfl
 .have q:QJ (l++[c]) k=QJ l k:=by rw[Z1,if_neg (λq=>e q.symm)]
  simp only[e,decide_false,Yn,q]
theorem Ga(z b:Bool){l:List QB}{n:Int}(hl:l.length<=1000)(hn:n=i64.wrap (QJ (l++[c]) c.cell-1))(h:Int->Bool):Ka (.int z .i64 0) (.int true .i64 0) h h (KO c.cell (.int b .i64 n) (Yn (l++[c]))) (Yn l):=by
 have h1:=jC l c.cell;have h2:=j7 l c.cell
 have hw:i64.wrap (QJ (l++[c]) c.cell-1)=QJ l c.cell:=by
  rw[Z1,if_pos rfl];exact(w64 (by omega) (by omega)).trans (by omega)
 refine⟨λ_=>rfl,rfl,λ_=>rfl,λk=>⟨λr=>?_,rfl⟩⟩;simp only[KO]
 by_cases e:k=c.cell
 .subst e;simp only[decide_true,hn,hw];rfl
 .have q:QJ (l++[c]) k=QJ l k:=by rw[Z1,if_neg (λq=>e q.symm)]
  simp only[e,decide_false,Yn,q]
theorem Hp(z b b':Bool){l:List QB}{m n:Int}(hl:l.length<=1000)(hm:n=i64.wrap (i64.wrap (QJ l c.cell+1)-1))(h:Int->Bool):Ka (.int z .i64 0) (.int true .i64 0) h h (KO c.cell (.int b .i64 n) (KO c.cell (.int b' .i64 m) (Yn l))) (Yn l):=by
 have h1:=jC l c.cell;have h2:=j7 l c.cell;have hw:i64.wrap (QJ l c.cell+1)=QJ l c.cell+1:=w64 (by omega) (by omega)
 have hw2:i64.wrap (QJ l c.cell+1-1)=QJ l c.cell:=(w64 (by omega) (by omega)).trans (by omega)
 rw[hw,hw2]at hm;refine⟨λ_=>rfl,rfl,λ_=>rfl,λk=>⟨λr=>?_,rfl⟩⟩;simp only[KO]
 by_cases e:k=c.cell
 .subst e;simp only[decide_true,hm];rfl
 .simp only[e,decide_false]
def rwL(id:Nat)(l:List QB):Nat×Blk:=(id,.rowz true 80 kB l.length λi=>QA.enc (l.getD i ⟨0,0⟩))
theorem Zo(c:QB)(n:Nat)(hn:n=l.length):QC 2 (l++[c]).length (Qa n (λi=>QA.enc (l.getD i ⟨0,0⟩)) (QU [[.int false .i64 c.cell,.int false .i64 c.turn]] 0)) (λi=>QA.enc ((l++[c]).getD i ⟨0,0⟩)):=by
 subst hn;intro i hi;have hi:i<l.length+1:=by simpa using hi
 show eqF 2 0 (Qa l.length (λi=>QA.enc (l.getD i ⟨0,0⟩)) (QU [[.int false .i64 c.cell,.int false .i64 c.turn]] 0) i) (QA.enc ((l++[c]).getD i ⟨0,0⟩))
 by_cases h:i<l.length
 .have e:(l++[c]).getD i ⟨0,0⟩=l.getD i ⟨0,0⟩:=by
   rw[List.getD_eq_getElem?_getD,List.getD_eq_getElem?_getD,List.getElem?_append_left h]
  have e2:Qa l.length (λi=>QA.enc (l.getD i (⟨0,0⟩:QB))) (QU [[.int false .i64 c.cell,.int false .i64 c.turn]] 0) i=QA.enc (l.getD i ⟨0,0⟩):=by
   funext j;rw[Vb,if_pos h]
  rw[e,e2];exact⟨rfl,rfl,trivial⟩
 .have q:i=l.length:=by omega
  subst q;have e:(l++[c]).getD l.length ⟨0,0⟩=c:=by simp
  have e2:Qa l.length (λi=>QA.enc (l.getD i (⟨0,0⟩:QB))) (QU [[.int false .i64 c.cell,.int false .i64 c.turn]] 0) l.length=QU [[.int false .i64 c.cell,.int false .i64 c.turn]] 0 0:=by
   funext j;rw[Vb,if_neg h,Nat.sub_self]
  rw[e,e2];exact⟨rfl,rfl,trivial⟩
theorem G5(c:QB):QC 2 l.length (λi=>QA.enc ((l++[c]).getD i ⟨0,0⟩)) (λi=>QA.enc (l.getD i ⟨0,0⟩)):=by
 intro i hi
 have e:(l++[c]).getD i ⟨0,0⟩=l.getD i ⟨0,0⟩:=by
  rw[List.getD_eq_getElem?_getD,List.getD_eq_getElem?_getD,List.getElem?_append_left hi]
 show eqF 2 0 (QA.enc ((l++[c]).getD i ⟨0,0⟩)) (QA.enc (l.getD i ⟨0,0⟩));rw[e];exact⟨rfl,rfl,trivial⟩
theorem Z0(c:QB):l.length+1=(l++[c]).length:=by simp
theorem Zu(c:QB):(l++[c]).length<=l.length+1:=by simp
theorem QAa(c:QB)(hl:l.length<=1000):(i64.wrap (((l++[c]).length:Int)-1)).toNat=l.length:=by
 rw[List.length_append,List.length_singleton,w64 (by omega) (by omega)];omega
theorem G8(hl:l.length<=1000):(i64.wrap (((l.length+1:Nat):Int)-1)).toNat=l.length:=by
 rw[w64 (by omega) (by omega)];omega
theorem G4(g:Nat->Nat->Int):QC 2 l.length (Qa l.length (λi=>QA.enc (l.getD i (⟨0,0⟩:QB))) g) (λi=>QA.enc (l.getD i ⟨0,0⟩)):=by
 intro i hi;show eqF 2 0 (Qa l.length (λi=>QA.enc (l.getD i (⟨0,0⟩:QB))) g i) (QA.enc (l.getD i ⟨0,0⟩))
 have e2:Qa l.length (λi=>QA.enc (l.getD i (⟨0,0⟩:QB))) g i=QA.enc (l.getD i ⟨0,0⟩):=by
  funext j;rw[Vb,if_pos hi]
 rw[e2];exact⟨rfl,rfl,trivial⟩
theorem Gm{f:σ->(Int->Bool)->QB->Res σ}{cs:List QB}{k:Nat}(h:cs.length<=k)(s:σ)(has:Int->Bool):J2 f (cs.drop k) s has = .go s has:=by
 rw[List.drop_eq_nil_of_le h,J2]
theorem HO{f:σ->(Int->Bool)->QB->Res σ}{cs:List QB}{k:Nat}(h:k<cs.length)(s:σ)(has:Int->Bool):J2 f (cs.drop k) s has=match f s has (cs.getD k ⟨0,0⟩)with
  | .go s h=>J2 f (cs.drop (k+1)) s h
  | .stop s h => .stop s h:=by
 rw[List.drop_eq_getElem_cons h,J2,List.getD_eq_getElem?_getD,List.getElem?_eq_getElem h];rfl
theorem QQ9{σ:Type}{f:σ->(Int->Bool)->QB->Res σ}(hf:∀ s h c,∃ s' h',f s h c = .go s' h'):∀(l:List QB) (s:σ) (h:Int->Bool),∃ s' h',J2 f l s h = .go s' h'
 | [],s,h=>⟨s,h,rfl⟩
 | c::l,s,h=>by
  obtain⟨s',h',e⟩:=hf s h c;rw[J2,e];exact QQ9 hf l s' h'
theorem Z8{σ:Type}{x:QD}{C:List (List QB)}{Y:σ->List QB->σ×Bool}(hY:∀ s l,(Y s l).2=true):∀(d:Nat) (l:List QB) (s:σ) (h:Int->Bool),∃ s' h',onT x C Y d l s h = .go s' h'
 | 0,l,s,h=>by
  rw[onT,J4];split
  .exact⟨_,_,rfl⟩
  .have:=hY s l;split
   .exact⟨_,_,rfl⟩
   .rename_i e;rw[e]at this;cases this
 | d+1,l,s,h=>by
  rw[onT];refine QQ9 (λs h c=>?_) _ s h;unfold Ki;split
  .exact⟨_,_,rfl⟩
  .split
   .exact⟨_,_,rfl⟩
   .obtain⟨s',h',e⟩:=Z8 (x:=x) (C:=C) hY d (l++[c]) s (Qc c.cell true h);simp only[e];exact⟨_,_,rfl⟩
