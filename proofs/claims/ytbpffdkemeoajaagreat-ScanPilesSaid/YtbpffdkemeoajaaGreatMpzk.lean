/- - -/
import Derived.Test.YtbpffdkemeoajaaGreatMpzj
import Derived.Test.YtbpffdkemeoajaaGreatMpzh
open Go.Proofs.Tryz
open Go.IntKind (i64)
set_option maxRecDepth 100000
namespace Go.Proofs.YtbpffdkemeoajaaGreat
open Go.SX
theorem QXz{x:QD}{l:Rw QB}{k:Nat}(hn:x.d.ps.n<=1000)(h:Jx x l k=false):((l.get k).cell = -2/\(l.get k).turn=0)∨((0<=(l.get k).cell/\(l.get k).cell<x.d.ps.n)/\(0<=(l.get k).turn/\(l.get k).turn<=3)/\K5 x.d (x.sK.get k) (l.get k).cell.toNat (l.get k).turn.toNat=true/\eqN l k=true):=by
 have hw:i64.wrap ((x.d.ps.n:Int)-1)=(x.d.ps.n:Int)-1:=w64 (by omega) (by omega)
 unfold Jx at h;cases e:(l.get k).cell == -2 with
 | true=>
  rw[e,cond_true]at h;exact .inl ⟨by simpa using e,by simpa using h⟩
 | false=>
  rw[e,cond_false,hw]at h;simp only[Bool.or_eq_false_iff,Bool.not_eq_false',Qe,qbA,qdE]at h;refine .inr ⟨⟨h.1.1.1.1,by omega⟩,h.1.1.2,h.1.2,h.2⟩
theorem QNH{p:Nat->Bool}{n:Nat}(h:(QN p n 0).isNone=true):∀ k,k<n->p k=false:=λk hk=>QAN (Option.isNone_iff_eq_none.1 h) k (Nat.zero_le _) (by omega)
theorem QFv{p:Nat->Bool}{n:Nat}(h:∀ k,k<n->p k=false):(QN p n 0).isNone=true:=Option.isNone_iff_eq_none.2 (Hb λk _ hk=>h k (by omega))
def QND(x:QD)(l:Rw QB)(al tk:Int)(k:Nat)(e:Ex)(J:JSt):Prop:=(e = .ret/\(QN (Yi x l) (x.hang.n-k) k).isNone=false/\J=X3)∨(e = .exit 4/\(QN (Yi x l) (x.hang.n-k) k).isNone=true/\J=rtE x l al tk)
set_option maxHeartbeats 1600000 in
theorem QU6(x:QD)(l:Rw QB)(al tk:Int)(hx:Kx x)(hs:l.n=x.sK.n)(hg:(QN (Jx x l) l.n 0).isNone=true):Kk (QAH x l al tk) (λk=>k<=x.hang.n) (λk=>x.hang.n-k) (QND x l al tk) 8 QR4 [] (mkE prog J1) (λ_=>hnd (mkE prog J1) 3) (QT f26 1):=by
 refine⟨λk g hk=>Qp (QcG x l al tk k g) ?_⟩;have n9:=hx.d.n9;have n12:=hx.n;have hd:=hx.d;have hw:=hd.w1;have hwn:=hd.wn;have hh:=hd.h1;have hhn:=hd.hn;have gt:∀ i,i<l.n->_:=λi hi=>QXz (k:=i) (by omega) (QNH hg i hi)
 refine QH ?_ ?_<;>intro b0
 .refine QF (by simp at b0 ⊢;omega) ?_
  refine QF (by simp at b0 ⊢;omega) ?_
  refine QF ?_ ?_
  .have h:k<x.hang.n:=by have:=qdt b0;omega
   have j:=hx.j k h;simp;omega
  refine QF ?_ ?_
  .have h:k<x.hang.n:=by have:=qdt b0;omega
   have j:=hx.j k h;simp;omega
  refine QF ?_ ?_
  .have h:k<x.hang.n:=by have:=qdt b0;omega
   have j:=hx.j k h;simp;omega
  refine QF ?_ ?_
  .have h:k<x.hang.n:=by have:=qdt b0;omega
   have j:=hx.j k h;simp;omega
  refine QF ?_ ?_
  .have h:k<x.hang.n:=by have:=qdt b0;omega
   obtain⟨⟨j1,j2⟩,ja,jb⟩:=hx.j k h;have ga:=gt (x.hang.get k).a.toNat (by omega)
   have gb:=gt (x.hang.get k).b.toNat (by omega)
   exact Bool.and_eq_true_iff.2 ⟨by simp,qde ⟨⟨⟨by omega,by omega⟩,by omega,by omega⟩,⟨by omega,by omega⟩,⟨j1,j2⟩,⟨by omega,by omega⟩,by omega⟩⟩
  refine QH ?_ ?_<;>intro b1
  .have h:k<x.hang.n:=by have:=qdt b0;omega
   exact⟨_,.inl ⟨rfl,vV h b1,rfl⟩,rfl,rfl,_,Qg2,⟨rfl,trivial⟩⟩
  .have h:k<x.hang.n:=by have:=qdt b0;omega
   refine⟨k+1,h,by show x.hang.n-(k+1)<x.hang.n-k;omega,λe J r=>by unfold QND at r ⊢;rw[za h b1];exact r,rfl,rfl,_,QW4 ..,?_⟩
   repeat' first|with_reducible refine QK ?_ ?_|exact tv|exact KW h (by omega)|refine aI ?_ ?_
 .have h:x.hang.n<=k:=by have:=qdf b0;omega
  refine⟨_,.inr ⟨rfl,Gn h,rfl⟩,rfl,rfl,_,QTb ..,?_⟩
  repeat' first|with_reducible refine QK ?_ ?_|exact tv|refine aI ?_ ?_
def YI(x:QD)(l:Rw QB):Bool:=((l.n:Int)==x.sK.n)&&((QN (Jx x l) l.n 0).isNone&&((QN (Yi x l) x.hang.n 0).isNone&&(decide (alN l l.n<=x.fK)&&decide (i64.wrap ((x.d.ps.n:Int)-tkN l l.n)<=x.lost))))
abbrev rtL(x:QD)(l:Rw QB):Code->St->(Ex->St->QE)->QE:=QFd [
 (5,Jp (x.d.ps.n<=1000/\l.n=x.sK.n/\l.n<=1000) (Q4 8 [] (rtJ x l 0 0 (0:Nat)) [((QN (Jx x l) l.n 0).isNone=false,.ret,X3),((QN (Jx x l) l.n 0).isNone=true,.exit 0,rtE x l (alN l l.n) (tkN l l.n))])),
 (20,Jp (x.ok=true/\l.n=x.sK.n/\(QN (Jx x l) l.n 0).isNone=true) (Q4 8 [] (QAH x l (alN l l.n) (tkN l l.n) (0:Nat)) [((QN (Yi x l) x.hang.n 0).isNone=false,.ret,X3),((QN (Yi x l) x.hang.n 0).isNone=true,.exit 4,rtE x l (alN l l.n) (tkN l l.n))]))]
abbrev rtH(P:Program)(x:QD)(l:Rw QB):Hnd:={ hnd (mkS P J1) 1 with loop:=rtL x l }
theorem QgH(x:QD)(l:Rw QB)(G:Ctx)(hrd:G.rd=none)(hG:G.n=8):Q8 (mkS prog J1) G (rtH prog x l) (Qi f26):=by
 refine QIL (Vq WS) hrd λc hc=>?_;have he:JB (Qi f26)=[.loop (QT f26 0),.loop (QT f26 1)]:=by kernel_rfl
 rw[he]at hc;simp only[List.mem_cons,List.not_mem_nil,or_false]at hc;rcases hc with rfl|rfl
 .have e1:rtL x l (.loop (QT f26 0))=Jp (x.d.ps.n<=1000/\l.n=x.sK.n/\l.n<=1000) (Q4 8 [] (rtJ x l 0 0 (0:Nat)) [((QN (Jx x l) l.n 0).isNone=false,.ret,X3),((QN (Jx x l) l.n 0).isNone=true,.exit 0,rtE x l (alN l l.n) (tkN l l.n))]):=by kernel_rfl
  rw[e1];refine Vv λhp=>?_;refine Kr (n0:=8) (Vq WS) (by omega) (λk hk=>QTZ x l (alN l k) (i64.wrap (tkN l k+1)) k hp.2.2 G hrd hG) (λs hs=>(by decide:8<=96)) ?_ (QWM x l hp.1 hp.2.1 hp.2.2) (s0:=0) (Nat.zero_le _) ?_
  .rintro s e J (⟨_,_,rfl⟩|⟨_,_,rfl⟩)<;>exact(by decide:8<=96)
  .rintro e J (⟨rfl,h,rfl⟩|⟨rfl,h,rfl⟩)
   .exact⟨_,qmc,h,rfl,rfl⟩
   .exact⟨_,List.mem_cons_of_mem _ qmc,h,rfl,rfl⟩
 .have e1:rtL x l (.loop (QT f26 1))=Jp (x.ok=true/\l.n=x.sK.n/\(QN (Jx x l) l.n 0).isNone=true) (Q4 8 [] (QAH x l (alN l l.n) (tkN l l.n) (0:Nat)) [((QN (Yi x l) x.hang.n 0).isNone=false,.ret,X3),((QN (Yi x l) x.hang.n 0).isNone=true,.exit 4,rtE x l (alN l l.n) (tkN l l.n))]):=by kernel_rfl
  rw[e1];refine Vv λhp=>?_;refine YG (E:=mkE prog J1) rfl (Kr (n0:=8) (QL WS) (by omega) (λs hs=>Qw (QL WS) 3 G _ hrd) (λs hs=>(by decide:8<=96)) ?_ (QU6 x l (alN l l.n) (tkN l l.n) (Jo hp.1) hp.2.1 hp.2.2) (s0:=0) (Nat.zero_le _) ?_)
  .rintro s e J (⟨_,_,rfl⟩|⟨_,_,rfl⟩)<;>exact(by decide:8<=96)
  .rintro e J (⟨rfl,h,rfl⟩|⟨rfl,h,rfl⟩)
   .exact⟨_,qmc,h,rfl,rfl⟩
   .exact⟨_,List.mem_cons_of_mem _ qmc,h,rfl,rfl⟩
def jG:WF (QD×(Rw QB)×Unit):=λ|(x,(l,_))=>(x.ok,.bool false (YI x l),[])
def QQr:FC:=wFC jG
theorem QXf(x:QD)(l:(Rw QB)):KI (mkS prog J1) (rtH prog x l) f26 (QW.vals 0 ((x,l,()):QD×(Rw QB)×Unit)) (QW.blks 0 ((x,l,()):QD×(Rw QB)×Unit)) 8 = .br ((l.n:Int) != (x.sK.n:Int)) (.leaf (.bool true false) ([])) (.ak [x.d.ps.n<=1000/\l.n=x.sK.n/\l.n<=1000,0=0,l.n=l.n,cO=cO,0=0,0=0,(0:Int)=0,(0:Int)=0,(0:Int)=0] (.ak (xq x) (.ak (xp x) (.ak [l.n<=l.n,QC 2 l.n (λi=>QA.enc (l.get i)) λi=>QA.enc (l.get i)] (.both (.asm ((QN (Jx x l) l.n 0).isNone=false) (.all (λ(g0:Nat->Value)=>.leaf (.bool false false) ([])))) (.asm ((QN (Jx x l) l.n 0).isNone=true) (.all (λ(g1:Nat->Value)=>.ak [x.ok=true/\l.n=x.sK.n/\(QN (Jx x l) l.n 0).isNone=true,0=0,l.n=l.n,cO=cO,0=0,0=0,alN l l.n=alN l l.n,tkN l l.n=tkN l l.n,(0:Int)=0] (.ak (xq x) (.ak (xp x) (.ak [l.n<=l.n,QC 2 l.n (λi=>QA.enc (l.get i)) λi=>QA.enc (l.get i)] (.both (.asm ((QN (Yi x l) x.hang.n 0).isNone=false) (.all (λ(g2:Nat->Value)=>.leaf (.bool false false) ([])))) (.asm ((QN (Yi x l) x.hang.n 0).isNone=true) (.all (λ(g3:Nat->Value)=>.need (!decide (alN l l.n<=x.fK)||decide (alN l l.n<=x.fK)) (.need (!decide (alN l l.n<=x.fK)||decide (alN l l.n<=x.fK)) (.need (!decide (alN l l.n<=x.fK)||decide (alN l l.n<=x.fK)) (.need (!decide (alN l l.n<=x.fK)||decide (alN l l.n<=x.fK)&&decide (alN l l.n<=x.fK)) (.need (!decide (alN l l.n<=x.fK)||decide (alN l l.n<=x.fK)) (.need (!decide (alN l l.n<=x.fK)||decide (alN l l.n<=x.fK)&&decide (alN l l.n<=x.fK)) (.need (!decide (alN l l.n<=x.fK)||decide (alN l l.n<=x.fK)) (.bnd (decide (alN l l.n<=x.fK)&&decide (i64.wrap ((x.d.ps.n:Int)-tkN l l.n)<=x.lost)) (λ(x4:Bool)=>.leaf (.bool false x4) ([])))))))))))))))))))))))):=by kernel_rfl
theorem QgL:JG (mkS prog J1) (Qi f26) 8 jG (λx_=>(rtH prog x_.1 x_.2.1)):=by
 refine⟨?_⟩;rintro⟨x,⟨l,⟨⟩⟩⟩ hp G h1 h2;exact QgH x l G h1 h2
theorem QcK:JF (mkS prog J1) f26 8 jG (λx_=>(rtH prog x_.1 x_.2.1)):=by
 refine⟨?_⟩;rintro⟨x,⟨l,⟨⟩⟩⟩ hp;refine⟨⟨rfl,by simp[jG],rfl⟩,⟨?_⟩⟩
 rw[QXf x l];simp only[jG]at hp;have hx:=Jo hp;have n9:=hx.d.n9;have n12:=hx.s;have no:∀{z b:Bool},YI x l=b->(QE.leaf (AV.bool z b) []).den (VQ 8 (jG (x,l,())).2.1 (jG (x,l,())).2.2):=λh=>KT h.symm rfl;unfold YI at no;refine QH ?_ ?_<;>intro b0
 .refine no ?_;have e:((l.n:Int)==x.sK.n)=false:=by simpa using b0
  rw[e];rfl
 .refine QX (by exact⟨by omega,by simp only[bne_eq_false_iff_eq]at b0;omega,by simp only[bne_eq_false_iff_eq]at b0;omega⟩) ?_
  iterate 35 refine QX tv ?_
  refine Vx ?_ ?_
  .refine KB λa0=>?_;refine Q7 λg0=>?_;refine no ?_;rw[a0,Bool.false_and,Bool.and_false]
  .refine KB λa1=>?_;refine Q7 λg1=>?_;refine QX (by exact⟨hp,by simp only[bne_eq_false_iff_eq]at b0;omega,a1⟩) ?_
   iterate 35 refine QX tv ?_
   refine Vx ?_ ?_
   .refine KB λa2=>?_;refine Q7 λg2=>?_;refine no ?_;rw[a2,Bool.false_and,Bool.and_false,Bool.and_false]
   .refine KB λa3=>?_;refine Q7 λg3=>?_;refine QF (by first|rfl|(cases decide (alN l l.n<=x.fK)<;>rfl)) ?_
    iterate 6 refine QF (by first|rfl|(cases decide (alN l l.n<=x.fK)<;>rfl)) ?_
    refine K6 λz0 y0=>?_;refine no ?_;have e:((l.n:Int)==x.sK.n)=true:=by simpa using b0
    rw[e,a1,a3,y0];rfl
theorem Qf7:QO prog 26 QQr:=
 JI (Vq WS) func26 (by kernel_rfl) (by kernel_rfl) (by decide) QgL QcK
def QJg:Tab:=Qh J1 26 QQr
theorem QcV:QZ QJg:=WS.add Qf7
variable (d:Puz)(s:QQ)(o o':List QB)(c:Nat)(g:Nat->Value)
def QI6:List (Nat×Blk):=[(8,.cells 0 28 (QFR d)),(16,.cells 7 69 (Enc.enc s).cells),KF 80 24 o ⟨0,0⟩]++KD.blk 0 d.ps
def jI:JSt:=⟨32,[(2,.ptr 8 0 0),(3,.ptr 16 0 0),(5,.slz 24 0 o.length (.of 0)),(6,.int false .i64 c)],QI6 d s o,32⟩
def Vj(c t:Nat):JSt:=⟨32,[(2,.ptr 8 0 0),(3,.ptr 16 0 0),(5,.slz 24 0 o.length (.of 0)),(6,.int false .i64 c),(7,.int true .i64 t)],QI6 d s o,40⟩
def zY:Ex->List Nat
 | .normal=>[2,3,5,6,7]
 | .exit _=>[2,3,5,6]
 | .ret=>[]
noncomputable abbrev QD3(o:List QB):List AV:=
  [.nilp,.ptr 32 0 0,.ptr 8 0 0,.ptr 16 0 0,.slz 24 0 o.length cO,vi (c:Int),vj 1]
noncomputable abbrev ZJ:Nat×Blk:=
  (8,.cells 0 28 [vi d.pK.length,vi d.pK.aK,vi d.pK.oK,vi d.pK.dK.lo,vi d.pK.dK.hi,.int
  false .i64 d.wide,vi d.high,.bool false d.turn,.slz 0 0 d.ps.n cO])
noncomputable abbrev Y7:Nat×Blk:=
  (16,.cells 7 69 ((Enc.enc (s:QQ)).cells))
noncomputable abbrev ZL:Nat×Blk:=
  (0,.frz [.int .i64,.int .i64,.int .i64,.int .i64,.int .i64,.int .i64,.int .i64,.int .i64,.int .i64,.int .i64,.int .i64,.int .i64,.int .i64,.int .i64,.int .i64,.int
  .i64,.int .i64,.int .i64,.int .i64,.int .i64,.int .i64,.int .i64,.int .i64,.int .i64,.int .i64,.int .i64,.int .i64,.int .i64] d.ps.n λi=>QA.enc (d.ps.get i))
noncomputable abbrev Jy(s:QQ):List (Nat×Blk):=
  [(ZJ d),(Y7 s),(24,.rowz true 80 kB o.length λi=>QA.enc (o.getD i ⟨0,0⟩)),(ZL d)]
noncomputable abbrev QOZ(o:List QB):Nat×Blk:=
  (1008,.rowz true 80 kB (o.length+1) (Qa o.length (λi=>QA.enc (o.getD i ⟨0,0⟩)) (QU [[vi (c:Int),vj 0]] 0)))
theorem QYH :exec (mkE prog JE) (hnd (mkE prog JE) 6) (Kl (QT f141 0)) (JSt.inst (Vj d s o c 0) g) (KG [] zY) = .need (decide ((0:Int)<=(c:Int)/\(c:Int)<(d.ps.n:Int))&&decide (d.ps.n<=d.ps.n)) (.need (decide (c<d.ps.n)) (.need (true) (.br (!isS s.up (d.ps.get c).up) (.leaf (.tup (QD3 c o)) ((Jy d o s))) (.need (decide ((0:Int)<=(c:Int)/\(c:Int)<(d.ps.n:Int))&&decide (d.ps.n<=d.ps.n)) (.need (decide (c<d.ps.n)) (.need (true) (.br (!isS s.right (d.ps.get c).right) (.leaf (.tup (QD3 c o)) ((Jy d o s))) (.need (decide ((0:Int)<=(c:Int)/\(c:Int)<(d.ps.n:Int))&&decide (d.ps.n<=d.ps.n)) (.need (decide (c<d.ps.n)) (.need (true) (.br (!isS s.down (d.ps.get c).down) (.leaf (.tup (QD3 c o)) ((Jy d o s))) (.need (decide ((0:Int)<=(c:Int)/\(c:Int)<(d.ps.n:Int))&&decide (d.ps.n<=d.ps.n)) (.need (decide (c<d.ps.n)) (.need (true) (.br (!isS s.left (d.ps.get c).left) (.leaf (.tup (QD3 c o)) ((Jy d o s))) (.need (decide (o.length<=o.length)&&(true&&decide ((o.length+1+(o.length+1) / 4+192)*16<=281474976710656/\o.length+1<=9223372036854775807))) (.leaf (.tup [.nilp,.ptr 32 0 0,.ptr 8 0 0,.ptr 16 0 0,.slz 1008 0 (o.length+1) cO,vi (c:Int),vj 1]) ([(ZJ d),(Y7 s),(QOZ c o),(ZL d)])))))))))))))))))):=by kernel_rfl
noncomputable abbrev QCr(o:List QB):List AV:=
  [.nilp,.ptr 32 0 0,.ptr 8 0 0,.ptr 16 0 0,.slz 24 0 o.length cO,vi (c:Int),vj 2]
noncomputable abbrev QSQ(o:List QB):Nat×Blk:=
  (1008,.rowz true 80 kB (o.length+1) (Qa o.length (λi=>QA.enc (o.getD i ⟨0,0⟩)) (QU [[vi (c:Int),vj 1]] 0)))
theorem QV5 :exec (mkE prog JE) (hnd (mkE prog JE) 6) (Kl (QT f141 0)) (JSt.inst (Vj d s o c 1) g) (KG [] zY) = .need (decide ((0:Int)<=(c:Int)/\(c:Int)<(d.ps.n:Int))&&decide (d.ps.n<=d.ps.n)) (.need (decide (c<d.ps.n)) (.need (true) (.br (!isS s.left (d.ps.get c).up) (.leaf (.tup (QCr c o)) ((Jy d o s))) (.need (decide ((0:Int)<=(c:Int)/\(c:Int)<(d.ps.n:Int))&&decide (d.ps.n<=d.ps.n)) (.need (decide (c<d.ps.n)) (.need (true) (.br (!isS s.up (d.ps.get c).right) (.leaf (.tup (QCr c o)) ((Jy d o s))) (.need (decide ((0:Int)<=(c:Int)/\(c:Int)<(d.ps.n:Int))&&decide (d.ps.n<=d.ps.n)) (.need (decide (c<d.ps.n)) (.need (true) (.br (!isS s.right (d.ps.get c).down) (.leaf (.tup (QCr c o)) ((Jy d o s))) (.need (decide ((0:Int)<=(c:Int)/\(c:Int)<(d.ps.n:Int))&&decide (d.ps.n<=d.ps.n)) (.need (decide (c<d.ps.n)) (.need (true) (.br (!isS s.down (d.ps.get c).left) (.leaf (.tup (QCr c o)) ((Jy d o s))) (.need (decide (o.length<=o.length)&&(true&&decide ((o.length+1+(o.length+1) / 4+192)*16<=281474976710656/\o.length+1<=9223372036854775807))) (.leaf (.tup [.nilp,.ptr 32 0 0,.ptr 8 0 0,.ptr 16 0 0,.slz 1008 0 (o.length+1) cO,vi (c:Int),vj 2]) ([(ZJ d),(Y7 s),(QSQ c o),(ZL d)])))))))))))))))))):=by kernel_rfl
noncomputable abbrev QDh(o:List QB):List AV:=
  [.nilp,.ptr 32 0 0,.ptr 8 0 0,.ptr 16 0 0,.slz 24 0 o.length cO,vi (c:Int),vj 3]
noncomputable abbrev QR0(o:List QB):Nat×Blk:=
  (1008,.rowz true 80 kB (o.length+1) (Qa o.length (λi=>QA.enc (o.getD i ⟨0,0⟩)) (QU [[vi (c:Int),vj 2]] 0)))
theorem QXA :exec (mkE prog JE) (hnd (mkE prog JE) 6) (Kl (QT f141 0)) (JSt.inst (Vj d s o c 2) g) (KG [] zY) = .need (decide ((0:Int)<=(c:Int)/\(c:Int)<(d.ps.n:Int))&&decide (d.ps.n<=d.ps.n)) (.need (decide (c<d.ps.n)) (.need (true) (.br (!isS s.down (d.ps.get c).up) (.leaf (.tup (QDh c o)) ((Jy d o s))) (.need (decide ((0:Int)<=(c:Int)/\(c:Int)<(d.ps.n:Int))&&decide (d.ps.n<=d.ps.n)) (.need (decide (c<d.ps.n)) (.need (true) (.br (!isS s.left (d.ps.get c).right) (.leaf (.tup (QDh c o)) ((Jy d o s))) (.need (decide ((0:Int)<=(c:Int)/\(c:Int)<(d.ps.n:Int))&&decide (d.ps.n<=d.ps.n)) (.need (decide (c<d.ps.n)) (.need (true) (.br (!isS s.up (d.ps.get c).down) (.leaf (.tup (QDh c o)) ((Jy d o s))) (.need (decide ((0:Int)<=(c:Int)/\(c:Int)<(d.ps.n:Int))&&decide (d.ps.n<=d.ps.n)) (.need (decide (c<d.ps.n)) (.need (true) (.br (!isS s.right (d.ps.get c).left) (.leaf (.tup (QDh c o)) ((Jy d o s))) (.need (decide (o.length<=o.length)&&(true&&decide ((o.length+1+(o.length+1) / 4+192)*16<=281474976710656/\o.length+1<=9223372036854775807))) (.leaf (.tup [.nilp,.ptr 32 0 0,.ptr 8 0 0,.ptr 16 0 0,.slz 1008 0 (o.length+1) cO,vi (c:Int),vj 3]) ([(ZJ d),(Y7 s),(QR0 c o),(ZL d)])))))))))))))))))):=by kernel_rfl
noncomputable abbrev QCF(o:List QB):List AV:=
  [.nilp,.ptr 32 0 0,.ptr 8 0 0,.ptr 16 0 0,.slz 24 0 o.length cO,vi (c:Int),vj 4]
noncomputable abbrev QOa(o:List QB):Nat×Blk:=
  (1008,.rowz true 80 kB (o.length+1) (Qa o.length (λi=>QA.enc (o.getD i ⟨0,0⟩)) (QU [[vi (c:Int),vj 3]] 0)))
theorem QUw :exec (mkE prog JE) (hnd (mkE prog JE) 6) (Kl (QT f141 0)) (JSt.inst (Vj d s o c 3) g) (KG [] zY) = .need (decide ((0:Int)<=(c:Int)/\(c:Int)<(d.ps.n:Int))&&decide (d.ps.n<=d.ps.n)) (.need (decide (c<d.ps.n)) (.need (true) (.br (!isS s.right (d.ps.get c).up) (.leaf (.tup (QCF c o)) ((Jy d o s))) (.need (decide ((0:Int)<=(c:Int)/\(c:Int)<(d.ps.n:Int))&&decide (d.ps.n<=d.ps.n)) (.need (decide (c<d.ps.n)) (.need (true) (.br (!isS s.down (d.ps.get c).right) (.leaf (.tup (QCF c o)) ((Jy d o s))) (.need (decide ((0:Int)<=(c:Int)/\(c:Int)<(d.ps.n:Int))&&decide (d.ps.n<=d.ps.n)) (.need (decide (c<d.ps.n)) (.need (true) (.br (!isS s.left (d.ps.get c).down) (.leaf (.tup (QCF c o)) ((Jy d o s))) (.need (decide ((0:Int)<=(c:Int)/\(c:Int)<(d.ps.n:Int))&&decide (d.ps.n<=d.ps.n)) (.need (decide (c<d.ps.n)) (.need (true) (.br (!isS s.up (d.ps.get c).left) (.leaf (.tup (QCF c o)) ((Jy d o s))) (.need (decide (o.length<=o.length)&&(true&&decide ((o.length+1+(o.length+1) / 4+192)*16<=281474976710656/\o.length+1<=9223372036854775807))) (.leaf (.tup [.nilp,.ptr 32 0 0,.ptr 8 0 0,.ptr 16 0 0,.slz 1008 0 (o.length+1) cO,vi (c:Int),vj 4]) ([(ZJ d),(Y7 s),(QOa c o),(ZL d)])))))))))))))))))):=by kernel_rfl
theorem Qfs :exec (mkE prog JE) (hnd (mkE prog JE) 6) (Kl (QT f141 0)) (JSt.inst (Vj d s o c 4) g) (KG [] zY) = .leaf (.tup [.ptr 2 0 0,.ptr 32 0 0,.ptr 8 0 0,.ptr 16 0 0,.slz 24 0 o.length cO,vi (c:Int)]) ((Jy d o s)):=by kernel_rfl
def QA7:JSt:=⟨32,[(2,.ptr 8 0 0),(3,.ptr 16 0 0),(5,.slz 24 0 o.length (.of 0)),(6,.int false .i64 c)],QI6 d s o,40⟩
abbrev Za:List Prop:=
  [0=0,0=0,0=0,0=0]
abbrev QAV(o:List QB)(o':List QB):List Prop:=
  [0=0,o.length=o'.length,cO=cO,(c:Int)=(c:Int)]
abbrev Zt:List Prop:=
  [d.pK.length=d.pK.length,d.pK.aK=d.pK.aK,d.pK.oK=d.pK.oK,d.pK.dK.lo=d.pK.dK.lo,d.pK.dK.hi=d.pK.dK.hi,d.wide=d.wide,d.high =
  d.high,d.turn=d.turn]
abbrev Zb:List Prop:=
  [d.ps.n=d.ps.n,cO=cO,s.up.kind=s.up.kind,s.up.at_.lo=s.up.at_.lo,s.up.at_.hi=s.up.at_.hi,s.up.wide.lo=s.up.wide.lo,s.up.wide.hi=s.up.wide.hi,
  s.up.deep.lo=s.up.deep.lo,s.up.deep.hi=s.up.deep.hi,s.right.kind=s.right.kind,s.right.at_.lo=s.right.at_.lo,s.right.at_.hi=s.right.at_.hi,s.right.wide.lo =
  s.right.wide.lo,s.right.wide.hi=s.right.wide.hi,s.right.deep.lo=s.right.deep.lo,s.right.deep.hi=s.right.deep.hi,s.down.kind=s.down.kind,s.down.at_.lo=s.down.at_.lo,
  s.down.at_.hi=s.down.at_.hi,s.down.wide.lo=s.down.wide.lo,s.down.wide.hi=s.down.wide.hi,s.down.deep.lo=s.down.deep.lo,s.down.deep.hi=s.down.deep.hi,s.left.kind =
  s.left.kind,s.left.at_.lo=s.left.at_.lo,s.left.at_.hi=s.left.at_.hi,s.left.wide.lo=s.left.wide.lo,s.left.wide.hi=s.left.wide.hi,s.left.deep.lo=s.left.deep.lo,
  s.left.deep.hi=s.left.deep.hi]
abbrev QAS:List Prop:=
  [o'.length<=o.length,QC 2 o'.length (λi=>QA.enc (o.getD i ⟨0,0⟩)) λi=>QA.enc (o'.getD i ⟨0,0⟩),d.ps.n<=d.ps.n,QC 28 d.ps.n (λi=>QA.enc (d.ps.get
  i)) λi=>QA.enc (d.ps.get i)]
theorem QU5 :QI 8 [.ptr 8 0 0,.ptr 16 0 0,.slz 24 0 o.length cO,vi (c:Int),vj 1] ((Jy d o s)) (Vj d s o' c 1)=(some (Za++(QAV c o o') ++ [(1:Int)=1]++(Zt d)++[0=0]++(Zb d s)++(QAS d o o'))):=by kernel_rfl
abbrev QBs(o:List QB)(o':List QB):List Prop:=
  [0=0,o.length+1=o'.length,cO=cO,(c:Int)=(c:Int)]
theorem QWU :QI 8 [.ptr 8 0 0,.ptr 16 0 0,.slz 1008 0 (o.length+1) cO,vi (c:Int),vj 1] ([(ZJ d),(Y7 s),(QOZ c o),(ZL d)]) (Vj d s o' c 1)=(some (Za++(QBs c o o')++[(1:Int)=1]++(Zt d)++[0=0]++(Zb d s)++[o'.length<=o.length+1,QC 2 o'.length (Qa o.length (λi=>QA.enc (o.getD i ⟨0,0⟩)) (QU [[vi (c:Int),vj 0]] 0)) λi=>QA.enc (o'.getD i ⟨0,0⟩),d.ps.n<=d.ps.n,QC 28 d.ps.n (λi=>QA.enc (d.ps.get i)) λi=>QA.enc (d.ps.get i)])):=by kernel_rfl
theorem Qai :QI 8 [.ptr 8 0 0,.ptr 16 0 0,.slz 24 0 o.length cO,vi (c:Int),vj 2] ((Jy d o s)) (Vj d s o' c 2)=(some (Za++(QAV c o o') ++ [(2:Int)=2]++(Zt d)++[0=0]++(Zb d s)++(QAS d o o'))):=by kernel_rfl
theorem QZ8 :QI 8 [.ptr 8 0 0,.ptr 16 0 0,.slz 1008 0 (o.length+1) cO,vi (c:Int),vj 2] ([(ZJ d),(Y7 s),(QSQ c o),(ZL d)]) (Vj d s o' c 2)=(some (Za++(QBs c o o')++[(2:Int)=2]++(Zt d)++[0=0]++(Zb d s)++[o'.length<=o.length+1,QC 2 o'.length (Qa o.length (λi=>QA.enc (o.getD i ⟨0,0⟩)) (QU [[vi (c:Int),vj 1]] 0)) λi=>QA.enc (o'.getD i ⟨0,0⟩),d.ps.n<=d.ps.n,QC 28 d.ps.n (λi=>QA.enc (d.ps.get i)) λi=>QA.enc (d.ps.get i)])):=by kernel_rfl
theorem QXk :QI 8 [.ptr 8 0 0,.ptr 16 0 0,.slz 24 0 o.length cO,vi (c:Int),vj 3] ((Jy d o s)) (Vj d s o' c 3)=(some (Za++(QAV c o o') ++ [(3:Int)=3]++(Zt d)++[0=0]++(Zb d s)++(QAS d o o'))):=by kernel_rfl
theorem QX3 :QI 8 [.ptr 8 0 0,.ptr 16 0 0,.slz 1008 0 (o.length+1) cO,vi (c:Int),vj 3] ([(ZJ d),(Y7 s),(QR0 c o),(ZL d)]) (Vj d s o' c 3)=(some (Za++(QBs c o o')++[(3:Int)=3]++(Zt d)++[0=0]++(Zb d s)++[o'.length<=o.length+1,QC 2 o'.length (Qa o.length (λi=>QA.enc (o.getD i ⟨0,0⟩)) (QU [[vi (c:Int),vj 2]] 0)) λi=>QA.enc (o'.getD i ⟨0,0⟩),d.ps.n<=d.ps.n,QC 28 d.ps.n (λi=>QA.enc (d.ps.get i)) λi=>QA.enc (d.ps.get i)])):=by kernel_rfl
theorem QXT :QI 8 [.ptr 8 0 0,.ptr 16 0 0,.slz 24 0 o.length cO,vi (c:Int),vj 4] ((Jy d o s)) (Vj d s o' c 4)=(some (Za++(QAV c o o') ++ [(4:Int)=4]++(Zt d)++[0=0]++(Zb d s)++(QAS d o o'))):=by kernel_rfl
theorem QXU :QI 8 [.ptr 8 0 0,.ptr 16 0 0,.slz 1008 0 (o.length+1) cO,vi (c:Int),vj 4] ([(ZJ d),(Y7 s),(QOa c o),(ZL d)]) (Vj d s o' c 4)=(some (Za++(QBs c o o')++[(4:Int)=4]++(Zt d)++[0=0]++(Zb d s)++[o'.length<=o.length+1,QC 2 o'.length (Qa o.length (λi=>QA.enc (o.getD i ⟨0,0⟩)) (QU [[vi (c:Int),vj 3]] 0)) λi=>QA.enc (o'.getD i ⟨0,0⟩),d.ps.n<=d.ps.n,QC 28 d.ps.n (λi=>QA.enc (d.ps.get i)) λi=>QA.enc (d.ps.get i)])):=by kernel_rfl
theorem QUu :QI 8 [.ptr 8 0 0,.ptr 16 0 0,.slz 24 0 o.length cO,vi (c:Int)] ((Jy d o s)) (QA7 d s o' c)=(some (Za++(QAV c o o')++(Zt d)++[0=0] ++ (Zb d s)++(QAS d o o'))):=by kernel_rfl
def QLH:Ex->List Nat
 | .normal=>[2,3,5,6]
 | .exit _=>[5]
 | .ret=>[]
def zQ:JSt:=⟨32,[(5,.slz 24 0 o.length (.of 0))],[KF 80 24 o ⟨0,0⟩],32⟩
theorem QcP :exec (mkE prog JE) { hnd (mkE prog JE) 1 with loop:=λ_=>Jp (c<d.ps.n) (Q4 8 [] (Vj d s o c 0) [(True,.exit 2,QA7 d s o' c)]) } (QT f141 0) (JSt.inst (jI d s o c) g) (KG [] QLH) = .br (decide ((c:Int)<(d.ps.n:Int))) (.ak [c<d.ps.n,0=0,0=0,0=0,0=0,0=0,o.length=o.length,cO=cO,(c:Int)=(c:Int),(0:Int)=0,d.pK.length=d.pK.length,d.pK.aK=d.pK.aK,d.pK.oK=d.pK.oK,d.pK.dK.lo=d.pK.dK.lo,d.pK.dK.hi=d.pK.dK.hi,d.wide=d.wide,d.high=d.high,d.turn=d.turn,0=0,d.ps.n=d.ps.n,cO=cO,s.up.kind=s.up.kind,s.up.at_.lo=s.up.at_.lo,s.up.at_.hi=s.up.at_.hi,s.up.wide.lo=s.up.wide.lo,s.up.wide.hi=s.up.wide.hi,s.up.deep.lo=s.up.deep.lo,s.up.deep.hi=s.up.deep.hi,s.right.kind=s.right.kind,s.right.at_.lo=s.right.at_.lo,s.right.at_.hi=s.right.at_.hi,s.right.wide.lo=s.right.wide.lo,s.right.wide.hi=s.right.wide.hi,s.right.deep.lo=s.right.deep.lo,s.right.deep.hi=s.right.deep.hi,s.down.kind=s.down.kind,s.down.at_.lo=s.down.at_.lo,s.down.at_.hi=s.down.at_.hi,s.down.wide.lo=s.down.wide.lo,s.down.wide.hi=s.down.wide.hi,s.down.deep.lo=s.down.deep.lo,s.down.deep.hi=s.down.deep.hi,s.left.kind=s.left.kind,s.left.at_.lo=s.left.at_.lo,s.left.at_.hi=s.left.at_.hi,s.left.wide.lo=s.left.wide.lo,s.left.wide.hi=s.left.wide.hi,s.left.deep.lo=s.left.deep.lo,s.left.deep.hi=s.left.deep.hi,o.length<=o.length,QC 2 o.length (λi=>QA.enc (o.getD i ⟨0, 0⟩)) λi=>QA.enc (o.getD i ⟨0,0⟩),d.ps.n<=d.ps.n,QC 28 d.ps.n (λi=>QA.enc (d.ps.get i)) λi=>QA.enc (d.ps.get i)] (.asm (True) (.all (λ(g0:Nat->Value)=>.leaf (.tup [.nilp,.ptr 32 0 0,.ptr 8 0 0,.ptr 16 0 0,.slz 24 0 o'.length cO,vi (i64.wrap ((c:Int)+1))]) ([(ZJ d), (Y7 s),(24,.rowz true 80 kB o'.length λi=>QA.enc (o'.getD i ⟨0,0⟩)),(ZL d)]))))) (.leaf (.tup [.ptr 0 0 0,.ptr 32 0 0,.slz 24 0 o.length cO]) ([(24,.rowz true 80 kB o.length λi=>QA.enc (o.getD i ⟨0,0⟩))])):=by kernel_rfl
theorem Qe5(o' o2:List QB)(c c1:Nat):QI 8 [.ptr 8 0 0,.ptr 16 0 0,.slz 24 0 o'.length cO,vi (i64.wrap ((c:Int)+1))] ([(ZJ d),(Y7 s),(24,.rowz true 80 kB o'.length λi=>QA.enc (o'.getD i ⟨0,0⟩)),(ZL d)]) (jI d s o2 c1)=(some (Za++[0=0,o'.length=o2.length,cO=cO,i64.wrap ((c:Int)+1)=(c1:Int)]++(Zt d)++[0=0]++(Zb d s)++[o2.length<=o'.length,QC 2 o2.length (λi=>QA.enc (o'.getD i ⟨0,0⟩)) λi=>QA.enc (o2.getD i ⟨0,0⟩), d.ps.n<=d.ps.n,QC 28 d.ps.n (λi=>QA.enc (d.ps.get i)) λi=>QA.enc (d.ps.get i)])):=by kernel_rfl
theorem Qbz(o o2:List QB):QI 8 [AV.slz (24:Nat) (0:Nat) o.length cO] ([((24:Nat),Blk.rowz true (80:Nat) [CK.int i64,CK.int i64] o.length λi=>QA.enc (o.getD i (QB.mk (0:Int) (0:Int))))]) (zQ o2)=( some [0=0,o.length=o2.length,cO=cO,o2.length<=o.length,QC (2:Nat) o2.length (λi=>QA.enc (o.getD i (QB.mk (0:Int) (0:Int)))) λi=>QA.enc (o2.getD i (QB.mk (0:Int) (0:Int)))]):=by kernel_rfl
theorem QXC:QI 8 [.slz 24 0 o.length cO] [(24,.rowz true 80 kB o.length λi=>QA.enc (o.getD i ⟨0,0⟩))] (KY 8 (.slz 0 0 o.length cO) [KF 80 0 o ⟨0,0⟩])=( some [0=0,o.length=o.length,cO=cO,o.length<=o.length,QC (2:Nat) o.length (λi=>QA.enc (o.getD i (QB.mk (0:Int) (0:Int)))) λi=>QA.enc (o.getD i (QB.mk (0:Int) (0:Int)))]):=by kernel_rfl
end Go.Proofs.YtbpffdkemeoajaaGreat
namespace Go.SX
open Go Go.RowKit Go.Proofs.YtbpffdkemeoajaaGreat
theorem QEY{Q:AV->List (Nat×Blk)->Prop}{q0 q1 q2 q3 a b:Bool}{L0 L1 L2 L3 K:QE}(ha:a=true)(hb:b=true)(hno:(q0&&(q1&&(q2&&q3)))=false->L0.den Q/\L1.den Q/\L2.den Q/\L3.den Q)(hyes:(q0&&(q1&&(q2&&q3)))=true->K.den Q):
  (QE.need a (.need b (.need true (.br (!q0) L0 (.need a (.need b (.need true (.br (!q1) L1 (.need a (.need b (.need true (.br (!q2) L2 (.need a (.need b (.need true (.br (!q3) L3 K)))))))))))))))).den Q:=by
 subst ha hb;refine QF rfl (QF rfl (QF rfl (QH (λh=>?_) (λh=>?_))))
 .exact(hno (by cases q0<;>simp_all)).1
 refine QF rfl (QF rfl (QF rfl (QH (λh1=>?_) (λh1=>?_))))
 .exact(hno (by cases q0<;>cases q1<;>simp_all)).2.1
 refine QF rfl (QF rfl (QF rfl (QH (λh2=>?_) (λh2=>?_))))
 .exact(hno (by cases q0<;>cases q1<;>cases q2<;>simp_all)).2.2.1
 refine QF rfl (QF rfl (QF rfl (QH (λh3=>?_) (λh3=>?_))))
 .exact(hno (by cases q0<;>cases q1<;>cases q2<;>cases q3<;>simp_all)).2.2.2
 .exact hyes (by cases q0<;>cases q1<;>cases q2<;>cases q3<;>simp_all)
end Go.SX
namespace Go.Proofs.YtbpffdkemeoajaaGreat
open Go.SX
variable (d:Puz)(s:QQ)(o:List QB)(c:Nat)
theorem QcA(hc:c<d.ps.n)(ho:o.length<=4000):Kk (λt=>Vj d s (Q0 d s o c t) c t) (λt=>t<=4) (λt=>4-t) (λ_ e J=>e = .exit 2/\J=QA7 d s (Q0 d s o c 4) c) 8 zY [] (mkE prog JE) (λ_=>hnd (mkE prog JE) 6) (Kl (QT f141 0)):=by
 refine⟨λt g ht=>?_⟩;have ha:(decide ((0:Int)<=(c:Int)/\(c:Int)<(d.ps.n:Int))&&decide (d.ps.n<=d.ps.n))=true:=by simp;omega
 have hb:decide (c<d.ps.n)=true:=by simp;omega
 have hlen:=QCi d s o c t;rcases(by have:=ht;omega:t=0∨t=1∨t=2∨t=3∨t=4)with rfl|rfl|rfl|rfl|rfl
 .refine YA (QYH d s _ c g) (QEY ha hb (λhq=>?_) (λhq=>?_))
  .have hq:K5 d s c 0=false:=hq;have e:Q0 d s o c 1=Q0 d s o c 0:=by simp only[Q0,hq,J3]
   refine⟨?_,?_,?_,?_⟩<;>(
    refine⟨1,by decide,by decide,λ_ _ h=>h,rfl,rfl,_,QU5 _ _ _ _ _,?_⟩
    rw[e]
    repeat' first|exact tv|refine aI ?_ ?_)
  .have hq:K5 d s c 0=true:=hq;have e:Q0 d s o c 1=Q0 d s o c 0++[⟨(c:Nat),(0:Nat)⟩]:=by simp only[Q0,hq,J3]
   refine QF (by simp;omega) ⟨1,by decide,by decide,λ_ _ h=>h,rfl,rfl,_,QWU _ _ _ _ _,?_⟩
   rw[e]
   repeat' first|exact tv|refine aI ?_ ?_
   .simp
   .simp
   .exact Wv _ c 0
 .refine YA (QV5 d s _ c g) (QEY ha hb (λhq=>?_) (λhq=>?_))
  .have hq:K5 d s c 1=false:=hq;have e:Q0 d s o c 2=Q0 d s o c 1:=by simp only[Q0,hq,J3]
   refine⟨?_,?_,?_,?_⟩<;>(
    refine⟨2,by decide,by decide,λ_ _ h=>h,rfl,rfl,_,Qai _ _ _ _ _,?_⟩
    rw[e]
    repeat' first|exact tv|refine aI ?_ ?_)
  .have hq:K5 d s c 1=true:=hq;have e:Q0 d s o c 2=Q0 d s o c 1++[⟨(c:Nat),(1:Nat)⟩]:=by simp only[Q0,hq,J3]
   refine QF (by simp;omega) ⟨2,by decide,by decide,λ_ _ h=>h,rfl,rfl,_,QZ8 _ _ _ _ _,?_⟩
   rw[e]
   repeat' first|exact tv|refine aI ?_ ?_
   .simp
   .simp
   .exact Wv _ c 1
 .refine YA (QXA d s _ c g) (QEY ha hb (λhq=>?_) (λhq=>?_))
  .have hq:K5 d s c 2=false:=hq;have e:Q0 d s o c 3=Q0 d s o c 2:=by simp only[Q0,hq,J3]
   refine⟨?_,?_,?_,?_⟩<;>(
    refine⟨3,by decide,by decide,λ_ _ h=>h,rfl,rfl,_,QXk _ _ _ _ _,?_⟩
    rw[e]
    repeat' first|exact tv|refine aI ?_ ?_)
  .have hq:K5 d s c 2=true:=hq;have e:Q0 d s o c 3=Q0 d s o c 2++[⟨(c:Nat),(2:Nat)⟩]:=by simp only[Q0,hq,J3]
   refine QF (by simp;omega) ⟨3,by decide,by decide,λ_ _ h=>h,rfl,rfl,_,QX3 _ _ _ _ _,?_⟩
   rw[e]
   repeat' first|exact tv|refine aI ?_ ?_
   .simp
   .simp
   .exact Wv _ c 2
 .refine YA (QUw d s _ c g) (QEY ha hb (λhq=>?_) (λhq=>?_))
  .have hq:K5 d s c 3=false:=hq;have e:Q0 d s o c 4=Q0 d s o c 3:=by simp only[Q0,hq,J3]
   refine⟨?_,?_,?_,?_⟩<;>(
    refine⟨4,by decide,by decide,λ_ _ h=>h,rfl,rfl,_,QXT _ _ _ _ _,?_⟩
    rw[e]
    repeat' first|exact tv|refine aI ?_ ?_)
  .have hq:K5 d s c 3=true:=hq;have e:Q0 d s o c 4=Q0 d s o c 3++[⟨(c:Nat),(3:Nat)⟩]:=by simp only[Q0,hq,J3]
   refine QF (by simp;omega) ⟨4,by decide,by decide,λ_ _ h=>h,rfl,rfl,_,QXU _ _ _ _ _,?_⟩
   rw[e]
   repeat' first|exact tv|refine aI ?_ ?_
   .simp
   .simp
   .exact Wv _ c 3
 .refine YA (Qfs d s _ c g) ?_;refine⟨_,⟨rfl,rfl⟩,rfl,rfl,_,QUu _ _ _ _ _,?_⟩
  repeat' first|exact tv|refine aI ?_ ?_
theorem QfA(ho:o.length<=4000)(G:Ctx)(hrd:G.rd=none)(hG:G.n=8):Q8 (mkE prog JE) G { hnd (mkE prog JE) 1 with loop:=λ_=>Jp (c<d.ps.n) (Q4 8 [] (Vj d s o c 0) [(True,.exit 2,QA7 d s (Q0 d s o c 4) c)]) } (QT f141 0):=by
 refine Kg (body:=Kl (QT f141 0)) (QL qN) hrd (by kernel_rfl) ?_
 refine Vv λhc=>?_;refine Kr (n0:=8) (QL qN) (by omega) (λt ht=>Qw (QL qN) 6 G _ hrd) (λt ht=>(by decide:8<=40)) ?_ (QcA d s o c hc ho) (s0:=0) (Nat.zero_le _) ?_
 .rintro t e J ⟨_,rfl⟩;exact(by decide:8<=40)
 .rintro e J ⟨rfl,rfl⟩;exact⟨_,qmc,trivial,rfl,rfl⟩
theorem QV6(hn:d.ps.n<=900):Kk (λc=>jI d s (Qy d s c) c) (λc=>c<=d.ps.n) (λc=>d.ps.n-c) (λ_ e J=>e = .exit 0/\J=zQ (Qy d s d.ps.n)) 8 QLH [] (mkE prog JE) (λc=>{ hnd (mkE prog JE) 1 with loop:=λ_=>Jp (c<d.ps.n) (Q4 8 [] (Vj d s (Qy d s c) c 0) [(True,.exit 2,QA7 d s (Q0 d s (Qy d s c) c 4) c)]) }) (QT f141 0):=by
 refine⟨λc g hc=>YA (QcP d s _ _ c g) ?_⟩;refine QH ?_ ?_<;>intro h
 .have h:c<d.ps.n:=by have:=qdt h;omega
  have hw:i64.wrap ((c:Int)+1)=((c+1:Nat):Int):=(w64 (by omega) (by omega)).trans (by omega)
  refine QX h ?_
  repeat' first|refine QX (show _=_ by with_reducible rfl) ?_|refine QX (show _<=_ from qlr _) ?_|refine QX (show QC _ _ _ _ from qRr) ?_
  refine KB λ_=>Q7 λg=>?_;refine⟨c+1,h,by show d.ps.n-(c+1)<d.ps.n-c;omega,λ_ _ h=>h,rfl,rfl,_,Qe5 d s _ (Qy d s (c+1)) c (c+1),?_⟩
  repeat' first|exact trivial|with_reducible rfl|exact qlr _|exact qRr|exact hw|refine aI ?_ ?_
  rfl
 .have:c=d.ps.n:=by have:=qdf h;omega
  subst this;refine⟨_,⟨rfl,rfl⟩,rfl,rfl,_,Qbz _ _,?_⟩
  repeat' first|exact trivial|with_reducible rfl|exact qlr _|exact qRr|refine aI ?_ ?_
theorem QS7(hn:d.ps.n<=900)(G:Ctx)(hrd:G.rd=none)(hG:G.n=8):Q8 (mkE prog JE) G { hnd (mkE prog JE) 1 with loop:=λ_=>Q4 8 [] (jI d s [] (0:Nat)) [(True,.exit 0,zQ (Qy d s d.ps.n))] } (Qi f141):=by
 refine Kg (body:=QT f141 0) (QL qN) hrd (by kernel_rfl) ?_
 refine Kr (n0:=8) (QL qN) (by omega) (λc hc=>QfA d s (Qy d s c) c (by have:=Z9 d s c;have:c<=d.ps.n:=hc;omega) G hrd hG) (λc hc=>(by decide:8<=32)) ?_ (QV6 d s hn) (s0:=0) (Nat.zero_le _) ?_
 .rintro t e J ⟨_,rfl⟩;exact(by decide:8<=32)
 .rintro e J ⟨rfl,rfl⟩;exact⟨_,qmc,trivial,rfl,rfl⟩
def HV:WF (Puz×QQ×Unit):=λ|(d,(s,_))=>(decide (d.ps.n<=900),.slz 0 0 (Qy d s d.ps.n).length (.of 0),[KF 80 0 (Qy d s d.ps.n) ⟨0,0⟩])
def QM0:FC:=wFC HV
theorem Qgu :KI (mkE prog JE) { hnd (mkE prog JE) 1 with loop:=λ_=>Q4 8 [] (jI d s [] (0:Nat)) [(True,.exit 0,zQ (Qy d s d.ps.n))] } f141 (QW.vals 0 ((d,s,()):Puz×QQ×Unit)) (QW.blks 0 ((d,s,()):Puz×QQ×Unit)) 8 = .ak [0=0,0=0,0=0,0=0,0=0,(0:Int)=0,d.pK.length=d.pK.length,d.pK.aK=d.pK.aK,d.pK.oK=d.pK.oK,d.pK.dK.lo=d.pK.dK.lo,d.pK.dK.hi=d.pK.dK.hi,d.wide=d.wide,d.high=d.high,d.turn=d.turn,0=0,d.ps.n=d.ps.n,cO=cO,s.up.kind=s.up.kind,s.up.at_.lo=s.up.at_.lo,s.up.at_.hi=s.up.at_.hi,s.up.wide.lo=s.up.wide.lo,s.up.wide.hi=s.up.wide.hi,s.up.deep.lo=s.up.deep.lo,s.up.deep.hi=s.up.deep.hi,s.right.kind=s.right.kind,s.right.at_.lo=s.right.at_.lo,s.right.at_.hi=s.right.at_.hi,s.right.wide.lo=s.right.wide.lo,s.right.wide.hi=s.right.wide.hi,s.right.deep.lo=s.right.deep.lo,s.right.deep.hi=s.right.deep.hi,s.down.kind=s.down.kind,s.down.at_.lo=s.down.at_.lo,s.down.at_.hi=s.down.at_.hi,s.down.wide.lo=s.down.wide.lo,s.down.wide.hi=s.down.wide.hi,s.down.deep.lo=s.down.deep.lo,s.down.deep.hi=s.down.deep.hi,s.left.kind=s.left.kind,s.left.at_.lo=s.left.at_.lo,s.left.at_.hi=s.left.at_.hi,s.left.wide.lo=s.left.wide.lo,s.left.wide.hi=s.left.wide.hi,s.left.deep.lo=s.left.deep.lo,s.left.deep.hi=s.left.deep.hi,0=0,d.ps.n<=d.ps.n,QC 28 d.ps.n (λi=>QA.enc (d.ps.get i)) λi=>QA.enc (d.ps.get i)] (.asm (True) (.all (λ(g0:Nat -> Value)=>.leaf (.slz 24 0 (Qy d s d.ps.n).length cO) ([(24,.rowz true 80 kB (Qy d s d.ps.n).length λi=>QA.enc ((Qy d s d.ps.n).getD i ⟨0,0⟩))])))):=by kernel_rfl
theorem Qcn:JG (mkE prog JE) (Qi f141) 8 HV (λx_=>{ hnd (mkE prog JE) 1 with loop:=λ_=>Q4 8 [] (jI x_.1 x_.2.1 [] (0:Nat)) [(True,.exit 0,zQ (Qy x_.1 x_.2.1 x_.1.ps.n))] }):=by
 refine⟨?_⟩;rintro⟨d,⟨s,⟨⟩⟩⟩ hp G h1 h2;exact QS7 d s (qdt hp) G h1 h2
theorem QVc:JF (mkE prog JE) f141 8 HV (λx_=>{ hnd (mkE prog JE) 1 with loop:=λ_=>Q4 8 [] (jI x_.1 x_.2.1 [] (0:Nat)) [(True,.exit 0,zQ (Qy x_.1 x_.2.1 x_.1.ps.n))] }):=by
 refine⟨?_⟩;rintro⟨d,⟨s,⟨⟩⟩⟩ hp;refine⟨⟨rfl,by simp[HV,KF,Blk.own,Blk.all],rfl⟩,⟨?_⟩⟩
 rw[Qgu d s];simp only[HV]at hp
 repeat' first|refine QX (show _=_ by with_reducible rfl) ?_|refine QX (show _<=_ from qlr _) ?_|refine QX (show QC _ _ _ _ from qRr) ?_
 refine KB λ_=>Q7 λg=>⟨rfl,rfl,_,QXC _,?_⟩
 repeat' first|exact tv|refine aI ?_ ?_
theorem QVH:QO prog 141 QM0:=
 JI (QL qN) func141 (by kernel_rfl) (by kernel_rfl) (by decide) Qcn QVc
