/- - -/
import Derived.Test.YtekbmehgcofnkaaGreatMy
import Derived.Test.YtekbmehgcofnkaaGreatMq
open Go.Proofs.Tryz
open Go.IntKind (i64)
set_option maxRecDepth 100000
namespace Go.Proofs.YtekbmehgcofnkaaGreat
open Go.SX Go.SX.Told
structure KC (d:Puz) (x:Lay):Prop where
 p:0<=x.piece/\x.piece<d.ps.n
 t:0<=x.turn/\x.turn<=3
theorem QDS{d:Puz}{x:Lay}(hx:KC d x)(s:Nat):0<=onS x s/\onS x s<4:=by
 have:=hx.t;have h1:=Int.tmod_nonneg 4 (show(0:Int)<=(s:Int)+4-x.turn by omega)
 have h2:=Int.tmod_lt_of_pos ((s:Int)+4-x.turn) (show(0:Int)<4 by decide)
 exact⟨h1,h2⟩
noncomputable def Gb(P:Program)(d:Puz)(L:List Lay)(x:Lay)(s:Nat):Env:=mkF P (Gj QO (flU d L.length x.piece (onS x s)))
theorem QNs{d:Puz}{L:List Lay}{x:Lay}(hx:KC d x)(s:Nat):(Gb prog d L x s).Sound:=
 Ke (Qd.add (QLE d L.length x.piece (onS x s) hx.p.1 hx.p.2 (QDS hx s).1 (QDS hx s).2))
variable (K:Rw Int)(d:Puz)(E:ECt)(L:List Lay)(x:Lay)
def myR(s:Nat)(e:Ex)(J:JSt):Prop:=(e = .ret/\(QX (Kp d L.length x) (4-s) s).isNone=false/\J=zn E)∨(e = .exit 0/\(QX (Kp d L.length x) (4-s) s).isNone=true/\J=QH2 d E L x)
set_option maxHeartbeats 4000000 in
theorem QeZ(hx:KC d x):Jd (myJ d E L x) (λs=>s<=4) (λs=>4-s) (myR d E L x) 216 QRo [201] (Gb prog d L x) (λs=>hnd (Gb prog d L x s) 1) (QJ f105 0):=by
 refine⟨λs g0 hk=>?_⟩;unfold Gb;refine Qf (QeG QO d E L x s g0) ?_;have hk:s<=4:=hk;refine QF (λb0=>?_) (λb0=>?_);have h:s<4:=by have:=qdt b0;omega
 have hf:=VX (p:=Kp d L.length x) h;have ht:=hx.t;refine QH ?_ ?_;rotate_left;refine QF (λb1=>?_) (λb1=>?_);obtain rfl:s=0:=by have:=qdt b1;omega
 refine QF ?_ ?_<;>intro b2
 iterate 2 (refine QH ?_ ?_;rotate_left)
 refine QF ?_ ?_<;>intro b3
 .have hb:Kp d L.length x 0=true:=by show(QU d L.length 0 && !KY d x.piece (onS x _))=true;rw[b2];exact b3
  exact⟨_,.inl ⟨rfl,by rw[hf.1 hb];rfl,rfl⟩,rfl,rfl,_,Qfb E,⟨rfl,rfl,rfl,trivial⟩⟩
 have hb:Kp d L.length x 0=false:=by show(QU d L.length 0 && !KY d x.piece (onS x _))=false;rw[b2];exact b3
 refine⟨1,by show 1<=4;omega,by show 4-1<4-0;omega,λe J h=>by unfold myR at h ⊢;rw[hf.2 hb];exact h,rfl,rfl,_,Qci d E L x 1,?_⟩
 rotate_left
 have hb:Kp d L.length x 0=false:=by show(QU d L.length 0 && !KY d x.piece (onS x _))=false;rw[b2];rfl
 refine⟨1,by show 1<=4;omega,by show 4-1<4-0;omega,λe J h=>by unfold myR at h ⊢;rw[hf.2 hb];exact h,rfl,rfl,_,QVS d E L x 1,?_⟩
 rotate_left
 refine QF (λb4=>?_) (λb4=>?_);obtain rfl:s=1:=by have:=qdt b4;omega
 refine QF ?_ ?_<;>intro b5
 iterate 2 (refine QH ?_ ?_;rotate_left)
 refine QF ?_ ?_<;>intro b6
 .have hb:Kp d L.length x 1=true:=by show(QU d L.length 1 && !KY d x.piece (onS x _))=true;rw[b5];exact b6
  exact⟨_,.inl ⟨rfl,by rw[hf.1 hb];rfl,rfl⟩,rfl,rfl,_,QZB E,⟨rfl,rfl,rfl,trivial⟩⟩
 have hb:Kp d L.length x 1=false:=by show(QU d L.length 1 && !KY d x.piece (onS x _))=false;rw[b5];exact b6
 refine⟨2,by show 2<=4;omega,by show 4-2<4-1;omega,λe J h=>by unfold myR at h ⊢;rw[hf.2 hb];exact h,rfl,rfl,_,QYE d E L x 2,?_⟩
 rotate_left
 have hb:Kp d L.length x 1=false:=by show(QU d L.length 1 && !KY d x.piece (onS x _))=false;rw[b5];rfl
 refine⟨2,by show 2<=4;omega,by show 4-2<4-1;omega,λe J h=>by unfold myR at h ⊢;rw[hf.2 hb];exact h,rfl,rfl,_,Qd8 d E L x 2,?_⟩
 rotate_left
 refine QF (λb7=>?_) (λb7=>?_);obtain rfl:s=2:=by have:=qdt b7;omega
 refine QF ?_ ?_<;>intro b8
 iterate 2 (refine QH ?_ ?_;rotate_left)
 refine QF ?_ ?_<;>intro b9
 .have hb:Kp d L.length x 2=true:=by show(QU d L.length 2 && !KY d x.piece (onS x _))=true;rw[b8];exact b9
  exact⟨_,.inl ⟨rfl,by rw[hf.1 hb];rfl,rfl⟩,rfl,rfl,_,QUk E,⟨rfl,rfl,rfl,trivial⟩⟩
 have hb:Kp d L.length x 2=false:=by show(QU d L.length 2 && !KY d x.piece (onS x _))=false;rw[b8];exact b9
 refine⟨3,by show 3<=4;omega,by show 4-3<4-2;omega,λe J h=>by unfold myR at h ⊢;rw[hf.2 hb];exact h,rfl,rfl,_,QVn d E L x 3,?_⟩
 rotate_left
 have hb:Kp d L.length x 2=false:=by show(QU d L.length 2 && !KY d x.piece (onS x _))=false;rw[b8];rfl
 refine⟨3,by show 3<=4;omega,by show 4-3<4-2;omega,λe J h=>by unfold myR at h ⊢;rw[hf.2 hb];exact h,rfl,rfl,_,QZl d E L x 3,?_⟩
 rotate_left
 obtain rfl:s=3:=by
  have h1:=qdf b1;have h2:=qdf b4;have h3:=qdf b7;omega
 refine QF ?_ ?_<;>intro b10
 iterate 2 (refine QH ?_ ?_;rotate_left)
 refine QF ?_ ?_<;>intro b11
 .have hb:Kp d L.length x 3=true:=by show(QU d L.length 3 && !KY d x.piece (onS x _))=true;rw[b10];exact b11
  exact⟨_,.inl ⟨rfl,by rw[hf.1 hb];rfl,rfl⟩,rfl,rfl,_,Qdw E,⟨rfl,rfl,rfl,trivial⟩⟩
 have hb:Kp d L.length x 3=false:=by show(QU d L.length 3 && !KY d x.piece (onS x _))=false;rw[b10];exact b11
 refine⟨4,by show 4<=4;omega,by show 4-4<4-3;omega,λe J h=>by unfold myR at h ⊢;rw[hf.2 hb];exact h,rfl,rfl,_,QX1 d E L x 4,?_⟩
 rotate_left
 have hb:Kp d L.length x 3=false:=by show(QU d L.length 3 && !KY d x.piece (onS x _))=false;rw[b10];rfl
 refine⟨4,by show 4<=4;omega,by show 4-4<4-3;omega,λe J h=>by unfold myR at h ⊢;rw[hf.2 hb];exact h,rfl,rfl,_,QeL d E L x 4,?_⟩
 rotate_left
 obtain rfl:s=4:=by have:=qdf b0;omega
 refine⟨_,.inr ⟨rfl,rfl,rfl⟩,rfl,rfl,_,QXj d E L x,?_⟩
 rotate_left
 all_goals first|(show _=true;(first|(refine Q6.2 ?_;repeat' first|exact tv|exact qRr|refine aI ?_ ?_)|(simp;omega)))|(repeat' first|with_reducible refine QP ?_ ?_|exact tv|exact qRr|exact rfl|refine aI ?_ ?_)
def Zu(c:Nat)(x:Lay):Bool:=(QX (Kp d c x) 4 0).isNone
def myX:List (Prop×Ex×JSt):=[(Zu d L.length x=false,.ret,zn E),(Zu d L.length x=true,.exit 0,QH2 d E L x)]
abbrev myH(P:Program)(d:Puz)(E:ECt)(L:List Lay)(x:Lay):Hnd:={ hnd (mkF P QT) 1 with loop:=λ_=>KE 216 [201] (myJ d E L x (0:Nat)) (myX d E L x) }
theorem QdL(hx:KC d x)(G:Ctx)(hrd:G.rd=none)(hG:G.n<=216):Qu (mkF prog QT) G (myH prog d E L x) (Qp f105):=by
 refine KM (body:=QJ f105 0) (Ke Qd) hrd (by kernel_rfl) ?_
 refine Jt (E0:=mkF prog QT) (E:=Gb prog d L x) (H:=λs=>hnd (Gb prog d L x s) 1) (n0:=216) (s0:=0) (λ_=>rfl) (QNs hx) hG (λs _=>Q1 (QNs hx s) 1 G _ hrd) (λs _=>(by decide:216<=224)) ?_ (QeZ d E L x hx) (Nat.zero_le _) ?_
 .rintro s e J (⟨_,_,rfl⟩|⟨_,_,rfl⟩)<;>exact(by decide:216<=224)
 .rintro e J (⟨rfl,h,rfl⟩|⟨rfl,h,rfl⟩)
  .exact⟨_,qmc,h,rfl,rfl⟩
  .exact⟨_,List.mem_cons_of_mem _ qmc,h,rfl,rfl⟩
def myU(v:Bool):UC:=⟨208,⟨2,[(0,.ptr 200 0 0),(1,Enc.enc x)],QGx d E L,216⟩,λ_=>.bool false v,λ_=>[(201,.mp E.1 E.2)]⟩
theorem Qb1(v:Bool):VF (mkF prog QT) (myH prog d E L x) f105 (myU d E L x v) = .need (!decide (d.wide=0)) (.need (!decide (d.wide=0)) (.ak [0=0,0=0,0=0,0=0,(L.length:Int)=(L.length:Int),i64.wrap ((L.length:Int).tdiv d.wide)=Qo d L.length,(L.length:Int).tmod d.wide=Q2 d L.length,(i64.wrap ((L.length:Int).tdiv d.wide)==0)=QU d L.length 0,((L.length:Int).tmod d.wide==i64.wrap (d.wide-1))=QU d L.length 1,(i64.wrap ((L.length:Int).tdiv d.wide)==i64.wrap (d.high-1))=QU d L.length 2,((L.length:Int).tmod d.wide==0)=QU d L.length 3,(0:Int)=0,x.piece=x.piece,x.turn=x.turn,d.pK.length=d.pK.length,d.pK.aK=d.pK.aK,d.pK.oK=d.pK.oK,d.pK.dK.lo=d.pK.dK.lo,d.pK.dK.hi=d.pK.dK.hi,d.wide=d.wide,d.high=d.high,d.turn=d.turn,0=0,d.ps.n=d.ps.n,cO=cO,0=0,L.length=L.length,cO=cO,L.length<=L.length,QB 2 L.length (λi=>QA.enc (L.getD i (Lay.mk (0:Int) (0:Int)))) λi=>QA.enc (L.getD i (Lay.mk (0:Int) (0:Int))),E.1=E.1,E.2=E.2,d.ps.n<=d.ps.n,QB 28 d.ps.n (λi=>QA.enc (d.ps.get i)) λi=>QA.enc (d.ps.get i)] (.both (.asm (Zu d L.length x=false) (.all (λ(g0:Nat->Value)=>.leaf (.bool false false) ([(201, .mp E.1 E.2)])))) (.asm (Zu d L.length x=true) (.all (λ(g1:Nat->Value)=>.br (decide (Qo d L.length>0)) (.need (decide ((0:Int)<=i64.wrap ((L.length:Int)-d.wide)/\i64.wrap ((L.length:Int)-d.wide)<(L.length:Int))&&decide (L.length<=L.length)) (.need (decide ((i64.wrap ((L.length:Int)-d.wide)).toNat<L.length)) (.need (true&&(true&&true)&&decide (((0:Int)<=(L.getD (i64.wrap ((L.length:Int)-d.wide)).toNat (Lay.mk (0:Int) (0:Int))).turn/\(L.getD (i64.wrap ((L.length:Int)-d.wide)).toNat (Lay.mk (0:Int) (0:Int))).turn<=3)/\(0:Int)<=2/\(2:Int)<=3)) (.need (true&&(true&&true)&&decide (((0:Int)<=x.turn/\x.turn<=3)/\(0:Int)<=0/\(0:Int)<=3)) (.need (wf4 i64 E.1) (.br (KL E.1 [(L.getD (i64.wrap ((L.length:Int)-d.wide)).toNat (Lay.mk (0:Int) (0:Int))).piece,onS (L.getD (i64.wrap ((L.length:Int)-d.wide)).toNat (Lay.mk (0:Int) (0:Int))) (2:Int),x.piece,onS x (0:Int)]==0) (.leaf (.bool true false) ([(201,.mp E.1 E.2)])) (.br (Q2 d L.length==0) (.leaf (.bool true true) ([(201,.mp E.1 E.2)])) (.need (decide ((0:Int)<=i64.wrap ((L.length:Int)-1)/\i64.wrap ((L.length:Int)-1)<(L.length:Int))&&decide (L.length<=L.length)) (.need (decide ((i64.wrap ((L.length:Int)-1)).toNat<L.length)) (.need (true&&(true&&true)&&decide (((0:Int)<=(L.getD (i64.wrap ((L.length:Int)-1)).toNat (Lay.mk (0:Int) (0:Int))).turn/\(L.getD (i64.wrap ((L.length:Int)-1)).toNat (Lay.mk (0:Int) (0:Int))).turn<=3)/\(0:Int)<=1/\(1:Int)<=3)) (.need (true&&(true&&true)&&decide (((0:Int)<=x.turn/\x.turn<=3)/\(0:Int)<=3/\(3:Int)<=3)) (.need (wf4 i64 E.1) (.leaf (.bool false (KL E.1 [(L.getD (i64.wrap ((L.length:Int)-1)).toNat (Lay.mk (0:Int) (0:Int))).piece,onS (L.getD (i64.wrap ((L.length:Int)-1)).toNat (Lay.mk (0:Int) (0:Int))) (1:Int),x.piece,onS x (3:Int)] != 0)) ([(201,.mp E.1 E.2)])))))))))))))) (.br (Q2 d L.length==0) (.leaf (.bool true true) ([(201,.mp E.1 E.2)])) (.need (decide ((0:Int)<=i64.wrap ((L.length:Int)-1)/\i64.wrap ((L.length:Int)-1)<(L.length:Int))&&decide (L.length<=L.length)) (.need (decide ((i64.wrap ((L.length:Int)-1)).toNat<L.length)) (.need (true&&(true&&true)&&decide (((0:Int)<=(L.getD (i64.wrap ((L.length:Int)-1)).toNat (Lay.mk (0:Int) (0:Int))).turn/\(L.getD (i64.wrap ((L.length:Int)-1)).toNat (Lay.mk (0:Int) (0:Int))).turn<=3)/\(0:Int)<=1/\(1:Int)<=3)) (.need (true&&(true&&true)&&decide (((0:Int)<=x.turn/\x.turn<=3)/\(0:Int)<=3/\(3:Int)<=3)) (.need (wf4 i64 E.1) (.leaf (.bool false (KL E.1 [(L.getD (i64.wrap ((L.length:Int)-1)).toNat (Lay.mk (0:Int) (0:Int))).piece,onS (L.getD (i64.wrap ((L.length:Int)-1)).toNat (Lay.mk (0:Int) (0:Int))) (1:Int),x.piece,onS x (3:Int)] != 0)) ([(201,.mp E.1 E.2)])))))))))))))):=by kernel_rfl
structure KI (d:Puz):Prop where
 n:d.ps.n<=1000
 w1:1<=d.wide
 wn:d.wide<=d.ps.n
 h1:1<=d.high
 hn:d.high<=d.ps.n
 wh:d.wide*d.high=d.ps.n
def atL(i:Int):Lay:=L.getD i.toNat ⟨0,0⟩
def WP(p q:Lay)(s t:Int):Int:=KL E.1 [p.piece,onS p s,q.piece,onS q t]
def Q0:Bool:=Zu d L.length x&&((!decide (0<Qo d L.length) || !(WP E (atL L ((L.length:Int)-d.wide)) x 2 0==0))&&(Q2 d L.length==0||WP E (atL L ((L.length:Int)-1)) x 1 3 != 0))
theorem QKV{d:Puz}(h:KI d)(c:Nat):0<=Qo d c/\Qo d c<=c:=by
 have:=h.w1;refine⟨Int.tdiv_nonneg (by omega) (by omega),?_⟩
 rw[Qo,Int.tdiv_eq_ediv_of_nonneg (by omega)]
 exact Int.ediv_le_self _ (by omega)
theorem QOA{d:Puz}(h:KI d){c:Nat}(hr:0<Qo d c):d.wide<=c:=by
 have:=h.w1;rw[Qo,Int.tdiv_eq_ediv_of_nonneg (by omega)]at hr
 have:=(Int.le_ediv_iff_mul_le (a:=1) (b:=(c:Int)) (c:=d.wide) (by omega)).1 (by omega)
 omega
theorem QCd{d:Puz}{c:Nat}(hr:(Q2 d c==0)=false):1<=c:=by
 cases c with
 | zero=>simp[Q2]at hr
 | succ c=>omega
theorem Gy{d:Puz}{L:List Lay}(hL:∀ y∈L,KC d y){i:Int}(h1:0<=i)(h2:i<L.length):KC d (atL L i):=by
 have h:i.toNat<L.length:=by omega
 exact hL _ (by rw[atL,Xe h];exact List.getElem_mem h)
theorem Qec(v b:Bool)(k:Bool)(h:v=b):(QC.leaf (.bool k v) [(201,.mp E.1 E.2)]).den (jH (myU d E L x b)):=⟨rfl,rfl,_,by cases k<;>rfl,by subst h;exact⟨rfl,rfl,rfl,trivial⟩⟩
theorem QZm(v:Bool):(myU d E L x v).Ok:=by
 refine⟨(by decide:208<=216),rfl,rfl,?_,rfl,λ_ _=>rfl,λnid h=>rfl⟩
 intro q hq;simp only[UC.po,myU,List.mem_cons,List.not_mem_nil,or_false]at hq;subst hq;exact⟨rfl,rfl,rfl,λ_=>rfl⟩
theorem QCK(L:List Lay)(x:Lay)(hd:KI d)(hE:WfE E)(hl:L.length<=1000)(hL:∀ y∈L,KC d y)(hx:KC d x):QR prog 105 (uFC (myU d E L x (Q0 d E L x))):=by
 refine Ks (E:=mkF prog QT) (Ke Qd) func105 (by kernel_rfl) (by kernel_rfl) (QZm ..) (λG h1 h2=>QdL d E L x hx G h1 (by rw[h2];exact qlr _)) ⟨?_⟩
 have fin:∀(v k:Bool),v=Q0 d E L x->(QC.leaf (.bool k v) [(201,.mp E.1 E.2)]).den (jH (myU d E L x (Q0 d E L x))):=λv k h=>Qec d E L x v _ k h;have hw1:=hd.w1;have hwn:=hd.wn;have hh1:=hd.h1;have hhn:=hd.hn;have hn:=hd.n;have hr:=QKV hd L.length;have ht:=hx.t;have hE:wf4 .i64 E.1=true:=hE;have wr:i64.wrap ((L.length:Int).tdiv d.wide)=Qo d L.length:=w64 (by have:=hr.1;unfold Qo at this;omega) (by have:=hr.2;unfold Qo at this;omega)
 have ww:i64.wrap (d.wide-1)=d.wide-1:=w64 (by omega) (by omega)
 have wh:i64.wrap (d.high-1)=d.high-1:=w64 (by omega) (by omega)
 have wu:i64.wrap ((L.length:Int)-d.wide)=(L.length:Int)-d.wide:=w64 (by omega) (by omega)
 have wl:i64.wrap ((L.length:Int)-1)=(L.length:Int)-1:=w64 (by omega) (by omega)
 generalize hv:Q0 d E L x=v at fin;refine Qf (Qb1 d E L x v) ?_;rw[wr,ww,wh,wu,wl]
 iterate 2 (refine QH ?_ ?_;rotate_left)
 iterate 34 refine Qt (by first|exact tv|exact qRr|exact rfl) ?_
 refine Kl ?_ ?_;refine Qj λa0=>?_;refine Qk λg0=>?_
 .refine fin _ _ ?_;rw[<-hv,Q0,a0];rfl
 refine Qj λa1=>?_;refine Qk λg1=>?_;refine QF (λb0=>?_) (λb0=>?_);have hcw:=QOA hd (qdt b0);have hU:=(Gy hL (i:=(L.length:Int)-d.wide) (by omega) (by omega)).t
 iterate 5 (refine QH ?_ ?_;rotate_left)
 refine QF ?_ ?_<;>intro b1
 .refine fin _ _ ?_;rw[<-hv,Q0,a1,show decide (0<Qo d L.length)=true from b0,show(WP E (atL L ((L.length:Int)-d.wide)) x 2 0==0)=true from b1];rfl
 refine QF ?_ ?_<;>intro b2
 .refine fin _ _ ?_;rw[<-hv,Q0,a1,show decide (0<Qo d L.length)=true from b0,show(WP E (atL L ((L.length:Int)-d.wide)) x 2 0==0)=false from b1,b2];rfl
 have hc1:=QCd b2;have hV:=(Gy hL (i:=(L.length:Int)-1) (by omega) (by omega)).t
 iterate 5 (refine QH ?_ ?_;rotate_left)
 .refine fin _ _ ?_;rw[<-hv,Q0,a1,show decide (0<Qo d L.length)=true from b0,show(WP E (atL L ((L.length:Int)-d.wide)) x 2 0==0)=false from b1,b2];rfl
 refine QF ?_ ?_<;>intro b3
 .refine fin _ _ ?_;rw[<-hv,Q0,a1,show decide (0<Qo d L.length)=false from b0,b3];rfl
 have hc1:=QCd b3;have hV:=(Gy hL (i:=(L.length:Int)-1) (by omega) (by omega)).t
 iterate 5 (refine QH ?_ ?_;rotate_left)
 .refine fin _ _ ?_;rw[<-hv,Q0,a1,show decide (0<Qo d L.length)=false from b0,b3];rfl
 all_goals first|exact hE|rfl|exact qde (show(0<=(atL L _).turn/\_)/\_ from⟨hU,by decide,by decide⟩)|exact qde (show(0<=(atL L _).turn/\_)/\_ from⟨hV,by decide,by decide⟩)|exact qde ⟨ht,by decide,by decide⟩|(simp;omega)
structure Jn where
 a:Int
 i:Int
 b:Int
 j:Int
instance : QA Jn where
  ks := [.int .i64,.int .i64,.int .i64,.int .i64]
  enc p j := match j with
    | 0 => p.a
    | 1 => p.i
    | 2 => p.b
    | _ => p.j
  dec f := ⟨f 0,f 1,f 2,f 3⟩
  ok _ := rfl
instance : Enc Jn where
  enc x := .agg [.int false .i64 x.a,.int false .i64 x.i,.int false .i64 x.b,.int false .i64 x.j]
  dec | .agg [.int _ .i64 a0,.int _ .i64 a1,.int _ .i64 a2,.int _ .i64 a3] => some ⟨a0,a1,a2,a3⟩ | _ => none
  ok v x h := by
    split at h <;> (try (cases h; done))
    simp only[qsI]at h; subst h; exact⟨λ_=>rfl,rfl⟩
def JM(x y:Int):Int:=cond (decide (x<y)) (-1) (cond (decide (y<x)) 1 0)
def orI(x y:Int):Int:=cond (x != 0) x y
def VZ(x y:Jn):Int:=orI (JM x.a y.a) (orI (JM x.i y.i) (orI (JM x.b y.b) (JM x.j y.j)))
def QAa:WF (Int×Int×Unit):=λ|(x,(y,_))=>(true,.int false .i64 (JM x y),[])
def QLF:FC:=wFC QAa
theorem QXW(x:Int)(y:Int):Ku (mkE prog QT) (hnd (mkE prog QT) 3) f108 (Qi.vals 0 ((x,y,()):Int×Int×Unit)) (Qi.blks 0 ((x,y,()):Int×Int×Unit)) 8=QC.br (x != x) (QC.br (y != y) (QC.leaf (vj (0:Int)) ([])) (QC.leaf (vj (-1:Int)) ([]))) (QC.br (y != y) (QC.leaf (vj (1:Int)) ([])) (QC.br (decide (x<y)) (QC.leaf (vj (-1:Int)) ([])) (QC.br (decide (x>y)) (QC.leaf (vj (1:Int)) ([])) (QC.leaf (vj (0:Int)) ([]))))):=by kernel_rfl
theorem Qe6:Jw (mkE prog QT) (Qp f108) 8 QAa (λx_=>(hnd (mkE prog QT) 3)):=by
 refine⟨?_⟩;rintro⟨x,⟨y,⟨⟩⟩⟩ hp G h1 h2;exact Q1 (QQ Qd) 3 G _ h1
theorem QYj:Jx (mkE prog QT) f108 8 QAa (λx_=>(hnd (mkE prog QT) 3)):=by
 refine⟨?_⟩;rintro⟨x,⟨y,⟨⟩⟩⟩ hp;refine⟨⟨rfl,by simp[QAa],rfl⟩,⟨?_⟩⟩
 rw[QXW x y];simp only[QAa]at hp;refine QF ?_ ?_<;>intro b0
 .simp at b0
 refine QF ?_ ?_<;>intro b2
 .simp at b2
 refine QF ?_ ?_<;>intro b3
 .refine Kw ⟨rfl,?_⟩ rfl;rw[JM,b3];rfl
 refine QF ?_ ?_<;>intro b4
 .refine Kw ⟨rfl,?_⟩ rfl;rw[JM,b3,show decide (y<x)=true from b4];rfl
 .refine Kw ⟨rfl,?_⟩ rfl;rw[JM,b3,show decide (y<x)=false from b4];rfl
theorem QeC:QR prog 108 QLF:=
 VL (QQ Qd) func108 (by kernel_rfl) (by kernel_rfl) (by decide) Qe6 QYj
def VO:Tab:=Qc QT 108 QLF
theorem jX:Qe VO:=Qd.add QeC
def nzI(k:Nat):Bool:=K.get k != 0
def orV:Int:=(QX (nzI K) K.n 0).elim 0 K.get
def orJ(k:Nat):JSt:=⟨18,[(3,.int false .i64 0),(6,.slz 0 0 K.n (.of 0)),(7,.int false .i64 K.n),(8,.int false .i64 k)],Ql.blk 0 K,8⟩
def QEI(v:Int):JSt:=⟨18,[(2,.int false .i64 v)],[],8⟩
def QGQ:JSt:=⟨18,[(3,.int false .i64 0)],[],8⟩
def QNl:Ex->List Nat
 | .normal=>[3,6,7,8]
 | .exit _=>[3]
 | .ret=>[2]
theorem QYN(k:Nat)(g:Nat->Value):exec (mkE prog VO) (hnd (mkE prog VO) 1) (QJ f154 0) (JSt.inst (orJ K k) g) (Q9 [] QNl)=QC.br (decide ((↑k:Int)<(↑K.n:Int))) (QC.need (decide ((0:Int)<=(↑k:Int)/\(↑k:Int)<(↑K.n:Int))&&decide (K.n<=K.n)) (QC.need (decide (k<K.n)) (QC.br (K.get k != (0:Int)) (QC.leaf (AV.tup [AV.nili,AV.ptr (18:Nat) (0:Nat) (0:Nat),vi (K.get k)]) ([])) (QC.leaf (AV.tup [AV.nilp,AV.ptr (18:Nat) (0:Nat) (0:Nat),vi (0:Int),AV.slz (0:Nat) (0:Nat) K.n cO,vi (↑K.n:Int),vi (i64.wrap ((↑k:Int)+(1:Int)))]) ([((0:Nat),Blk.frz [CK.int i64] K.n λi=>QA.enc (K.get i))]))))) (QC.leaf (AV.tup [AV.ptr (0:Nat) (0:Nat) (0:Nat),AV.ptr (18:Nat) (0:Nat) (0:Nat),vi (0:Int)]) ([])):=by kernel_rfl
theorem QdK(k:Nat)(v:Int):QG 8 [vi (K.get k)] ([]) (QEI v)=( some [K.get k=v]):=by kernel_rfl
theorem QV9(k k':Nat):QG 8 [vi (0:Int),AV.slz (0:Nat) (0:Nat) K.n cO,vi (↑K.n:Int),vi (i64.wrap ((↑k:Int)+(1:Int)))] ([((0:Nat),Blk.frz [CK.int i64] K.n λi=>QA.enc (K.get i))]) (orJ K k')=( some [(0:Int)=(0:Int),0=0,K.n=K.n,cO=cO,(↑K.n:Int)=(↑K.n:Int),i64.wrap ((↑k:Int)+(1:Int))=(↑k':Int),K.n<=K.n,QB (1:Nat) K.n (λi=>QA.enc (K.get i)) λi=>QA.enc (K.get i)]):=by kernel_rfl
theorem QYg :QG 8 [vi (0:Int)] ([]) QGQ=( some [(0:Int)=(0:Int)]):=by kernel_rfl
def orR(k:Nat)(e:Ex)(J:JSt):Prop:=(e = .ret/\∃ i,QX (nzI K) (K.n-k) k=some i/\J=QEI (K.get i))∨(e = .exit 0/\QX (nzI K) (K.n-k) k=none/\J=QGQ)
theorem QW9(hn:K.n<=1000):Ji (orJ K) (λk=>k<=K.n) (λk=>K.n-k) (orR K) 8 QNl [] (mkE prog VO) (λ_=>hnd (mkE prog VO) 1) (QJ f154 0):=by
 refine⟨λk g0 hk=>Qf (QYN K k g0) ?_⟩;have hk:k<=K.n:=hk;refine QF (λb0=>?_) (λb0=>?_);have h:k<K.n:=by have:=qdt b0;omega
 have hf:=VX (p:=nzI K) h
 iterate 2 (refine QH ?_ ?_;rotate_left)
 refine QF ?_ ?_<;>intro b1
 .exact⟨_,.inl ⟨rfl,k,hf.1 b1,rfl⟩,rfl,rfl,_,QdK K k (K.get k),⟨rfl,trivial⟩⟩
 refine⟨k+1,h,by show K.n-(k+1)<K.n-k;omega,λe J h=>by unfold orR at h ⊢;rw[hf.2 b1];exact h,rfl,rfl,_,QV9 K k (k+1),?_⟩
 rotate_left
 .have h:K.n<=k:=by have:=qdf b0;omega
  exact⟨_,.inr ⟨rfl,by rw[show K.n-k=0 by omega];rfl,rfl⟩,rfl,rfl,_,QYg,⟨rfl,trivial⟩⟩
 all_goals first|(show _=true;(simp at b0 ⊢;omega))|(repeat' first|with_reducible refine QP ?_ ?_|exact tv|exact qRr|exact Ju h hn|refine aI ?_ ?_)
def orX:List (Prop×Ex×JSt):=[((QX (nzI K) K.n 0).isSome=true,.ret,QEI (orV K)),(QX (nzI K) K.n 0=none,.exit 0,QGQ)]
abbrev orH(P:Program)(K:Rw Int):Hnd:={ hnd (mkE P VO) 1 with loop:=λ_=>JI (K.n<=1000) (KE 8 [] (orJ K (0:Nat)) (orX K)) }
theorem Qc7(G:Ctx)(hrd:G.rd=none)(hG:G.n=8):Qu (mkE prog VO) G (orH prog K) (Qp f154):=by
 refine KM (body:=QJ f154 0) (QQ jX) hrd (by kernel_rfl) ?_
 refine Jm λhl=>?_;refine Vn (n0:=8) (QQ jX) (by omega) (λs hs=>Q1 (QQ jX) 1 G _ hrd) (λs hs=>(by decide:8<=8)) ?_ (QW9 K hl) (s0:=0) (Nat.zero_le _) ?_
 .rintro s e J (⟨_,_,_,rfl⟩|⟨_,_,rfl⟩)<;>exact(by decide:8<=8)
 .rintro e J (⟨rfl,i,h,rfl⟩|⟨rfl,h,rfl⟩)
  .exact⟨_,qmc,congrArg Option.isSome h,rfl,congrArg QEI (show(QX (nzI K) K.n 0).elim 0 K.get=_ by rw[show QX (nzI K) K.n 0=some i from h];rfl)⟩
  .exact⟨_,List.mem_cons_of_mem _ qmc,h,rfl,rfl⟩
def QA6:WF ((Rw Int)×Unit):=λ|(K,_)=>(decide (K.n<=1000),.int false .i64 (orV K),[])
def QRz:FC:=wFC QA6
theorem QT7(K:(Rw Int)):Ku (mkE prog VO) (orH prog K) f154 (Qi.vals 0 ((K,()):(Rw Int)×Unit)) (Qi.blks 0 ((K,()):(Rw Int)×Unit)) 8=QC.ask (K.n<=(1000:Nat)) (QC.ask ((0:Int)=(0:Int)) (QC.ask (0=0) (QC.ask (K.n=K.n) (QC.ask (cO=cO) (QC.ask ((↑K.n:Int)=(↑K.n:Int)) (QC.ask ((0:Int)=(0:Int)) (QC.ask (K.n<=K.n) (QC.ask (QB (1:Nat) K.n (λi=>QA.enc (K.get i)) λi=>QA.enc (K.get i)) (QC.both (QC.asm ((QX (nzI K) K.n (0:Nat)).isSome=true) (QC.all (λ(g0:Nat->Value)=>QC.leaf (vi (orV K)) ([])))) (QC.asm (QX (nzI K) K.n (0:Nat)=none) (QC.all (λ(g1:Nat->Value)=>QC.leaf (vi (0:Int)) ([]))))))))))))):=by kernel_rfl
theorem Qa4:Jw (mkE prog VO) (Qp f154) 8 QA6 (λx_=>(orH prog x_.1)):=by
 refine⟨?_⟩;rintro⟨K,⟨⟩⟩ hp G h1 h2;exact Qc7 K G h1 h2
theorem QUa:Jx (mkE prog VO) f154 8 QA6 (λx_=>(orH prog x_.1)):=by
 refine⟨?_⟩;rintro⟨K,⟨⟩⟩ hp;refine⟨⟨rfl,by simp[QA6],rfl⟩,⟨?_⟩⟩
 rw[QT7 K];simp only[QA6]at hp;have hp:=qdt hp
 iterate 9 refine Qt (by first|exact tv|exact hp|exact qRr) ?_
 refine Kl ?_ ?_;refine Qj λa0=>?_;refine Qk λg0=>?_
 .exact Kw ⟨rfl,rfl⟩ rfl
 refine Qj λa1=>?_;refine Qk λg1=>?_
 .refine Kw ⟨rfl,?_⟩ rfl;rw[orV,a1];rfl
theorem QVv:QR prog 154 QRz:=
 VL (QQ jX) func154 (by kernel_rfl) (by kernel_rfl) (by decide) Qa4 QUa
def vC:Tab:=Qc VO 154 QRz
theorem QOd:Qe vC:=jX.add QVv
theorem or4(hn:K.n=4):orV K=orI (K.get 0) (orI (K.get 1) (orI (K.get 2) (K.get 3))):=by
 have e:∀ i,nzI K i=(K.get i != 0):=λ_=>rfl;unfold orV orI;rw[hn];simp only[QX,e];cases h0:K.get 0 != 0 with
 | true=>rfl
 | false=>
  cases h1:K.get 1 != 0 with
  | true=>simp[h1]
  | false=>
   cases h2:K.get 2 != 0 with
   | true=>simp[h1,h2]
   | false=>
    cases h3:K.get 3 != 0 with
    | true=>simp[h1,h2,h3]
    | false=>
     have:K.get 3=0:=by simpa using h3
     simp[h1,h2,h3,this]
def Ht:WF (Jn×Jn×Unit):=λ|(x,(y,_))=>(true,.int false .i64 (VZ x y),[])
def QXZ:FC:=wFC Ht
theorem QXc(x:Jn)(y:Jn):Ku (mkE prog vC) (hnd (mkE prog vC) 1) f131 (Qi.vals 0 ((x,y,()):Jn×Jn×Unit)) (Qi.blks 0 ((x,y,()):Jn×Jn×Unit)) 8=QC.need (true) (QC.need (true) (QC.need (true) (QC.need (true) (QC.need (true&&true&&decide ((4:Nat)<=(1000:Nat))) (QC.leaf (vi (orV (Rw.mk (4:Nat) λi=>Kh [[vi (JM x.a y.a)],[vi (JM x.i y.i)],[vi (JM x.b y.b)],[vi (JM x.j y.j)]] (0:Nat) i (0:Nat)))) ([])))))):=by kernel_rfl
theorem QZO:Jw (mkE prog vC) (Qp f131) 8 Ht (λx_=>(hnd (mkE prog vC) 1)):=by
 refine⟨?_⟩;rintro⟨x,⟨y,⟨⟩⟩⟩ hp G h1 h2;exact Q1 (QQ QOd) 1 G _ h1
theorem QdV:Jx (mkE prog vC) f131 8 Ht (λx_=>(hnd (mkE prog vC) 1)):=by
 refine⟨?_⟩;rintro⟨x,⟨y,⟨⟩⟩⟩ hp;refine⟨⟨rfl,by simp[Ht],rfl⟩,⟨?_⟩⟩
 rw[QXc x y];simp only[Ht]at hp
 iterate 5 (refine QH ?_ ?_;rotate_left)
 .refine Kw ⟨rfl,?_⟩ rfl;rw[or4 _ rfl];rfl
 all_goals rfl
theorem Qag:QR prog 131 QXZ:=
 VL (QQ QOd) func131 (by kernel_rfl) (by kernel_rfl) (by decide) QZO QdV
def QJK:Int×Int×Unit->Bool×AV:=λ|(lo,(hi,_))=>(true,Enc.enc (⟨lo,hi⟩:Sp))
def QPU:FC:=Kk (Kn QJK)
theorem Qeb(lo:Int)(hi:Int):KX (mkE prog KF) (hnd (mkE prog KF) 2) false f97 (Q8.enc ((lo,hi,()):Int×Int×Unit)) [] 0=QC.leaf (AV.agg [vi lo,vi hi]) ([]):=by kernel_rfl
theorem Qbd:QR prog 97 QPU:=by
 refine K0 JG 2 func97 (by kernel_rfl) (by kernel_rfl) ?_
 rintro⟨lo,hi,⟨⟩⟩ hp;rw[Qeb lo hi];simp only[QJK,QC.den,AV.same,AV.sameL,and_true,true_and]at hp ⊢;simp only[Enc.enc,AV.same,AV.sameL,and_self]
def QC7:Tab:=Qc KF 97 QPU
theorem QQD:Qe QC7:=JG.add Qbd
def QMp:Int×Int×Unit->Bool×AV:=λ|(lo,(hi,_))=>(true,Enc.enc (⟨1,⟨1000,1000⟩,⟨lo,hi⟩,⟨400,400⟩⟩:Edge))
def QNO:FC:=Kk (Kn QMp)
theorem QfT(lo:Int)(hi:Int):KX (mkE prog QC7) (hnd (mkE prog QC7) 2) false f95 (Q8.enc ((lo,hi,()):Int×Int×Unit)) [] 0=QC.need (true) (QC.leaf (AV.agg [vj (1:Int),vj (1000:Int),vj (1000:Int),vi lo, vi hi,vj (400:Int),vj (400:Int)]) ([])):=by kernel_rfl
theorem Qax:QR prog 95 QNO:=by
 refine K0 QQD 2 func95 (by kernel_rfl) (by kernel_rfl) ?_
 rintro⟨lo,hi,⟨⟩⟩ hp;rw[QfT lo hi];simp only[QMp,QC.den,AV.same,AV.sameL,and_true,true_and]at hp ⊢;simp only[Enc.enc,AV.same,AV.sameL,and_self]
def QDI:Tab:=Qc QC7 95 QNO
theorem QQj:Qe QDI:=QQD.add Qax
def QLe:Unit->Bool×AV:=λ_=>(true,Enc.enc (⟨2,⟨1000,1000⟩,⟨515,515⟩,⟨410,410⟩⟩:Edge))
def QSN:FC:=Kk (Kn QLe)
theorem QUu :KX (mkE prog QDI) (hnd (mkE prog QDI) 2) false f96 (Q8.enc (():Unit)) [] 0=QC.leaf (AV.agg [vj (2:Int),vj (1000:Int),vj (1000:Int),vj (515:Int),vj (515:Int),vj (410:Int),vj (410:Int)]) ([]):=by kernel_rfl
theorem QVZ:QR prog 96 QSN:=by
 refine K0 QQj 2 func96 (by kernel_rfl) (by kernel_rfl) ?_
 rintro⟨⟩ hp;rw[QUu];simp only[QLe,QC.den,AV.same,AV.sameL,and_true,true_and]at hp ⊢;simp only[Enc.enc,AV.same,AV.sameL,and_self]
def QCO:Tab:=Qc QDI 96 QSN
theorem QOZ:Qe QCO:=QQj.add QVZ
def QPI:Edge×Edge×Edge×Edge×Unit->Bool×AV:=λ|(r,(b,(l,(a,_))))=>(true,Enc.enc (⟨a,r,b,l⟩:QW))
def QSJ:FC:=Kk (Kn QPI)
theorem QUq(r:Edge)(b:Edge)(l:Edge)(a:Edge):KX (mkE prog QCO) (hnd (mkE prog QCO) 2) false f98 (Q8.enc ((r,b,l,a,()):Edge×Edge×Edge×Edge×Unit)) [] 0=QC.leaf (AV.agg [vi a.kind,vi a.at_.lo,vi a.at_.hi,vi a.wide.lo,vi a.wide.hi,vi a.deep.lo,vi a.deep.hi,vi r.kind,vi r.at_.lo,vi r.at_.hi,vi r.wide.lo,vi r.wide.hi,vi r.deep.lo,vi r.deep.hi,vi b.kind,vi b.at_.lo,vi b.at_.hi,vi b.wide.lo,vi b.wide.hi,vi b.deep.lo,vi b.deep.hi,vi l.kind,vi l.at_.lo,vi l.at_.hi,vi l.wide.lo,vi l.wide.hi,vi l.deep.lo,vi l.deep.hi]) ([]):=by kernel_rfl
theorem QbB:QR prog 98 QSJ:=by
 refine K0 QOZ 2 func98 (by kernel_rfl) (by kernel_rfl) ?_
 rintro⟨r,b,l,a,⟨⟩⟩ hp;rw[QUq r b l a];simp only[QPI,QC.den,AV.same,AV.sameL,and_true,true_and]at hp ⊢;simp only[Enc.enc,AV.same,AV.sameL,and_self]
def WH:Tab:=Qc QCO 98 QSJ
theorem QFc:Qe WH:=QOZ.add QbB
def eA:Edge:=⟨1,⟨1000,1000⟩,⟨500,500⟩,⟨400,400⟩⟩
def eP:Edge:=⟨1,⟨1000,1000⟩,⟨480,490⟩,⟨400,400⟩⟩
def eH:Edge:=⟨2,⟨1000,1000⟩,⟨515,515⟩,⟨410,410⟩⟩
def QVm:List QW:=[⟨JW,eA,JW,JW⟩,⟨JW,eA,JW,eH⟩,⟨JW,eP,JW,eH⟩,⟨JW,JW,JW,eH⟩]
def QbA:List QW:=[⟨JW,eA,eA,JW⟩,⟨JW,JW,eA,eH⟩,⟨eH,eP,JW,JW⟩,⟨eH,JW,JW,eH⟩]
def QRm:AV := .agg [.int false .i64 2000,.int false .i64 20,.int false .i64 30,.int false .i64 0,.int false .i64 10,.int false .i64 4,.int false .i64 1,.bool false false,.slice true 0 0 4 (.lit 4)]
def QLw:Nat×Blk:=(0,.rowl 70 28 (QVm.map λp=>(Enc.enc p).cells))
def QRO:AV := .agg [.int false .i64 2000,.int false .i64 20,.int false .i64 30,.int false .i64 0,.int false .i64 10,.int false .i64 2,.int false .i64 2,.bool false true,.slice true 0 0 4 (.lit 4)]
def QQp:Nat×Blk:=(0,.rowl 70 28 (QbA.map λp=>(Enc.enc p).cells))
noncomputable abbrev QLL:List AV:=
  [vj 2000,vj 20,vj 30,vj 0,vj 10,vj 4,vj 1,.bool true false,.slice true 288 0 4 (Cap.lit
  4)]
noncomputable abbrev waz:List AV:=[vj 0,vj 0,vj 0,vj 0,
  vj 0,vj 0,vj 0,vj 0]
noncomputable abbrev wcw:List AV:=[vj 0,.int
  true .i64 0,vj 0,vj 2,vj 1000,vj 1000,vj 515,vj 515,vj 410,vj 410]
noncomputable abbrev QMW:List (Nat×Blk):=
  [(288,.rowl 70 28 [(vj 0::vj 0::vj 0::vj 0::vj 0::vj 0::vj 0::vj 1::.int true .i64
  1000::vj 1000::vj 500::vj 500::vj 400::vj 400::List.append (waz) ([vj 0,vj 0,vj 0,vj 0,vj 0,vj 0])),
  (vj 0::vj 0::vj 0::vj 0::vj 0::vj 0::vj 0::vj 1::vj 1000::.int true .i64
  1000::vj 500::vj 500::vj 400::vj 400::vj 0::vj 0::vj 0::vj 0::wcw),(.int
  true .i64 0::vj 0::vj 0::vj 0::vj 0::vj 0::vj 0::vj 1::vj 1000::vj 1000::vj 480::vj 490::vj 400::vj 400::vj 0::vj 0::vj 0::vj 0::wcw),(.int true
  .i64 0::List.append (waz) (vj 0::.int true
  .i64 0::List.append (waz) ([vj 0,.int true
  .i64 0,vj 2,vj 1000,vj 1000,vj 515,vj 515,vj 410,vj 410])))])]
abbrev jY:List Prop:=
  [(0:Int)=0,(0:Int)=0,(0:Int)=0,(0:Int)=0]
abbrev QII:List Prop:=
  [(0:Int)=0,(0:Int)=0,(0:Int)=0,(1:Int)=1]
abbrev QBK:List Prop:=
  [(1000:Int)=1000,(1000:Int)=1000,(500:Int)=500,(500:Int)=500,(400:Int)=400,(400:Int)=400]
abbrev wbS:List Prop:=[(0:Int)=0,(0:Int)=0,(0:Int)=0,(0:Int)=0,(0:Int)=0,(0:Int)=0]
abbrev WU:List Prop:=
  (wbS++[(0:Int)=0,(0:Int)=0,(0:Int)=0,(0:Int)=0])
abbrev qh:List Prop:=
  [(1000:Int)=1000,(1000:Int)=1000,(515:Int)=515,(515:Int)=515,(410:Int)=410,(410:Int)=410]
abbrev QNU:List Prop:=
  [(1000:Int)=1000,(1000:Int)=1000,(480:Int)=480,(490:Int)=490,(400:Int)=400,(400:Int)=400]
theorem QXd :QG 8 [(.agg QLL)] (QMW) (KT 8 QRm [QLw])=(some ([(2000:Int)=2000,(20:Int)=20,(30:Int)=30,(0:Int)=0,(10:Int)=10,(4:Int)=4,(1:Int)=1, false=false,0=0,4=4,Cap.lit 4=Cap.lit 4]++jY++QII++QBK++WU++WU++[(0:Int)=0,(1:Int)=1]++QBK++jY++[(0:Int)=0,(0:Int)=0,(0:Int)=0,(2:Int)=2]++qh++jY++QII++QNU++jY++[(0:Int)=0,(0:Int)=0,(0:Int)=0,(2:Int)=2]++qh++WU++WU++[(0:Int)=0,(2:Int)=2]++qh)):=by kernel_rfl
def QB0:WF (Unit):=λ|_=>(true,QRm,[QLw])
def QK7:FC:=wFC QB0
theorem QbD :Ku (mkE prog WH) (hnd (mkE prog WH) 2) f46 (Qi.vals 0 ((()):Unit)) (Qi.blks 0 ((()):Unit)) 8 = .leaf (.agg QLL) (QMW):=by kernel_rfl
theorem Qbc:Jw (mkE prog WH) (Qp f46) 8 QB0 (λx_=>(hnd (mkE prog WH) 2)):=by
 refine⟨?_⟩;rintro⟨⟩ hp G h1 h2;exact Q1 (QQ QFc) 2 G _ h1
theorem QWs:Jx (mkE prog WH) f46 8 QB0 (λx_=>(hnd (mkE prog WH) 2)):=by
 refine⟨?_⟩;rintro⟨⟩ hp;refine⟨⟨rfl,by decide,rfl⟩,⟨?_⟩⟩
 rw[QbD];simp only[QB0]at hp;exact⟨rfl,rfl,_,QXd,by repeat' first|exact trivial|rfl|refine aI ?_ ?_⟩
theorem QZt:QR prog 46 QK7:=
 VL (QQ QFc) func46 (by kernel_rfl) (by kernel_rfl) (by decide) Qbc QWs
def qF:Tab:=Qc WH 46 QK7
theorem QHf:Qe qF:=QFc.add QZt
noncomputable abbrev QK4:List AV:=
  [vi 2000,vi 20,vi 30,vi 0,vi 10,vj 2,vj 2,.bool true true,.slice true 288 0 4
  (Cap.lit 4)]
noncomputable abbrev QMi:List (Nat×Blk):=
  [(288,.rowl 70 28 [[vj 0,vj 0,vj 0,vj 0,vj 0,vj 0,vj 0,vj 1,.int true .i64
  1000,vj 1000,vj 500,vj 500,vj 400,vj 400,vj 1,vj 1000,vj 1000,.int true .i64
  500,vj 500,vj 400,vj 400,vj 0,vj 0,vj 0,vj 0,vj 0,vj 0,.int
  true .i64 0],(List.append (waz) ([vj 0,.int
  true .i64 0,vj 0,vj 0,vj 0,vj 0,vj 1,vj 1000,vj 1000,vj 500,.int true .i64
  500,vj 400,vj 400,vj 2,vj 1000,vj 1000,vj 515,vj 515,vj 410,.int true .i64
  410])),(vj 2::vj 1000::vj 1000::vj 515::vj 515::vj 410::vj 410::vj 1::.int true .i64
  1000::vj 1000::vj 480::vj 490::vj 400::vj 400::List.append (waz) ([vj 0,vj 0,vj 0,vj 0,vj 0,vj 0])),
  (vj 2::vj 1000::vj 1000::vj 515::vj 515::vj 410::vj 410::vj 0::vj 0::.int
  true .i64 0::List.append (waz) ((wcw)))])]
theorem Qfm :QG 8 [(.agg QK4)] (QMi) (KT 8 QRO [QQp])=(some ([(2000:Int)=2000,(20:Int)=20,(30:Int)=30,(0:Int)=0,(10:Int)=10,(2:Int)=2,(2:Int)=2,true=true,0=0,4=4,Cap.lit 4=Cap.lit 4]++jY++QII++QBK++[(1:Int)=1]++QBK++WU++WU++[(0:Int)=0,(1:Int)=1]++QBK++[(2:Int)=2]++qh ++ [(2:Int)=2]++qh++[(1:Int)=1]++QNU++WU++jY++[(2:Int)=2]++qh++WU++jY++[(2:Int)=2]++qh)):=by kernel_rfl
def QCF:WF (Unit):=λ|_=>(true,QRO,[QQp])
def QNR:FC:=wFC QCF
theorem QZ6 :Ku (mkE prog qF) (hnd (mkE prog qF) 2) f47 (Qi.vals 0 ((()):Unit)) (Qi.blks 0 ((()):Unit)) 8 = .need (true) (.leaf (.agg QK4) (QMi)):=by kernel_rfl
theorem Qam:Jw (mkE prog qF) (Qp f47) 8 QCF (λx_=>(hnd (mkE prog qF) 2)):=by
 refine⟨?_⟩;rintro⟨⟩ hp G h1 h2;exact Q1 (QQ QHf) 2 G _ h1
theorem Qa5:Jx (mkE prog qF) f47 8 QCF (λx_=>(hnd (mkE prog qF) 2)):=by
 refine⟨?_⟩;rintro⟨⟩ hp;refine⟨⟨rfl,by decide,rfl⟩,⟨?_⟩⟩
 rw[QZ6];simp only[QCF]at hp;exact QH rfl ⟨rfl,rfl,_,Qfm,by repeat' first|exact trivial|rfl|refine aI ?_ ?_⟩
theorem QbL:QR prog 47 QNR:=
 VL (QQ QHf) func47 (by kernel_rfl) (by kernel_rfl) (by decide) Qam Qa5
def QP0:Tab:=Qc qF 47 QNR
theorem Qef:Qe QP0:=QHf.add QbL
end Go.Proofs.YtekbmehgcofnkaaGreat
namespace Go.SX
open Go Go.RowKit Go.Proofs.YtekbmehgcofnkaaGreat
def QJB(rw_:Bool)(E:Env)(H:Hnd)(fn:Func):FC:=λargs nid _=>H5 rw_ E H fn args nid (XO (AV.idsFromL 0 args) [])
variable {f:FuncId}
theorem Qbh{E:Env}(hE:E.Sound){H:Hnd}{rw_:Bool}{fn:Func}{c:Code}(hf:E.P.funcs[f]? = some fn)(hb:fn.body=some c)(hgo:Jk E.P f=true)(hl:∀ G,G.rd=none->Qu E G H c):QR E.P f (QJB rw_ E H fn):=by
 have h:=QI8 (rw_:=rw_) hE hf hb hgo hl;exact⟨h.1,λargs nid all r w lk blks eff hH ha hv he hp=>h.2 args nid (XO (AV.idsFromL 0 args) []) r w lk blks eff hH ha hv he hp⟩
def QGd(fc:FC):FC:=λargs nid _=>((fc args nid (XO (AV.idsFromL 0 args) [])).1,λblks=>match (fc args nid (XO (AV.idsFromL 0 args) [])).2 blks with
 | some e=>some ⟨true,e.pre,e.val.setK true,e.upd⟩
 | none=>none)
theorem QbF{P:Program}{fc:FC}(h:QR P f fc):QR P f (QGd fc):=by
 refine⟨h.1,λargs nid all r w lk blks eff hH ha hv he hp=>?_⟩;simp only[QGd]at hv he;split at he<;>(try (cases he;done))
 rename_i e h0;simp only[qsI]at he;subst he;refine(h.2 args nid (XO (AV.idsFromL 0 args) []) r w lk blks e hH ha hv h0 hp).mono ?_;rintro e' w' ⟨r',rfl,hpost⟩;exact⟨r',by simp only;rw[jR],hpost⟩
end Go.SX
namespace Go.Proofs.YtekbmehgcofnkaaGreat
open Go.SX
abbrev mkG(P:Program)(C:Tab):Env:=⟨P,C,HE P,false,λ_=>false,false,true,false⟩
theorem QG2{C:Tab}(hC:Qe C):(mkG prog C).Sound:={ c:=hC,m:=QC9 prog,mixed:=QD1 }
def QM7:List (Nat×Nat)->Nat->Nat
 | [],_=>0
 | (g,k)::l,f=>match Nat.beq g f with
  | true=>k
  | false=>QM7 l f
def ZI(P:Program)(B:Tab)(l:List (Nat×Nat)):Nat->Tab
 | 0=>λ_=>none
 | d+1=>λf=>match B f with
  | some fc=>some (QGd fc)
  | none=>match QM7 l f with
   | 0=>none
   | k=>match P.funcs[f]? with
    | none=>none
    | some fn=>match fn.body.isSome&&Jk P f with
     | false=>none
     | true=>match k with
      | 1=>some (QJB false (mkG P (ZI P B l d)) (hnd (mkG P (ZI P B l d)) 60) fn)
      | 2=>some (H5 false (mkG P (ZI P B l d)) (hnd (mkG P (ZI P B l d)) 60) fn)
      | _=>some (H5 true (mkG P (ZI P B l d)) (hnd (mkG P (ZI P B l d)) 60) fn)
theorem QMm{B:Tab}(hB:Qe B)(l:List (Nat×Nat)):∀ d,Qe (ZI prog B l d)
 | 0=>λf fc h=>by cases h
 | d+1=>λf fc h=>by
  have ih:=QG2 (QMm hB l d);simp only[ZI]at h;split at h
  .rename_i fc0 h0;simp only[qsI]at h;subst h;exact QbF (hB _ _ h0)
  split at h
  .cases h
  .split at h
   .cases h
   .rename_i fn hf;split at h
    .cases h
    .rename_i hb;simp only[qbA,Option.isSome_iff_exists]at hb;obtain⟨⟨c,hc⟩,hgo⟩:=hb;split at h<;>simp only[qsI]at h<;>subst h
     .exact Qbh ih hf hc hgo λG hG=>Q1 ih 60 G _ hG
     .exact QI8 ih hf hc hgo λG hG=>Q1 ih 60 G _ hG
     .exact QI8 ih hf hc hgo λG hG=>Q1 ih 60 G _ hG
def QXy:Unit->Bool×AV:=λ_=>(true,.bool false true)
def QFO:FC:=Kk (Kn QXy)
variable {f:FuncId}
theorem QdP{C:Tab}(hC:Qe C)(d:Nat){fn:Func}(hf:prog.funcs[f]? = some fn)(hb:fn.body=some (Qp fn))(hgo:Jk prog f=true)(h:KX (mkG prog C) (hnd (mkG prog C) d) false fn [] [] 0 = .leaf (.bool true true) []):QR prog f QFO:=by
 refine QPm (QG2 hC) hf hb hgo (λG _ hG=>Q1 (QG2 hC) d G _ hG) ?_;rintro⟨⟩ _;rw[show(Q8.enc ((()):Unit):List AV)=[]from rfl,h];rfl
