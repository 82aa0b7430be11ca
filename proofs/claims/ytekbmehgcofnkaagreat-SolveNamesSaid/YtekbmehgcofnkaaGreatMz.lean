/- - -/
import Derived.Test.YtekbmehgcofnkaaGreatMy
import Derived.Test.YtekbmehgcofnkaaGreatMq
open Go.Proofs.Tryz
open Go.IntKind (i64)
set_option maxRecDepth 100000
namespace Go.Proofs.YtekbmehgcofnkaaGreat
open Go.SX Go.SX.Told
structure Q8 (d:Puz) (x:Lay):Prop where
 p:0<=x.piece/\x.piece<d.ps.n
 t:0<=x.turn/\x.turn<=3
theorem QCN{d:Puz}{x:Lay}(hx:Q8 d x)(s:Nat):0<=onS x s/\onS x s<4:=by
 have:=hx.t;have h1:=Int.tmod_nonneg 4 (show(0:Int)<=(s:Int)+4-x.turn by omega)
 have h2:=Int.tmod_lt_of_pos ((s:Int)+4-x.turn) (show(0:Int)<4 by decide)
 exact⟨h1,h2⟩
noncomputable def GJ(P:Program)(d:Puz)(L:List Lay)(x:Lay)(s:Nat):Env:=mkF P (HW QQ (flU d L.length x.piece (onS x s)))
theorem QOp{d:Puz}{L:List Lay}{x:Lay}(hx:Q8 d x)(s:Nat):(GJ prog d L x s).Sound:=
 K3 (Qf.add (QMX d L.length x.piece (onS x s) hx.p.1 hx.p.2 (QCN hx s).1 (QCN hx s).2))
variable (K:Rw Int)(d:Puz)(E:ECt)(L:List Lay)(x:Lay)
def myR(s:Nat)(e:Ex)(J:JSt):Prop:=(e = .ret/\(QU (Ku d L.length x) (4-s) s).isNone=false/\J=Gv E)∨(e = .exit 0/\(QU (Ku d L.length x) (4-s) s).isNone=true/\J=QIb d E L x)
set_option maxHeartbeats 4000000 in
theorem Qfc(hx:Q8 d x):JW (myJ d E L x) (λs=>s<=4) (λs=>4-s) (myR d E L x) 216 QL0 [201] (GJ prog d L x) (λs=>hnd (GJ prog d L x s) 1) (QI f105 0):=by
 refine⟨λs g0 hk=>?_⟩;unfold GJ;refine Qg (QUH QQ d E L x s g0) ?_;have hk:s<=4:=hk;refine QF (λb0=>?_) (λb0=>?_);have h:s<4:=by have:=qdt b0;omega
 have hf:=VP (p:=Ku d L.length x) h;have ht:=hx.t;refine QG ?_ ?_;rotate_left;refine QF (λb1=>?_) (λb1=>?_);obtain rfl:s=0:=by have:=qdt b1;omega
 refine QF ?_ ?_<;>intro b2
 iterate 2 (refine QG ?_ ?_;rotate_left)
 refine QF ?_ ?_<;>intro b3
 .have hb:Ku d L.length x 0=true:=by show(QV d L.length 0 && !Kc d x.piece (onS x _))=true;rw[b2];exact b3
  exact⟨_,.inl ⟨rfl,by rw[hf.1 hb];rfl,rfl⟩,rfl,rfl,_,QVA E,⟨rfl,rfl,rfl,trivial⟩⟩
 have hb:Ku d L.length x 0=false:=by show(QV d L.length 0 && !Kc d x.piece (onS x _))=false;rw[b2];exact b3
 refine⟨1,by show 1<=4;omega,by show 4-1<4-0;omega,λe J h=>by unfold myR at h ⊢;rw[hf.2 hb];exact h,rfl,rfl,_,QXs d E L x 1,?_⟩
 rotate_left
 have hb:Ku d L.length x 0=false:=by show(QV d L.length 0 && !Kc d x.piece (onS x _))=false;rw[b2];rfl
 refine⟨1,by show 1<=4;omega,by show 4-1<4-0;omega,λe J h=>by unfold myR at h ⊢;rw[hf.2 hb];exact h,rfl,rfl,_,QYN d E L x 1,?_⟩
 rotate_left
 refine QF (λb4=>?_) (λb4=>?_);obtain rfl:s=1:=by have:=qdt b4;omega
 refine QF ?_ ?_<;>intro b5
 iterate 2 (refine QG ?_ ?_;rotate_left)
 refine QF ?_ ?_<;>intro b6
 .have hb:Ku d L.length x 1=true:=by show(QV d L.length 1 && !Kc d x.piece (onS x _))=true;rw[b5];exact b6
  exact⟨_,.inl ⟨rfl,by rw[hf.1 hb];rfl,rfl⟩,rfl,rfl,_,QZl E,⟨rfl,rfl,rfl,trivial⟩⟩
 have hb:Ku d L.length x 1=false:=by show(QV d L.length 1 && !Kc d x.piece (onS x _))=false;rw[b5];exact b6
 refine⟨2,by show 2<=4;omega,by show 4-2<4-1;omega,λe J h=>by unfold myR at h ⊢;rw[hf.2 hb];exact h,rfl,rfl,_,Qhz d E L x 2,?_⟩
 rotate_left
 have hb:Ku d L.length x 1=false:=by show(QV d L.length 1 && !Kc d x.piece (onS x _))=false;rw[b5];rfl
 refine⟨2,by show 2<=4;omega,by show 4-2<4-1;omega,λe J h=>by unfold myR at h ⊢;rw[hf.2 hb];exact h,rfl,rfl,_,QYd d E L x 2,?_⟩
 rotate_left
 refine QF (λb7=>?_) (λb7=>?_);obtain rfl:s=2:=by have:=qdt b7;omega
 refine QF ?_ ?_<;>intro b8
 iterate 2 (refine QG ?_ ?_;rotate_left)
 refine QF ?_ ?_<;>intro b9
 .have hb:Ku d L.length x 2=true:=by show(QV d L.length 2 && !Kc d x.piece (onS x _))=true;rw[b8];exact b9
  exact⟨_,.inl ⟨rfl,by rw[hf.1 hb];rfl,rfl⟩,rfl,rfl,_,QWF E,⟨rfl,rfl,rfl,trivial⟩⟩
 have hb:Ku d L.length x 2=false:=by show(QV d L.length 2 && !Kc d x.piece (onS x _))=false;rw[b8];exact b9
 refine⟨3,by show 3<=4;omega,by show 4-3<4-2;omega,λe J h=>by unfold myR at h ⊢;rw[hf.2 hb];exact h,rfl,rfl,_,QgF d E L x 3,?_⟩
 rotate_left
 have hb:Ku d L.length x 2=false:=by show(QV d L.length 2 && !Kc d x.piece (onS x _))=false;rw[b8];rfl
 refine⟨3,by show 3<=4;omega,by show 4-3<4-2;omega,λe J h=>by unfold myR at h ⊢;rw[hf.2 hb];exact h,rfl,rfl,_,Qgb d E L x 3,?_⟩
 rotate_left
 obtain rfl:s=3:=by
  have h1:=qdf b1;have h2:=qdf b4;have h3:=qdf b7;omega
 refine QF ?_ ?_<;>intro b10
 iterate 2 (refine QG ?_ ?_;rotate_left)
 refine QF ?_ ?_<;>intro b11
 .have hb:Ku d L.length x 3=true:=by show(QV d L.length 3 && !Kc d x.piece (onS x _))=true;rw[b10];exact b11
  exact⟨_,.inl ⟨rfl,by rw[hf.1 hb];rfl,rfl⟩,rfl,rfl,_,Qd1 E,⟨rfl,rfl,rfl,trivial⟩⟩
 have hb:Ku d L.length x 3=false:=by show(QV d L.length 3 && !Kc d x.piece (onS x _))=false;rw[b10];exact b11
 refine⟨4,by show 4<=4;omega,by show 4-4<4-3;omega,λe J h=>by unfold myR at h ⊢;rw[hf.2 hb];exact h,rfl,rfl,_,QeR d E L x 4,?_⟩
 rotate_left
 have hb:Ku d L.length x 3=false:=by show(QV d L.length 3 && !Kc d x.piece (onS x _))=false;rw[b10];rfl
 refine⟨4,by show 4<=4;omega,by show 4-4<4-3;omega,λe J h=>by unfold myR at h ⊢;rw[hf.2 hb];exact h,rfl,rfl,_,Qak d E L x 4,?_⟩
 rotate_left
 obtain rfl:s=4:=by have:=qdf b0;omega
 refine⟨_,.inr ⟨rfl,rfl,rfl⟩,rfl,rfl,_,QU7 d E L x,?_⟩
 rotate_left
 all_goals first|((with_reducible show _=true);(first|(refine KA.2 ?_;repeat' first|exact tv|exact qRr|refine aI ?_ ?_)|(simp;omega)))|(repeat' first|with_reducible refine QP ?_ ?_|exact tv|exact qRr|exact rfl|refine aI ?_ ?_)
def WV(c:Nat)(x:Lay):Bool:=(QU (Ku d c x) 4 0).isNone
def myX:List (Prop×Ex×JSt):=[(WV d L.length x=false,.ret,Gv E),(WV d L.length x=true,.exit 0,QIb d E L x)]
abbrev myH(P:Program)(d:Puz)(E:ECt)(L:List Lay)(x:Lay):Hnd:={ hnd (mkF P QT) 1 with loop:=λ_=>KH 216 [201] (myJ d E L x (0:Nat)) (myX d E L x) }
theorem Qgk(hx:Q8 d x)(G:Ctx)(hrd:G.rd=none)(hG:G.n<=216):Qx (mkF prog QT) G (myH prog d E L x) (Ql f105):=by
 refine KO (body:=QI f105 0) (K3 Qf) hrd (by kernel_rfl) ?_
 refine Jq (E0:=mkF prog QT) (E:=GJ prog d L x) (H:=λs=>hnd (GJ prog d L x s) 1) (n0:=216) (s0:=0) (λ_=>rfl) (QOp hx) hG (λs _=>Qw (QOp hx s) 1 G _ hrd) (λs _=>(by decide:216<=224)) ?_ (Qfc d E L x hx) (Nat.zero_le _) ?_
 .rintro s e J (⟨_,_,rfl⟩|⟨_,_,rfl⟩)<;>exact(by decide:216<=224)
 .rintro e J (⟨rfl,h,rfl⟩|⟨rfl,h,rfl⟩)
  .exact⟨_,qmc,h,rfl,rfl⟩
  .exact⟨_,List.mem_cons_of_mem _ qmc,h,rfl,rfl⟩
def myU(v:Bool):UC:=⟨208,⟨2,[(0,.ptr 200 0 0),(1,Enc.enc x)],QGw d E L,216⟩,λ_=>.bool false v,λ_=>[(201,.mp E.1 E.2)]⟩
noncomputable abbrev waO(L:List Lay)(d:Puz):List Prop:=[(L.length:Int)=(L.length:Int),i64.wrap ((L.length:Int).tdiv d.wide)=Qo d L.length,(L.length:Int).tmod d.wide=Q2 d L.length,(i64.wrap ((L.length:Int).tdiv d.wide)==0)=QV d L.length 0,((L.length:Int).tmod d.wide==i64.wrap (d.wide-1))=QV d L.length 1,(i64.wrap ((L.length:Int).tdiv d.wide)==i64.wrap (d.high-1))=QV d L.length 2,((L.length:Int).tmod d.wide==0)=QV d L.length 3]
theorem QXV(v:Bool):VQ (mkF prog QT) (myH prog d E L x) f105 (myU d E L x v) = .need (!decide (d.wide=0)) (.need (!decide (d.wide=0)) (.ak [0=0,0=0,0=0,0=0,(L.length:Int)=(L.length:Int),i64.wrap ((L.length:Int).tdiv d.wide)=Qo d L.length,(L.length:Int).tmod d.wide=Q2 d L.length,(i64.wrap ((L.length:Int).tdiv d.wide)==0)=QV d L.length 0,((L.length:Int).tmod d.wide==i64.wrap (d.wide-1))=QV d L.length 1,(i64.wrap ((L.length:Int).tdiv d.wide)==i64.wrap (d.high-1))=QV d L.length 2,((L.length:Int).tmod d.wide==0)=QV d L.length 3,(0:Int)=0,x.piece=x.piece,x.turn=x.turn,d.pK.length=d.pK.length,d.pK.aK=d.pK.aK,d.pK.oK=d.pK.oK,d.pK.dK.lo=d.pK.dK.lo,d.pK.dK.hi=d.pK.dK.hi,d.wide=d.wide,d.high=d.high,d.turn=d.turn,0=0,d.ps.n=d.ps.n,cO=cO,0=0,L.length=L.length,cO=cO,L.length<=L.length,QB 2 L.length (λi=>QA.enc (L.getD i (Lay.mk (0:Int) (0:Int)))) λi=>QA.enc (L.getD i (Lay.mk (0:Int) (0:Int))),E.1=E.1,E.2=E.2,d.ps.n<=d.ps.n,QB 28 d.ps.n (λi=>QA.enc (d.ps.get i)) λi=>QA.enc (d.ps.get i)] (.both (.asm (WV d L.length x=false) (.all (λ(g0:Nat->Value)=>.leaf (.bool false false) ([(201, .mp E.1 E.2)])))) (.asm (WV d L.length x=true) (.all (λ(g1:Nat->Value)=>.br (decide (Qo d L.length>0)) (.need (decide ((0:Int)<=i64.wrap ((L.length:Int)-d.wide)/\i64.wrap ((L.length:Int)-d.wide)<(L.length:Int))&&decide (L.length<=L.length)) (.need (decide ((i64.wrap ((L.length:Int)-d.wide)).toNat<L.length)) (.need (true&&(true&&true)&&decide (((0:Int)<=(L.getD (i64.wrap ((L.length:Int)-d.wide)).toNat (Lay.mk (0:Int) (0:Int))).turn/\(L.getD (i64.wrap ((L.length:Int)-d.wide)).toNat (Lay.mk (0:Int) (0:Int))).turn<=3)/\(0:Int)<=2/\(2:Int)<=3)) (.need (true&&(true&&true)&&decide (((0:Int)<=x.turn/\x.turn<=3)/\(0:Int)<=0/\(0:Int)<=3)) (.need (wf4 i64 E.1) (.br (KP E.1 [(L.getD (i64.wrap ((L.length:Int)-d.wide)).toNat (Lay.mk (0:Int) (0:Int))).piece,onS (L.getD (i64.wrap ((L.length:Int)-d.wide)).toNat (Lay.mk (0:Int) (0:Int))) (2:Int),x.piece,onS x (0:Int)]==0) (.leaf (.bool true false) ([(201,.mp E.1 E.2)])) (.br (Q2 d L.length==0) (.leaf (.bool true true) ([(201,.mp E.1 E.2)])) (.need (decide ((0:Int)<=i64.wrap ((L.length:Int)-1)/\i64.wrap ((L.length:Int)-1)<(L.length:Int))&&decide (L.length<=L.length)) (.need (decide ((i64.wrap ((L.length:Int)-1)).toNat<L.length)) (.need (true&&(true&&true)&&decide (((0:Int)<=(L.getD (i64.wrap ((L.length:Int)-1)).toNat (Lay.mk (0:Int) (0:Int))).turn/\(L.getD (i64.wrap ((L.length:Int)-1)).toNat (Lay.mk (0:Int) (0:Int))).turn<=3)/\(0:Int)<=1/\(1:Int)<=3)) (.need (true&&(true&&true)&&decide (((0:Int)<=x.turn/\x.turn<=3)/\(0:Int)<=3/\(3:Int)<=3)) (.need (wf4 i64 E.1) (.leaf (.bool false (KP E.1 [(L.getD (i64.wrap ((L.length:Int)-1)).toNat (Lay.mk (0:Int) (0:Int))).piece,onS (L.getD (i64.wrap ((L.length:Int)-1)).toNat (Lay.mk (0:Int) (0:Int))) (1:Int),x.piece,onS x (3:Int)] != 0)) ([(201,.mp E.1 E.2)])))))))))))))) (.br (Q2 d L.length==0) (.leaf (.bool true true) ([(201,.mp E.1 E.2)])) (.need (decide ((0:Int)<=i64.wrap ((L.length:Int)-1)/\i64.wrap ((L.length:Int)-1)<(L.length:Int))&&decide (L.length<=L.length)) (.need (decide ((i64.wrap ((L.length:Int)-1)).toNat<L.length)) (.need (true&&(true&&true)&&decide (((0:Int)<=(L.getD (i64.wrap ((L.length:Int)-1)).toNat (Lay.mk (0:Int) (0:Int))).turn/\(L.getD (i64.wrap ((L.length:Int)-1)).toNat (Lay.mk (0:Int) (0:Int))).turn<=3)/\(0:Int)<=1/\(1:Int)<=3)) (.need (true&&(true&&true)&&decide (((0:Int)<=x.turn/\x.turn<=3)/\(0:Int)<=3/\(3:Int)<=3)) (.need (wf4 i64 E.1) (.leaf (.bool false (KP E.1 [(L.getD (i64.wrap ((L.length:Int)-1)).toNat (Lay.mk (0:Int) (0:Int))).piece,onS (L.getD (i64.wrap ((L.length:Int)-1)).toNat (Lay.mk (0:Int) (0:Int))) (1:Int),x.piece,onS x (3:Int)] != 0)) ([(201,.mp E.1 E.2)])))))))))))))):=by kernel_rfl
structure KB (d:Puz):Prop where
 n:d.ps.n<=1000
 w1:1<=d.wide
 wn:d.wide<=d.ps.n
 h1:1<=d.high
 hn:d.high<=d.ps.n
 wh:d.wide*d.high=d.ps.n
def atL(i:Int):Lay:=L.getD i.toNat ⟨0,0⟩
def Yd(p q:Lay)(s t:Int):Int:=KP E.1 [p.piece,onS p s,q.piece,onS q t]
def Qy:Bool:=WV d L.length x&&((!decide (0<Qo d L.length) || !(Yd E (atL L ((L.length:Int)-d.wide)) x 2 0==0))&&(Q2 d L.length==0||Yd E (atL L ((L.length:Int)-1)) x 1 3 != 0))
theorem QPh{d:Puz}(h:KB d)(c:Nat):0<=Qo d c/\Qo d c<=c:=by
 have:=h.w1;refine⟨Int.tdiv_nonneg (by omega) (by omega),?_⟩
 rw[Qo,Int.tdiv_eq_ediv_of_nonneg (by omega)]
 exact Int.ediv_le_self _ (by omega)
theorem QOU{d:Puz}(h:KB d){c:Nat}(hr:0<Qo d c):d.wide<=c:=by
 have:=h.w1;rw[Qo,Int.tdiv_eq_ediv_of_nonneg (by omega)]at hr
 have:=(Int.le_ediv_iff_mul_le (a:=1) (b:=(c:Int)) (c:=d.wide) (by omega)).1 (by omega)
 omega
theorem QDJ{d:Puz}{c:Nat}(hr:(Q2 d c==0)=false):1<=c:=by
 cases c with
 | zero=>simp[Q2]at hr
 | succ c=>omega
theorem Hc{d:Puz}{L:List Lay}(hL:∀ y∈L,Q8 d y){i:Int}(h1:0<=i)(h2:i<L.length):Q8 d (atL L i):=by
 have h:i.toNat<L.length:=by omega
 exact hL _ (by rw[atL,JL h];exact List.getElem_mem h)
theorem QgS(v b:Bool)(k:Bool)(h:v=b):(QC.leaf (.bool k v) [(201,.mp E.1 E.2)]).den (jK (myU d E L x b)):=⟨rfl,rfl,_,by cases k<;>rfl,by subst h;exact⟨rfl,rfl,rfl,trivial⟩⟩
theorem QXy(v:Bool):(myU d E L x v).Ok:=by
 refine⟨(by decide:208<=216),rfl,rfl,?_,rfl,λ_ _=>rfl,λnid h=>rfl⟩
 intro q hq;simp only[UC.po,myU,List.mem_cons,List.not_mem_nil,or_false]at hq;subst hq;exact⟨rfl,rfl,rfl,λ_=>rfl⟩
theorem QDD(L:List Lay)(x:Lay)(hd:KB d)(hE:WfE E)(hl:L.length<=1000)(hL:∀ y∈L,Q8 d y)(hx:Q8 d x):QS prog 105 (uFC (myU d E L x (Qy d E L x))):=by
 refine Ky (E:=mkF prog QT) (K3 Qf) func105 (by kernel_rfl) (by kernel_rfl) (QXy ..) (λG h1 h2=>Qgk d E L x hx G h1 (by rw[h2];exact qlr _)) ⟨?_⟩
 have fin:∀(v k:Bool),v=Qy d E L x->(QC.leaf (.bool k v) [(201,.mp E.1 E.2)]).den (jK (myU d E L x (Qy d E L x))):=λv k h=>QgS d E L x v _ k h;have hw1:=hd.w1;have hwn:=hd.wn;have hh1:=hd.h1;have hhn:=hd.hn;have hn:=hd.n;have hr:=QPh hd L.length;have ht:=hx.t;have hE:wf4 .i64 E.1=true:=hE;have wr:i64.wrap ((L.length:Int).tdiv d.wide)=Qo d L.length:=w64 (by have:=hr.1;unfold Qo at this;omega) (by have:=hr.2;unfold Qo at this;omega)
 have ww:i64.wrap (d.wide-1)=d.wide-1:=w64 (by omega) (by omega)
 have wh:i64.wrap (d.high-1)=d.high-1:=w64 (by omega) (by omega)
 have wu:i64.wrap ((L.length:Int)-d.wide)=(L.length:Int)-d.wide:=w64 (by omega) (by omega)
 have wl:i64.wrap ((L.length:Int)-1)=(L.length:Int)-1:=w64 (by omega) (by omega)
 generalize hv:Qy d E L x=v at fin;refine Qg (QXV d E L x v) ?_;rw[wr,ww,wh,wu,wl]
 iterate 2 (refine QG ?_ ?_;rotate_left)
 iterate 34 refine Qq (by first|exact tv|exact Nat.le_refl _|exact qRr|exact rfl) ?_
 refine Kf ?_ ?_;refine Qh λa0=>?_;refine Qj λg0=>?_
 .refine fin _ _ ?_;rw[<-hv,Qy,a0];rfl
 refine Qh λa1=>?_;refine Qj λg1=>?_;refine QF (λb0=>?_) (λb0=>?_);have hcw:=QOU hd (qdt b0);have hU:=(Hc hL (i:=(L.length:Int)-d.wide) (by omega) (by omega)).t
 iterate 5 (refine QG ?_ ?_;rotate_left)
 refine QF ?_ ?_<;>intro b1
 .refine fin _ _ ?_;rw[<-hv,Qy,a1,show decide (0<Qo d L.length)=true from b0,show(Yd E (atL L ((L.length:Int)-d.wide)) x 2 0==0)=true from b1];rfl
 refine QF ?_ ?_<;>intro b2
 .refine fin _ _ ?_;rw[<-hv,Qy,a1,show decide (0<Qo d L.length)=true from b0,show(Yd E (atL L ((L.length:Int)-d.wide)) x 2 0==0)=false from b1,b2];rfl
 have hc1:=QDJ b2;have hV:=(Hc hL (i:=(L.length:Int)-1) (by omega) (by omega)).t
 iterate 5 (refine QG ?_ ?_;rotate_left)
 .refine fin _ _ ?_;rw[<-hv,Qy,a1,show decide (0<Qo d L.length)=true from b0,show(Yd E (atL L ((L.length:Int)-d.wide)) x 2 0==0)=false from b1,b2];rfl
 refine QF ?_ ?_<;>intro b3
 .refine fin _ _ ?_;rw[<-hv,Qy,a1,show decide (0<Qo d L.length)=false from b0,b3];rfl
 have hc1:=QDJ b3;have hV:=(Hc hL (i:=(L.length:Int)-1) (by omega) (by omega)).t
 iterate 5 (refine QG ?_ ?_;rotate_left)
 .refine fin _ _ ?_;rw[<-hv,Qy,a1,show decide (0<Qo d L.length)=false from b0,b3];rfl
 all_goals first|exact hE|rfl|exact qde (show(0<=(atL L _).turn/\_)/\_ from⟨hU,by decide,by decide⟩)|exact qde (show(0<=(atL L _).turn/\_)/\_ from⟨hV,by decide,by decide⟩)|exact qde ⟨ht,by decide,by decide⟩|(simp;omega)
structure Jn where
 a:Int
 i:Int
 b:Int
 j:Int
instance : QA Jn where
  ks := [.int .i64,.int .i64,.int .i64,.int .i64]
  enc p j := match j with
    | 0 => p.a
    | 1 => p.i
    | 2 => p.b
    | _ => p.j
  dec f := ⟨f 0,f 1,f 2,f 3⟩
  ok _ := rfl
instance : Enc Jn where
  enc x := .agg [.int false .i64 x.a,.int false .i64 x.i,.int false .i64 x.b,.int false .i64 x.j]
  dec | .agg [.int _ .i64 a0,.int _ .i64 a1,.int _ .i64 a2,.int _ .i64 a3] => some ⟨a0,a1,a2,a3⟩ | _ => none
  ok v x h := by
    split at h <;> (try (cases h; done))
    simp only[qsI]at h; subst h; exact⟨λ_=>rfl,rfl⟩
def JS(x y:Int):Int:=cond (decide (x<y)) (-1) (cond (decide (y<x)) 1 0)
def orI(x y:Int):Int:=cond (x != 0) x y
def Vp(x y:Jn):Int:=orI (JS x.a y.a) (orI (JS x.i y.i) (orI (JS x.b y.b) (JS x.j y.j)))
def QAj:WF (Int×Int×Unit):=λ|(x,(y,_))=>(true,.int false .i64 (JS x y),[])
def QLR:FC:=wFC QAj
theorem QWb(x:Int)(y:Int):Kn (mkE prog QT) (hnd (mkE prog QT) 3) f108 (Qe.vals 0 ((x,y,()):Int×Int×Unit)) (Qe.blks 0 ((x,y,()):Int×Int×Unit)) 8=QC.br (x != x) (QC.br (y != y) (QC.leaf (vj (0:Int)) ([])) (QC.leaf (vj (-1:Int)) ([]))) (QC.br (y != y) (QC.leaf (vj (1:Int)) ([])) (QC.br (decide (x<y)) (QC.leaf (vj (-1:Int)) ([])) (QC.br (decide (x>y)) (QC.leaf (vj (1:Int)) ([])) (QC.leaf (vj (0:Int)) ([]))))):=by kernel_rfl
theorem QYC:JQ (mkE prog QT) (Ql f108) 8 QAj (λx_=>(hnd (mkE prog QT) 3)):=by
 refine⟨?_⟩;rintro⟨x,⟨y,⟨⟩⟩⟩ hp G h1 h2;exact Qw (QO Qf) 3 G _ h1
theorem QeZ:JR (mkE prog QT) f108 8 QAj (λx_=>(hnd (mkE prog QT) 3)):=by
 refine⟨?_⟩;rintro⟨x,⟨y,⟨⟩⟩⟩ hp;refine⟨⟨rfl,by simp[QAj],rfl⟩,⟨?_⟩⟩
 rw[QWb x y];simp only[QAj]at hp;refine QF ?_ ?_<;>intro b0
 .simp at b0
 refine QF ?_ ?_<;>intro b2
 .simp at b2
 refine QF ?_ ?_<;>intro b3
 .refine Kd ⟨rfl,?_⟩ rfl;rw[JS,b3];rfl
 refine QF ?_ ?_<;>intro b4
 .refine Kd ⟨rfl,?_⟩ rfl;rw[JS,b3,show decide (y<x)=true from b4];rfl
 .refine Kd ⟨rfl,?_⟩ rfl;rw[JS,b3,show decide (y<x)=false from b4];rfl
theorem Qee:QS prog 108 QLR:=
 JX (QO Qf) func108 (by kernel_rfl) (by kernel_rfl) (by decide) QYC QeZ
def VR:Tab:=Qa QT 108 QLR
theorem jF:Qd VR:=Qf.add Qee
def nzI(k:Nat):Bool:=K.get k != 0
def orV:Int:=(QU (nzI K) K.n 0).elim 0 K.get
def orJ(k:Nat):JSt:=⟨18,[(3,.int false .i64 0),(6,.slz 0 0 K.n (.of 0)),(7,.int false .i64 K.n),(8,.int false .i64 k)],Qm.blk 0 K,8⟩
def QEL(v:Int):JSt:=⟨18,[(2,.int false .i64 v)],[],8⟩
def QIV:JSt:=⟨18,[(3,.int false .i64 0)],[],8⟩
def QQI:Ex->List Nat
 | .normal=>[3,6,7,8]
 | .exit _=>[3]
 | .ret=>[2]
theorem QdV(k:Nat)(g:Nat->Value):exec (mkE prog VR) (hnd (mkE prog VR) 1) (QI f154 0) (JSt.inst (orJ K k) g) (Q6 [] QQI)=QC.br (decide ((↑k:Int)<(↑K.n:Int))) (QC.need (decide ((0:Int)<=(↑k:Int)/\(↑k:Int)<(↑K.n:Int))&&decide (K.n<=K.n)) (QC.need (decide (k<K.n)) (QC.br (K.get k != (0:Int)) (QC.leaf (AV.tup [AV.nili,AV.ptr (18:Nat) (0:Nat) (0:Nat),vi (K.get k)]) ([])) (QC.leaf (AV.tup [AV.nilp,AV.ptr (18:Nat) (0:Nat) (0:Nat),vi (0:Int),AV.slz (0:Nat) (0:Nat) K.n cO,vi (↑K.n:Int),vi (i64.wrap ((↑k:Int)+(1:Int)))]) ([((0:Nat),Blk.frz [CK.int i64] K.n λi=>QA.enc (K.get i))]))))) (QC.leaf (AV.tup [AV.ptr (0:Nat) (0:Nat) (0:Nat),AV.ptr (18:Nat) (0:Nat) (0:Nat),vi (0:Int)]) ([])):=by kernel_rfl
theorem QaN(k:Nat)(v:Int):QE 8 [vi (K.get k)] ([]) (QEL v)=( some [K.get k=v]):=by kernel_rfl
theorem Qct(k k':Nat):QE 8 [vi (0:Int),AV.slz (0:Nat) (0:Nat) K.n cO,vi (↑K.n:Int),vi (i64.wrap ((↑k:Int)+(1:Int)))] ([((0:Nat),Blk.frz [CK.int i64] K.n λi=>QA.enc (K.get i))]) (orJ K k')=( some [(0:Int)=(0:Int),0=0,K.n=K.n,cO=cO,(↑K.n:Int)=(↑K.n:Int),i64.wrap ((↑k:Int)+(1:Int))=(↑k':Int),K.n<=K.n,QB (1:Nat) K.n (λi=>QA.enc (K.get i)) λi=>QA.enc (K.get i)]):=by kernel_rfl
theorem Qh6 :QE 8 [vi (0:Int)] ([]) QIV=( some [(0:Int)=(0:Int)]):=by kernel_rfl
def orR(k:Nat)(e:Ex)(J:JSt):Prop:=(e = .ret/\∃ i,QU (nzI K) (K.n-k) k=some i/\J=QEL (K.get i))∨(e = .exit 0/\QU (nzI K) (K.n-k) k=none/\J=QIV)
theorem Qf2(hn:K.n<=1000):J3 (orJ K) (λk=>k<=K.n) (λk=>K.n-k) (orR K) 8 QQI [] (mkE prog VR) (λ_=>hnd (mkE prog VR) 1) (QI f154 0):=by
 refine⟨λk g0 hk=>Qg (QdV K k g0) ?_⟩;have hk:k<=K.n:=hk;refine QF (λb0=>?_) (λb0=>?_);have h:k<K.n:=by have:=qdt b0;omega
 have hf:=VP (p:=nzI K) h
 iterate 2 (refine QG ?_ ?_;rotate_left)
 refine QF ?_ ?_<;>intro b1
 .exact⟨_,.inl ⟨rfl,k,hf.1 b1,rfl⟩,rfl,rfl,_,QaN K k (K.get k),⟨rfl,trivial⟩⟩
 refine⟨k+1,h,by show K.n-(k+1)<K.n-k;omega,λe J h=>by unfold orR at h ⊢;rw[hf.2 b1];exact h,rfl,rfl,_,Qct K k (k+1),?_⟩
 rotate_left
 .have h:K.n<=k:=by have:=qdf b0;omega
  exact⟨_,.inr ⟨rfl,by rw[show K.n-k=0 by omega];rfl,rfl⟩,rfl,rfl,_,Qh6,⟨rfl,trivial⟩⟩
 all_goals first|((with_reducible show _=true);(simp at b0 ⊢;omega))|(repeat' first|with_reducible refine QP ?_ ?_|exact tv|exact qRr|exact VT h hn|refine aI ?_ ?_)
def orX:List (Prop×Ex×JSt):=[((QU (nzI K) K.n 0).isSome=true,.ret,QEL (orV K)),(QU (nzI K) K.n 0=none,.exit 0,QIV)]
abbrev orH(P:Program)(K:Rw Int):Hnd:={ hnd (mkE P VR) 1 with loop:=λ_=>JP (K.n<=1000) (KH 8 [] (orJ K (0:Nat)) (orX K)) }
theorem QWP(G:Ctx)(hrd:G.rd=none)(hG:G.n=8):Qx (mkE prog VR) G (orH prog K) (Ql f154):=by
 refine KO (body:=QI f154 0) (QO jF) hrd (by kernel_rfl) ?_
 refine Jj λhl=>?_;refine Vq (n0:=8) (QO jF) (by omega) (λs hs=>Qw (QO jF) 1 G _ hrd) (λs hs=>(by decide:8<=8)) ?_ (Qf2 K hl) (s0:=0) (Nat.zero_le _) ?_
 .rintro s e J (⟨_,_,_,rfl⟩|⟨_,_,rfl⟩)<;>exact(by decide:8<=8)
 .rintro e J (⟨rfl,i,h,rfl⟩|⟨rfl,h,rfl⟩)
  .exact⟨_,qmc,congrArg Option.isSome h,rfl,congrArg QEL (show(QU (nzI K) K.n 0).elim 0 K.get=_ by rw[show QU (nzI K) K.n 0=some i from h];rfl)⟩
  .exact⟨_,List.mem_cons_of_mem _ qmc,h,rfl,rfl⟩
def QBb:WF ((Rw Int)×Unit):=λ|(K,_)=>(decide (K.n<=1000),.int false .i64 (orV K),[])
def QLA:FC:=wFC QBb
theorem QfQ(K:(Rw Int)):Kn (mkE prog VR) (orH prog K) f154 (Qe.vals 0 ((K,()):(Rw Int)×Unit)) (Qe.blks 0 ((K,()):(Rw Int)×Unit)) 8=QC.ask (K.n<=(1000:Nat)) (QC.ask ((0:Int)=(0:Int)) (QC.ask (0=0) (QC.ask (K.n=K.n) (QC.ask (cO=cO) (QC.ask ((↑K.n:Int)=(↑K.n:Int)) (QC.ask ((0:Int)=(0:Int)) (QC.ask (K.n<=K.n) (QC.ask (QB (1:Nat) K.n (λi=>QA.enc (K.get i)) λi=>QA.enc (K.get i)) (QC.both (QC.asm ((QU (nzI K) K.n (0:Nat)).isSome=true) (QC.all (λ(g0:Nat->Value)=>QC.leaf (vi (orV K)) ([])))) (QC.asm (QU (nzI K) K.n (0:Nat)=none) (QC.all (λ(g1:Nat->Value)=>QC.leaf (vi (0:Int)) ([]))))))))))))):=by kernel_rfl
theorem Qbp:JQ (mkE prog VR) (Ql f154) 8 QBb (λx_=>(orH prog x_.1)):=by
 refine⟨?_⟩;rintro⟨K,⟨⟩⟩ hp G h1 h2;exact QWP K G h1 h2
theorem QXv:JR (mkE prog VR) f154 8 QBb (λx_=>(orH prog x_.1)):=by
 refine⟨?_⟩;rintro⟨K,⟨⟩⟩ hp;refine⟨⟨rfl,by simp[QBb],rfl⟩,⟨?_⟩⟩
 rw[QfQ K];simp only[QBb]at hp;have hp:=qdt hp
 iterate 9 refine Qq (by first|exact tv|exact hp|exact qRr) ?_
 refine Kf ?_ ?_;refine Qh λa0=>?_;refine Qj λg0=>?_
 .exact Kd ⟨rfl,rfl⟩ rfl
 refine Qh λa1=>?_;refine Qj λg1=>?_
 .refine Kd ⟨rfl,?_⟩ rfl;rw[orV,a1];rfl
theorem Qa2:QS prog 154 QLA:=
 JX (QO jF) func154 (by kernel_rfl) (by kernel_rfl) (by decide) Qbp QXv
def jY:Tab:=Qa VR 154 QLA
theorem QO5:Qd jY:=jF.add Qa2
theorem or4(hn:K.n=4):orV K=orI (K.get 0) (orI (K.get 1) (orI (K.get 2) (K.get 3))):=by
 have e:∀ i,nzI K i=(K.get i != 0):=λ_=>rfl;unfold orV orI;rw[hn];simp only[QU,e];cases h0:K.get 0 != 0 with
 | true=>rfl
 | false=>
  cases h1:K.get 1 != 0 with
  | true=>simp[h1]
  | false=>
   cases h2:K.get 2 != 0 with
   | true=>simp[h1,h2]
   | false=>
    cases h3:K.get 3 != 0 with
    | true=>simp[h1,h2,h3]
    | false=>
     have:K.get 3=0:=by simpa using h3
     simp[h1,h2,h3,this]
def QAz:WF (Jn×Jn×Unit):=λ|(x,(y,_))=>(true,.int false .i64 (Vp x y),[])
def Qcf:FC:=wFC QAz
theorem QgG(x:Jn)(y:Jn):Kn (mkE prog jY) (hnd (mkE prog jY) 1) f131 (Qe.vals 0 ((x,y,()):Jn×Jn×Unit)) (Qe.blks 0 ((x,y,()):Jn×Jn×Unit)) 8=QC.need (true) (QC.need (true) (QC.need (true) (QC.need (true) (QC.need (true&&true&&decide ((4:Nat)<=(1000:Nat))) (QC.leaf (vi (orV (Rw.mk (4:Nat) λi=>KI [[vi (JS x.a y.a)],[vi (JS x.i y.i)],[vi (JS x.b y.b)],[vi (JS x.j y.j)]] (0:Nat) i (0:Nat)))) ([])))))):=by kernel_rfl
theorem QgA:JQ (mkE prog jY) (Ql f131) 8 QAz (λx_=>(hnd (mkE prog jY) 1)):=by
 refine⟨?_⟩;rintro⟨x,⟨y,⟨⟩⟩⟩ hp G h1 h2;exact Qw (QO QO5) 1 G _ h1
theorem QXd:JR (mkE prog jY) f131 8 QAz (λx_=>(hnd (mkE prog jY) 1)):=by
 refine⟨?_⟩;rintro⟨x,⟨y,⟨⟩⟩⟩ hp;refine⟨⟨rfl,by simp[QAz],rfl⟩,⟨?_⟩⟩
 rw[QgG x y];simp only[QAz]at hp
 iterate 5 (refine QG ?_ ?_;rotate_left)
 .refine Kd ⟨rfl,?_⟩ rfl;rw[or4 _ rfl];rfl
 all_goals rfl
theorem QVr:QS prog 131 Qcf:=
 JX (QO QO5) func131 (by kernel_rfl) (by kernel_rfl) (by decide) QgA QXd
def QQM:Int×Int×Unit->Bool×AV:=λ|(lo,(hi,_))=>(true,Enc.enc (⟨lo,hi⟩:Sp))
def QPU:FC:=Kb (Kh QQM)
theorem QVq(lo:Int)(hi:Int):KW (mkE prog KJ) (hnd (mkE prog KJ) 2) false f97 (Q3.enc ((lo,hi,()):Int×Int×Unit)) [] 0=QC.leaf (AV.agg [vi lo,vi hi]) ([]):=by kernel_rfl
theorem Qal:QS prog 97 QPU:=by
 refine K5 JN 2 func97 (by kernel_rfl) (by kernel_rfl) ?_
 rintro⟨lo,hi,⟨⟩⟩ hp;rw[QVq lo hi];simp only[QQM,QC.den,AV.same,AV.sameL,and_true,true_and]at hp ⊢;simp only[Enc.enc,AV.same,AV.sameL,and_self]
def QDo:Tab:=Qa KJ 97 QPU
theorem QUB:Qd QDo:=JN.add Qal
def QMW:Int×Int×Unit->Bool×AV:=λ|(lo,(hi,_))=>(true,Enc.enc (⟨1,⟨1000,1000⟩,⟨lo,hi⟩,⟨400,400⟩⟩:Edge))
def QTe:FC:=Kb (Kh QMW)
theorem QgM(lo:Int)(hi:Int):KW (mkE prog QDo) (hnd (mkE prog QDo) 2) false f95 (Q3.enc ((lo,hi,()):Int×Int×Unit)) [] 0=QC.need (true) (QC.leaf (AV.agg [vj (1:Int),vj (1000:Int),vj (1000:Int),vi lo, vi hi,vj (400:Int),vj (400:Int)]) ([])):=by kernel_rfl
theorem Qh0:QS prog 95 QTe:=by
 refine K5 QUB 2 func95 (by kernel_rfl) (by kernel_rfl) ?_
 rintro⟨lo,hi,⟨⟩⟩ hp;rw[QgM lo hi];simp only[QMW,QC.den,AV.same,AV.sameL,and_true,true_and]at hp ⊢;simp only[Enc.enc,AV.same,AV.sameL,and_self]
def QCm:Tab:=Qa QDo 95 QTe
theorem QPA:Qd QCm:=QUB.add Qh0
def QOG:Unit->Bool×AV:=λ_=>(true,Enc.enc (⟨2,⟨1000,1000⟩,⟨515,515⟩,⟨410,410⟩⟩:Edge))
def QOV:FC:=Kb (Kh QOG)
theorem QbN :KW (mkE prog QCm) (hnd (mkE prog QCm) 2) false f96 (Q3.enc (():Unit)) [] 0=QC.leaf (AV.agg [vj (2:Int),vj (1000:Int),vj (1000:Int),vj (515:Int),vj (515:Int),vj (410:Int),vj (410:Int)]) ([]):=by kernel_rfl
theorem QUu:QS prog 96 QOV:=by
 refine K5 QPA 2 func96 (by kernel_rfl) (by kernel_rfl) ?_
 rintro⟨⟩ hp;rw[QbN];simp only[QOG,QC.den,AV.same,AV.sameL,and_true,true_and]at hp ⊢;simp only[Enc.enc,AV.same,AV.sameL,and_self]
def QCH:Tab:=Qa QCm 96 QOV
theorem QPV:Qd QCH:=QPA.add QUu
def QLe:Edge×Edge×Edge×Edge×Unit->Bool×AV:=λ|(r,(b,(l,(a,_))))=>(true,Enc.enc (⟨a,r,b,l⟩:QX))
def QOn:FC:=Kb (Kh QLe)
theorem Qam(r:Edge)(b:Edge)(l:Edge)(a:Edge):KW (mkE prog QCH) (hnd (mkE prog QCH) 2) false f98 (Q3.enc ((r,b,l,a,()):Edge×Edge×Edge×Edge×Unit)) [] 0=QC.leaf (AV.agg [vi a.kind,vi a.at_.lo,vi a.at_.hi,vi a.wide.lo,vi a.wide.hi,vi a.deep.lo,vi a.deep.hi,vi r.kind,vi r.at_.lo,vi r.at_.hi,vi r.wide.lo,vi r.wide.hi,vi r.deep.lo,vi r.deep.hi,vi b.kind,vi b.at_.lo,vi b.at_.hi,vi b.wide.lo,vi b.wide.hi,vi b.deep.lo,vi b.deep.hi,vi l.kind,vi l.at_.lo,vi l.at_.hi,vi l.wide.lo,vi l.wide.hi,vi l.deep.lo,vi l.deep.hi]) ([]):=by kernel_rfl
theorem Qfs:QS prog 98 QOn:=by
 refine K5 QPV 2 func98 (by kernel_rfl) (by kernel_rfl) ?_
 rintro⟨r,b,l,a,⟨⟩⟩ hp;rw[Qam r b l a];simp only[QLe,QC.den,AV.same,AV.sameL,and_true,true_and]at hp ⊢;simp only[Enc.enc,AV.same,AV.sameL,and_self]
def qh:Tab:=Qa QCH 98 QOn
theorem QGM:Qd qh:=QPV.add Qfs
def eA:Edge:=⟨1,⟨1000,1000⟩,⟨500,500⟩,⟨400,400⟩⟩
def eP:Edge:=⟨1,⟨1000,1000⟩,⟨480,490⟩,⟨400,400⟩⟩
def eH:Edge:=⟨2,⟨1000,1000⟩,⟨515,515⟩,⟨410,410⟩⟩
def Qd9:List QX:=[⟨Jm,eA,Jm,Jm⟩,⟨Jm,eA,Jm,eH⟩,⟨Jm,eP,Jm,eH⟩,⟨Jm,Jm,Jm,eH⟩]
def Qek:List QX:=[⟨Jm,eA,eA,Jm⟩,⟨Jm,Jm,eA,eH⟩,⟨eH,eP,Jm,Jm⟩,⟨eH,Jm,Jm,eH⟩]
def QQA:AV := .agg [.int false .i64 2000,.int false .i64 20,.int false .i64 30,.int false .i64 0,.int false .i64 10,.int false .i64 4,.int false .i64 1,.bool false false,.slice true 0 0 4 (.lit 4)]
def QNH:Nat×Blk:=(0,.rowl 70 28 (Qd9.map λp=>(Enc.enc p).cells))
def QKc:AV := .agg [.int false .i64 2000,.int false .i64 20,.int false .i64 30,.int false .i64 0,.int false .i64 10,.int false .i64 2,.int false .i64 2,.bool false true,.slice true 0 0 4 (.lit 4)]
def QOe:Nat×Blk:=(0,.rowl 70 28 (Qek.map λp=>(Enc.enc p).cells))
noncomputable abbrev QP0:List AV:=
  [vj 2000,vj 20,vj 30,vj 0,vj 10,vj 4,vj 1,.bool true false,.slice true 288 0 4 (Cap.lit
  4)]
noncomputable abbrev wau:List AV:=[vj 0,vj 0,vj 0,vj 0,
  vj 0,vj 0,vj 0,vj 0]
noncomputable abbrev wbA:List AV:=[vj 0,.int
  true .i64 0,vj 0,vj 2,vj 1000,vj 1000,vj 515,vj 515,vj 410,vj 410]
noncomputable abbrev QT7:List (Nat×Blk):=
  [(288,.rowl 70 28 [(vj 0::vj 0::vj 0::vj 0::vj 0::vj 0::vj 0::vj 1::.int true .i64
  1000::vj 1000::vj 500::vj 500::vj 400::vj 400::List.append (wau) ([vj 0,vj 0,vj 0,vj 0,vj 0,vj 0])),
  (vj 0::vj 0::vj 0::vj 0::vj 0::vj 0::vj 0::vj 1::vj 1000::.int true .i64
  1000::vj 500::vj 500::vj 400::vj 400::vj 0::vj 0::vj 0::vj 0::wbA),(.int
  true .i64 0::vj 0::vj 0::vj 0::vj 0::vj 0::vj 0::vj 1::vj 1000::vj 1000::vj 480::vj 490::vj 400::vj 400::vj 0::vj 0::vj 0::vj 0::wbA),(.int true
  .i64 0::List.append (wau) (vj 0::.int true
  .i64 0::List.append (wau) ([vj 0,.int true
  .i64 0,vj 2,vj 1000,vj 1000,vj 515,vj 515,vj 410,vj 410])))])]
abbrev vY:List Prop:=
  [(0:Int)=0,(0:Int)=0,(0:Int)=0,(0:Int)=0]
abbrev QJP:List Prop:=
  [(0:Int)=0,(0:Int)=0,(0:Int)=0,(1:Int)=1]
abbrev QBc:List Prop:=
  [(1000:Int)=1000,(1000:Int)=1000,(500:Int)=500,(500:Int)=500,(400:Int)=400,(400:Int)=400]
abbrev wbg:List Prop:=[(0:Int)=0,(0:Int)=0,(0:Int)=0,(0:Int)=0,(0:Int)=0,(0:Int)=0]
abbrev Wn:List Prop:=
  (wbg++[(0:Int)=0,(0:Int)=0,(0:Int)=0,(0:Int)=0])
abbrev jB:List Prop:=
  [(1000:Int)=1000,(1000:Int)=1000,(515:Int)=515,(515:Int)=515,(410:Int)=410,(410:Int)=410]
abbrev QSl:List Prop:=
  [(1000:Int)=1000,(1000:Int)=1000,(480:Int)=480,(490:Int)=490,(400:Int)=400,(400:Int)=400]
theorem QY1 :QE 8 [(.agg QP0)] (QT7) (KN 8 QQA [QNH])=(some ([(2000:Int)=2000,(20:Int)=20,(30:Int)=30,(0:Int)=0,(10:Int)=10,(4:Int)=4,(1:Int)=1, false=false,0=0,4=4,Cap.lit 4=Cap.lit 4]++vY++QJP++QBc++Wn++Wn++[(0:Int)=0,(1:Int)=1]++QBc++vY++[(0:Int)=0,(0:Int)=0,(0:Int)=0,(2:Int)=2]++jB++vY++QJP++QSl++vY++[(0:Int)=0,(0:Int)=0,(0:Int)=0,(2:Int)=2]++jB++Wn++Wn++[(0:Int)=0,(2:Int)=2]++jB)):=by kernel_rfl
def QFO:WF (Unit):=λ|_=>(true,QQA,[QNH])
def QS5:FC:=wFC QFO
theorem QWk :Kn (mkE prog qh) (hnd (mkE prog qh) 2) f46 (Qe.vals 0 ((()):Unit)) (Qe.blks 0 ((()):Unit)) 8 = .leaf (.agg QP0) (QT7):=by kernel_rfl
theorem QeP:JQ (mkE prog qh) (Ql f46) 8 QFO (λx_=>(hnd (mkE prog qh) 2)):=by
 refine⟨?_⟩;rintro⟨⟩ hp G h1 h2;exact Qw (QO QGM) 2 G _ h1
theorem QdJ:JR (mkE prog qh) f46 8 QFO (λx_=>(hnd (mkE prog qh) 2)):=by
 refine⟨?_⟩;rintro⟨⟩ hp;refine⟨⟨rfl,by decide,rfl⟩,⟨?_⟩⟩
 rw[QWk];simp only[QFO]at hp;exact⟨rfl,rfl,_,QY1,by repeat' first|exact trivial|rfl|refine aI ?_ ?_⟩
theorem QXj:QS prog 46 QS5:=
 JX (QO QGM) func46 (by kernel_rfl) (by kernel_rfl) (by decide) QeP QdJ
def qq:Tab:=Qa qh 46 QS5
theorem QHA:Qd qq:=QGM.add QXj
noncomputable abbrev QLx:List AV:=
  [vi 2000,vi 20,vi 30,vi 0,vi 10,vj 2,vj 2,.bool true true,.slice true 288 0 4
  (Cap.lit 4)]
noncomputable abbrev QQw:List (Nat×Blk):=
  [(288,.rowl 70 28 [[vj 0,vj 0,vj 0,vj 0,vj 0,vj 0,vj 0,vj 1,.int true .i64
  1000,vj 1000,vj 500,vj 500,vj 400,vj 400,vj 1,vj 1000,vj 1000,.int true .i64
  500,vj 500,vj 400,vj 400,vj 0,vj 0,vj 0,vj 0,vj 0,vj 0,.int
  true .i64 0],(List.append (wau) ([vj 0,.int
  true .i64 0,vj 0,vj 0,vj 0,vj 0,vj 1,vj 1000,vj 1000,vj 500,.int true .i64
  500,vj 400,vj 400,vj 2,vj 1000,vj 1000,vj 515,vj 515,vj 410,.int true .i64
  410])),(vj 2::vj 1000::vj 1000::vj 515::vj 515::vj 410::vj 410::vj 1::.int true .i64
  1000::vj 1000::vj 480::vj 490::vj 400::vj 400::List.append (wau) ([vj 0,vj 0,vj 0,vj 0,vj 0,vj 0])),
  (vj 2::vj 1000::vj 1000::vj 515::vj 515::vj 410::vj 410::vj 0::vj 0::.int
  true .i64 0::List.append (wau) ((wbA)))])]
theorem QeS :QE 8 [(.agg QLx)] (QQw) (KN 8 QKc [QOe])=(some ([(2000:Int)=2000,(20:Int)=20,(30:Int)=30,(0:Int)=0,(10:Int)=10,(2:Int)=2,(2:Int)=2,true=true,0=0,4=4,Cap.lit 4=Cap.lit 4]++vY++QJP++QBc++[(1:Int)=1]++QBc++Wn++Wn++[(0:Int)=0,(1:Int)=1]++QBc++[(2:Int)=2]++jB ++ [(2:Int)=2]++jB++[(1:Int)=1]++QSl++Wn++vY++[(2:Int)=2]++jB++Wn++vY++[(2:Int)=2]++jB)):=by kernel_rfl
def QFe:WF (Unit):=λ|_=>(true,QKc,[QOe])
def QTX:FC:=wFC QFe
theorem Qfi :Kn (mkE prog qq) (hnd (mkE prog qq) 2) f47 (Qe.vals 0 ((()):Unit)) (Qe.blks 0 ((()):Unit)) 8 = .need (true) (.leaf (.agg QLx) (QQw)):=by kernel_rfl
theorem Qfe:JQ (mkE prog qq) (Ql f47) 8 QFe (λx_=>(hnd (mkE prog qq) 2)):=by
 refine⟨?_⟩;rintro⟨⟩ hp G h1 h2;exact Qw (QO QHA) 2 G _ h1
theorem QXO:JR (mkE prog qq) f47 8 QFe (λx_=>(hnd (mkE prog qq) 2)):=by
 refine⟨?_⟩;rintro⟨⟩ hp;refine⟨⟨rfl,by decide,rfl⟩,⟨?_⟩⟩
 rw[Qfi];simp only[QFe]at hp;exact QG rfl ⟨rfl,rfl,_,QeS,by repeat' first|exact trivial|rfl|refine aI ?_ ?_⟩
theorem Qcu:QS prog 47 QTX:=
 JX (QO QHA) func47 (by kernel_rfl) (by kernel_rfl) (by decide) Qfe QXO
def QTw:Tab:=Qa qq 47 QTX
theorem QhK:Qd QTw:=QHA.add Qcu
end Go.Proofs.YtekbmehgcofnkaaGreat
namespace Go.SX
open Go Go.RowKit Go.Proofs.YtekbmehgcofnkaaGreat
def QKT(rw_:Bool)(E:Env)(H:Hnd)(fn:Func):FC:=λargs nid _=>QAk rw_ E H fn args nid (XW (AV.idsFromL 0 args) [])
variable {f:FuncId}
theorem QVb{E:Env}(hE:E.Sound){H:Hnd}{rw_:Bool}{fn:Func}{c:Code}(hf:E.P.funcs[f]? = some fn)(hb:fn.body=some c)(hgo:Jy E.P f=true)(hl:∀ G,G.rd=none->Qx E G H c):QS E.P f (QKT rw_ E H fn):=by
 have h:=QHp (rw_:=rw_) hE hf hb hgo hl;exact⟨h.1,λargs nid all r w lk blks eff hH ha hv he hp=>h.2 args nid (XW (AV.idsFromL 0 args) []) r w lk blks eff hH ha hv he hp⟩
def QJ3(fc:FC):FC:=λargs nid _=>((fc args nid (XW (AV.idsFromL 0 args) [])).1,λblks=>match (fc args nid (XW (AV.idsFromL 0 args) [])).2 blks with
 | some e=>some ⟨true,e.pre,e.val.setK true,e.upd⟩
 | none=>none)
theorem QcH{P:Program}{fc:FC}(h:QS P f fc):QS P f (QJ3 fc):=by
 refine⟨h.1,λargs nid all r w lk blks eff hH ha hv he hp=>?_⟩;simp only[QJ3]at hv he;split at he<;>(try (cases he;done))
 rename_i e h0;simp only[qsI]at he;subst he;refine(h.2 args nid (XW (AV.idsFromL 0 args) []) r w lk blks e hH ha hv h0 hp).mono ?_;rintro e' w' ⟨r',rfl,hpost⟩;exact⟨r',by simp only;rw[Wf],hpost⟩
end Go.SX
namespace Go.Proofs.YtekbmehgcofnkaaGreat
open Go.SX
abbrev mkG(P:Program)(C:Tab):Env:=⟨P,C,j5 P,false,λ_=>false,false,true,false⟩
theorem QFp{C:Tab}(hC:Qd C):(mkG prog C).Sound:={ c:=hC,m:=QBT prog,mixed:=QBC }
def QOI:List (Nat×Nat)->Nat->Nat
 | [],_=>0
 | (g,k)::l,f=>match Nat.beq g f with
  | true=>k
  | false=>QOI l f
def X7(P:Program)(B:Tab)(l:List (Nat×Nat)):Nat->Tab
 | 0=>λ_=>none
 | d+1=>λf=>match B f with
  | some fc=>some (QJ3 fc)
  | none=>match QOI l f with
   | 0=>none
   | k=>match P.funcs[f]? with
    | none=>none
    | some fn=>match fn.body.isSome&&Jy P f with
     | false=>none
     | true=>match k with
      | 1=>some (QKT false (mkG P (X7 P B l d)) (hnd (mkG P (X7 P B l d)) 60) fn)
      | 2=>some (QAk false (mkG P (X7 P B l d)) (hnd (mkG P (X7 P B l d)) 60) fn)
      | _=>some (QAk true (mkG P (X7 P B l d)) (hnd (mkG P (X7 P B l d)) 60) fn)
theorem QGC{B:Tab}(hB:Qd B)(l:List (Nat×Nat)):∀ d,Qd (X7 prog B l d)
 | 0=>λf fc h=>by cases h
 | d+1=>λf fc h=>by
  have ih:=QFp (QGC hB l d);simp only[X7]at h;split at h
  .rename_i fc0 h0;simp only[qsI]at h;subst h;exact QcH (hB _ _ h0)
  split at h
  .cases h
  .split at h
   .cases h
   .rename_i fn hf;split at h
    .cases h
    .rename_i hb;simp only[qbA,Option.isSome_iff_exists]at hb;obtain⟨⟨c,hc⟩,hgo⟩:=hb;split at h<;>simp only[qsI]at h<;>subst h
     .exact QVb ih hf hc hgo λG hG=>Qw ih 60 G _ hG
     .exact QHp ih hf hc hgo λG hG=>Qw ih 60 G _ hG
     .exact QHp ih hf hc hgo λG hG=>Qw ih 60 G _ hG
def QWX:Unit->Bool×AV:=λ_=>(true,.bool false true)
def QA8:FC:=Kb (Kh QWX)
variable {f:FuncId}
theorem QPB{C:Tab}(hC:Qd C)(d:Nat){fn:Func}(hf:prog.funcs[f]? = some fn)(hb:fn.body=some (Ql fn))(hgo:Jy prog f=true)(h:KW (mkG prog C) (hnd (mkG prog C) d) false fn [] [] 0 = .leaf (.bool true true) []):QS prog f QA8:=by
 refine QLK (QFp hC) hf hb hgo (λG _ hG=>Qw (QFp hC) d G _ hG) ?_;rintro⟨⟩ _;rw[show(Q3.enc ((()):Unit):List AV)=[]from rfl,h];rfl
