/- - -/
import Derived.Test.YtekbmehgcofnkaaGreatMzp
import Derived.Test.YtekbmehgcofnkaaGreatMzo
import Derived.Test.YtekbmehgcofnkaaGreatMq
open Go.Proofs.Tryz
open Go.IntKind (i64)
set_option maxRecDepth 100000
namespace Go.Proofs.YtekbmehgcofnkaaGreat
open Go.SX Go.SX.Told
variable {k:Nat}(pb:List Prop->Bool)(d:Puz)(E:ECt)(p:Nat)(w0:TwP)(q:Nat)(o:List Tw)(z:Nat)(l:List Lay)(z':Nat)(u:Nat->Nat->Int)(f':Nat)
def YU(ac body:Code)(rec:List Lay->TJ->Qb TJ)(l:List Lay)(k:Nat×TJ)(e:Ex)(J:JSt):Prop:=match Qv (Kr d E rec l) ((List.range d.ps.n).drop k.1) k.2 with
 | .go s'=>e = .exit 0/\J=vv d E w0 ac body (QD l) l s'.1
 | .stop s'=>e = .ret/\J=twF d E w0 ac body (QD l) l s'.1
set_option maxHeartbeats 1000000 in
theorem QYa(ac body:Code)(rec:List Lay->TJ->Qb TJ)(l:List Lay)(hn:d.ps.n<=1000):JW (λk:Nat×TJ=>zM d E w0 ac body (QD l) l k.2.1 k.1) (λk=>k.1<=d.ps.n) (λk=>d.ps.n-k.1) (YU d E w0 ac body rec l) 632 QJ7 Z1 (λk=>mkE prog (qv QQ d l.length k.1)) (λk=>QES prog QQ d E w0 ac body (QD l) l k.2.1 k.1 (H4 d E w0 ac body rec l k.1 k.2)) (QI f103 0):=by
 refine⟨λk g0 hk=>?_⟩;obtain⟨p,f,hq0⟩:=k;have hk:p<=d.ps.n:=hk;have wp:p<d.ps.n->i64.wrap ((p:Int)+1)=((p+1:Nat):Int):=λh=>VT h hn;have step:=λh:p<d.ps.n=>Wx (f:=Kr d E rec l) h ⟨f,hq0⟩
 have next:p<d.ps.n->∀{s2:TJ},Kr d E rec l ⟨f,hq0⟩ p = .go s2->∀ e J,YU d E w0 ac body rec l (p+1,s2) e J->YU d E w0 ac body rec l (p,⟨f,hq0⟩) e J:=by
  intro h s2 he e J hr;unfold YU at hr ⊢;simp only at hr ⊢;rw[step h,he];exact hr
 have stop:p<d.ps.n->∀{s2:TJ},Kr d E rec l ⟨f,hq0⟩ p = .stop s2->YU d E w0 ac body rec l (p,⟨f,hq0⟩) .ret (twF d E w0 ac body (QD l) l s2.1):=by
  intro h s2 he;unfold YU;simp only[step h,he,and_self]
 have last:d.ps.n<=p->YU d E w0 ac body rec l (p,⟨f,hq0⟩) (.exit 0) (vv d E w0 ac body (QD l) l f):=by
  intro h;unfold YU;simp only[qe h,and_self]
 have hpz:KK l p=false->Kr d E rec l ⟨f,hq0⟩ p=inZ d E rec l p ⟨f,hq0⟩:=λh=>by unfold Kr;rw[h];rfl
 have hpu:KK l p=true->Kr d E rec l ⟨f,hq0⟩ p = .go ⟨f,hq0⟩:=λh=>by unfold Kr;rw[h];rfl
 unfold H4;simp only;cases hr:inZ d E rec l p ⟨f,hq0⟩with
 | go s'=>
  obtain⟨f',hq1⟩:=s';simp only[Qb.isGo,Qb.s,Bool.true_eq_false,Bool.false_eq_true];have et:=QSH QQ d E w0 ac body (QD l) (QD l) l f p True False f' g0;refine Qg et ?_;clear et;refine QF (λb0=>?_) (λb0=>?_);have h:p<d.ps.n:=by have:=qdt b0;omega
  have hw:=wp h
  iterate 2 (refine QG ?_ ?_;rotate_left)
  refine QF (λb1=>?_) (λb1=>?_);have hub:KK l p=true:=Ve.symm.trans b1;refine⟨(p+1,⟨f,hq0⟩),h,by show d.ps.n-(p+1)<d.ps.n-p;omega,next h (hpu hub),rfl,rfl,_,QMS d E w0 ac body (QD l) l f p (p+1),?_⟩
  rotate_left
  have hub:KK l p=false:=Ve.symm.trans b1;have hu0:QD l p 0=0:=by unfold QD;rw[hub];rfl
  refine QG ?_ ?_;rotate_left
  iterate 143 refine Qq (by first|exact tv|exact⟨h,hu0⟩|with_reducible exact qRr|exact rfl) ?_
  refine Kf ?_ ?_;refine Qh λa0=>?_;refine Qj λg0=>?_;refine⟨(p+1,⟨f',hq1⟩),h,by show d.ps.n-(p+1)<d.ps.n-p;omega,next h ((hpz hub).trans hr),rfl,rfl,_,Qea d E w0 ac body (QD l) l p (p+1) f',?_⟩
  rotate_left
  refine Qh λa1=>?_;refine Qj λg1=>?_
  .exact a1.elim
  have h:d.ps.n<=p:=by have:=qdf b0;omega
  refine⟨_,last h,rfl,rfl,_,QNA d E w0 ac body (QD l) l f,?_⟩
  rotate_left
  all_goals first|((with_reducible show _=true);(first|(refine KA.2 ?_;repeat' first|exact tv|with_reducible exact qRr|exact rfl|refine aI ?_ ?_)|(simp;omega)))|(repeat' first|with_reducible refine QP ?_ ?_|exact tv|with_reducible exact qRr|with_reducible exact hw|exact rfl|refine aI ?_ ?_)
 | stop s'=>
  obtain⟨f',hq1⟩:=s';simp only[Qb.isGo,Qb.s,Bool.true_eq_false,Bool.false_eq_true];have et:=QSH QQ d E w0 ac body (QD l) (QD l) l f p False True f' g0;refine Qg et ?_;clear et;refine QF (λb0=>?_) (λb0=>?_);have h:p<d.ps.n:=by have:=qdt b0;omega
  have hw:=wp h
  iterate 2 (refine QG ?_ ?_;rotate_left)
  refine QF (λb1=>?_) (λb1=>?_);have hub:KK l p=true:=Ve.symm.trans b1;refine⟨(p+1,⟨f,hq0⟩),h,by show d.ps.n-(p+1)<d.ps.n-p;omega,next h (hpu hub),rfl,rfl,_,QMS d E w0 ac body (QD l) l f p (p+1),?_⟩
  rotate_left
  have hub:KK l p=false:=Ve.symm.trans b1;have hu0:QD l p 0=0:=by unfold QD;rw[hub];rfl
  refine QG ?_ ?_;rotate_left
  iterate 143 refine Qq (by first|exact tv|exact⟨h,hu0⟩|with_reducible exact qRr|exact rfl) ?_
  refine Kf ?_ ?_;refine Qh λa0=>?_;refine Qj λg0=>?_
  .exact a0.elim
  refine Qh λa1=>?_;refine Qj λg1=>?_;refine⟨_,stop h ((hpz hub).trans hr),rfl,rfl,_,Qcw d E w0 ac body (QD l) l f',?_⟩
  rotate_left
  have h:d.ps.n<=p:=by have:=qdf b0;omega
  refine⟨_,last h,rfl,rfl,_,QNA d E w0 ac body (QD l) l f,?_⟩
  rotate_left
  all_goals first|((with_reducible show _=true);(first|(refine KA.2 ?_;repeat' first|exact tv|with_reducible exact qRr|exact rfl|refine aI ?_ ?_)|(simp;omega)))|(repeat' first|with_reducible refine QP ?_ ?_|exact tv|with_reducible exact qRr|with_reducible exact hw|exact rfl|refine aI ?_ ?_)
noncomputable abbrev WM:Code:=(Q1 (QZ (QI f21 0))).1
noncomputable abbrev WT:Code:=(Q1 (QZ (QI f21 0))).2
theorem QO8(ac body:Code)(u:Nat->Nat->Int)(l:List Lay)(f:Nat)(f':Nat):(twU d E w0 ac body u l f f').Ok:=by
 refine⟨(by decide:592<=632),rfl,rfl,?_,rfl,λ_ _=>rfl,λnid h=>?_⟩
 .intro q hq;simp only[UC.po,twU,twW,rwY,rwU,rwT,bdZ,List.mem_cons,List.not_mem_nil,or_false]at hq;rcases hq with rfl|rfl|rfl|rfl|rfl|rfl|rfl|rfl|rfl|rfl|rfl<;>refine⟨rfl,rfl,rfl,?_⟩<;>first|exact λ_=>rfl|exact λh=>absurd (show 632<592 from h) (by decide)|exact λh=>absurd (show 633<592 from h) (by decide)|exact λh=>absurd (show 634<592 from h) (by decide)|exact λh=>absurd (show 635<592 from h) (by decide)
 .have e0:=KZ 592 632 0 nid (by decide)
  have e1:=KZ 592 632 1 nid (by decide)
  have e2:=KZ 592 632 2 nid (by decide)
  have e3:=KZ 592 632 3 nid (by decide)
  simp only[UC.po,twU,twW,rwY,rwU,rwT,bdZ,Gs,twT,KX,Qm.val,List.cons_append,List.nil_append,List.map_cons,List.map_nil,Blk.mapId,AV.mapId,AV.mapIdL,Nat.add_zero]at e0 e1 e2 e3 ⊢;rw[e0,e1,e2,e3];rfl
theorem QQB(ac body:Code)(u:Nat->Nat->Int)(l:List Lay)(f:Nat)(f':Nat):(twV d E w0 ac body u l f f').Ok:=by
 refine⟨(by decide:592<=632),rfl,rfl,?_,rfl,λ_ _=>rfl,λnid h=>?_⟩
 .intro q hq;simp only[UC.po,twV,twW,rwY,rwU,rwT,bdZ,List.mem_cons,List.not_mem_nil,or_false]at hq;rcases hq with rfl|rfl|rfl|rfl|rfl|rfl|rfl|rfl|rfl|rfl|rfl<;>refine⟨rfl,rfl,rfl,?_⟩<;>first|exact λ_=>rfl|exact λh=>absurd (show 632<592 from h) (by decide)|exact λh=>absurd (show 633<592 from h) (by decide)|exact λh=>absurd (show 634<592 from h) (by decide)|exact λh=>absurd (show 635<592 from h) (by decide)
 .have e0:=KZ 592 632 0 nid (by decide)
  have e1:=KZ 592 632 1 nid (by decide)
  have e2:=KZ 592 632 2 nid (by decide)
  have e3:=KZ 592 632 3 nid (by decide)
  simp only[UC.po,twV,twW,rwY,rwU,rwT,bdZ,Gs,twT,KX,Qm.val,List.cons_append,List.nil_append,List.map_cons,List.map_nil,Blk.mapId,AV.mapId,AV.mapIdL,Nat.add_zero]at e0 e1 e2 e3 ⊢;rw[e0,e1,e2,e3];rfl
def H1(l v:List Lay)(p q:Int)(z:Nat)(vb:Bool)(z':Nat):Tab:=Qa (Qa QT 63 (KG pb (swU l p q v))) 62 (KG pb (iqU d E v z vb z'))
abbrev twM(P : Program)(T : Tab): Hnd := { hnd (mkE P T) 5 with loop := λ_ _ _=>.fail "a loop" }
noncomputable abbrev QTo:Nat×Blk:=
  (200,.cells 0 152 (List.append (waf d) ([.map 201,.slz 600 0 l.length cO])))
noncomputable abbrev QRG:Nat×Blk:=
  (288,.cells 0 152 (List.append (waf d) ([.map 289,.slz 824 0 f' cO])))
noncomputable abbrev QPs:Nat×Blk:=
  (0,.frz (List.append (waa) ((List.append (waA) ((List.append (waZ) ([.int .i64])))))) d.ps.n λi=>QA.enc (d.ps.get i))
noncomputable abbrev QTm(d:Puz)(f':Nat)(l:List Lay)(u:Nat->Nat->Int)(w0:TwP):List (Nat×Blk):=
  [(QTo d l),(201,.mp E.1 E.2),(568,.cells 0 114 [.slz 608 0 d.ps.n cO]),(497,.lp LoopState.done (some (Code.exit 4)) (twT d w0) (Array.mk [31]) (Q1 (QZ (QI
  f21 0))).1 (Q1 (QZ (QI f21 0))).2),(120,.cells 0 36 [.slz 872 0 (w0.o.length+1) cO]),(QRG d f'),(289,.mp E.1 E.2),(QPs d),(600,.rowz true
  49 [.int .i64,.int .i64] l.length λi=>QA.enc (l.getD i (Lay.mk (0:Int) (0:Int)))),(608,.rowz true 4 [CK.bool] d.ps.n u),(296,.cellsR 0 90 [.ptr 288 0 0]),(400,
  .cellsR 0 3 [vi (w0.p:Int)]),(432,.cellsR 0 3 [vi (w0.q:Int)]),(456,.cellsR 0 90 [.ptr 200 0 0]),(464,.cellsR 0 96 [.nils]),(872,.rowz true 89 kB (w0.o.length+1) (Q9 w0.o.length (λi=>QA.enc (w0.o.getD i (Tw.mk (0:Int) (0:Int)))) (KI [[vi (w0.q:Int),vi (w0.p
  : Int)]] 0)))]
noncomputable abbrev QM9(d:Puz)(f':Nat)(l:List Lay)(u:Nat->Nat->Int)(w0:TwP):List (Nat×Blk):=
  [(QTo d l),(201,.mp E.1 E.2),(568,.cells 0 114 [.slz 608 0 d.ps.n cO]),(497,.lp LoopState.ready none (twT d w0) (Array.mk [31]) (Q1 (QZ (QI f21
  0))).1 (Q1 (QZ (QI f21 0))).2),(120,.cells 0 36 [.slz 616 0 w0.o.length cO]),(QRG d f'),(289,.mp E.1 E.2),(QPs d),(600,.rowz true 49 kB l.length λi=>QA.enc (l.getD i (Lay.mk (0:Int) (0:Int)))),(608,.rowz true 4 [CK.bool] d.ps.n u),(296,.cellsR 0 90 [.ptr 288 0 0]),(400,.cellsR 0 3 [.int
  false .i64 (w0.p:Int)]),(432,.cellsR 0 3 [vi (w0.q:Int)]),(456,.cellsR 0 90 [.ptr 200 0 0]),(464,.cellsR 0 96 [.nils]),(616,.rowz true 89 [.int .i64,.int
  .i64] w0.o.length λi=>QA.enc (w0.o.getD i (Tw.mk (0:Int) (0:Int))))]
theorem QgL(l v:List Lay)(f:Nat)(vb:Bool)(f':Nat):(Vt (mkE prog (H1 pb d E l v w0.p w0.q f vb f')) (twM prog (H1 pb d E l v w0.p w0.q f vb f')) f103 QGm (Gs d E w0 (Q1 (QZ (QI f21
  0))).1 (Q1 (QZ (QI f21 0))).2 u l f).hp 632 λv h _=>ZC Z1 v h) = .br ((l.length:Int)==(d.ps.n:Int)) (.need (pb ([0=0,l.length=l.length,Cap.of
  0=Cap.of 0,(w0.p:Int)=(w0.p:Int),(w0.q:Int)=(w0.q:Int),l.length<=l.length,QB 2 l.length (λi=>QA.enc (l.getD i (Lay.mk (0:Int) (0:Int)))) λi=>
  QA.enc (l.getD i (Lay.mk (0:Int) (0:Int)))])) (.need (pb ([0=0,0=0,0=0,v.length=v.length,Cap.of 0=Cap.of 0,d.pK.length=d.pK.length,d.pK.aK =
  d.pK.aK,d.pK.oK=d.pK.oK,d.pK.dK.lo=d.pK.dK.lo,d.pK.dK.hi=d.pK.dK.hi,d.wide=d.wide,d.high=d.high,d.turn=d.turn,0=0,d.ps.n =
  d.ps.n,Cap.of 0=Cap.of 0,0=0,f=f,Cap.of 0=Cap.of 0,E.1=E.1,E.2=E.2,v.length<=v.length,QB 2 v.length (λi=>QA.enc (v.getD i (Lay.mk (0:Int) (0 :
  Int)))) λi=>QA.enc (v.getD i (Lay.mk (0:Int) (0:Int))),d.ps.n<=d.ps.n,QB 28 d.ps.n (λi=>QA.enc (d.ps.get i)) λi=>QA.enc (d.ps.get i)])) (.br (vb)
  (.need (decide (w0.o.length<=w0.o.length)&&(true&&decide ((w0.o.length+1+(w0.o.length+1) / 4+192)*16<=281474976710656/\w0.o.length+1<=9223372036854775807)))
  (.leaf (.bool true false) ((QTm E d f' l u w0)))) (.leaf (.bool true true) ((QM9 E d f' l u w0)))))) (.fail ("a loop")) := by kernel_rfl
abbrev QFH:List Prop:=
  (wab d++[cO=cO,0=0])
abbrev QQ5(d:Puz)(l:List Lay):List Prop:=
  ((wbp E l)++wag l++(wbH d))
abbrev QNp:List Prop:=
  ([Array.mk [31]=Array.mk [(31:Tmp)]]++wba++[w0.g 0=w0.g 0])
abbrev GT:List Prop:=
  [0=0,0=0,0=0,0=0]
abbrev QLZ:List Prop:=
  ([w0.g 10=w0.g 10]++wan d w0++(([true=true,(w0.q:Int)=(w0.q:Int),0=0,0=0]++wbR)++wao w0))
theorem QW7(l v:List Lay)(f f':Nat):QE 632 [(.bool true false)] ((QTm E d f' l u w0)) (KR (twV d E w0 (Q1 (QZ (QI f21 0))).1 (Q1 (QZ (QI f21 0))).2 u l f f'))=(some ([false=false]++(QFH d)++(QQ5 E d l)++[QB 1 d.ps.n u u,LoopState.done=LoopState.done,some (Code.exit 4)=some (Code.exit 4)]++(QNp w0)++GT++[w0.g 3=w0.g 3] ++ GT++GT++[w0.g 8=w0.g 8,w0.g 9=w0.g 9]++(QLZ d w0)++(wbc w0++[0=0,w0.o.length+1=w0.o2.length,cO=cO,w0.o2.length<=w0.o.length+1,QB 2 w0.o2.length (Q9 w0.o.length (λi=>QA.enc (w0.o.getD i (Tw.mk (0:Int) (0:Int)))) (KI [[vi (w0.q:Int),vi (w0.p:Int)]] 0)) λi=>QA.enc (w0.o2.getD i (Tw.mk (0:Int) (0:Int)))])++(QFH d)++[f'=f',cO=cO,E.1=E.1,E.2=E.2])):=by kernel_rfl
theorem QbI(l v:List Lay)(f f':Nat):QE 632 [(.bool true true)] ((QM9 E d f' l u w0)) (KR (twU d E w0 (Q1 (QZ (QI f21 0))).1 (Q1 (QZ (QI f21 0))).2 u l f f'))=(some ([true=true]++(QFH d)++(QQ5 E d l)++([QB 1 d.ps.n u u]++wai)++(QNp w0)++GT++[w0.g 3=w0.g 3]++GT++GT ++ [w0.g 8=w0.g 8,w0.g 9=w0.g 9]++(QLZ d w0)++((wbc w0++[0=0,w0.o.length=w0.o.length,cO=cO])++war w0)++(QFH d)++[f'=f',cO=cO,E.1=E.1,E.2=E.2])):=by kernel_rfl
def twA(s:TJ):Qb TJ:=cond (V4 d E (l.map (swS p q))) (.stop ⟨iqZ d E (l.map (swS p q)) s.1,trivial⟩) (.go ⟨iqZ d E (l.map (swS p q)) s.1,trivial⟩)
abbrev twY:List Lay->TJ->Qb TJ:=twA d E w0.p w0.q
theorem QSy(T:Tab)(hT:Qd T)(G:Ctx)(hrd:G.rd=none):Qx (mkE prog T) G (twM prog T) (Ql f103):=
 KO (body:=QI f103 0) (QO hT) hrd (by kernel_rfl) (λ_ _ _ _ _ _ _ h _ _=>h.elim)
theorem Qby(l:List Tw)(x:Tw):QB 2 (l++[x]).length (Q9 l.length (λi=>QA.enc (l.getD i ⟨0,0⟩)) (KI [[.int false .i64 x.a,.int false .i64 x.b]] 0)) λi=>QA.enc ((l++[x]).getD i ⟨0,0⟩):=by
 intro i hi;rw[List.length_append,List.length_singleton]at hi;show eqF 2 0 _ (QA.enc ((l++[x]).getD i ⟨0,0⟩))
 by_cases h:i<l.length
 .have e:(l++[x]).getD i ⟨0,0⟩=l.getD i ⟨0,0⟩:=by
   rw[List.getD_eq_getElem?_getD,List.getD_eq_getElem?_getD,List.getElem?_append_left h]
  rw[e];refine⟨?_,?_,trivial⟩<;>(rw[XP,if_pos h])
 .obtain rfl:i=l.length:=by omega
  have e:(l++[x]).getD l.length ⟨0,0⟩=x:=by
   rw[List.getD_eq_getElem?_getD,List.getElem?_append_right (qlr _)];simp
  rw[e];refine⟨?_,?_,trivial⟩<;>(rw[XP,if_neg h,Nat.sub_self];rfl)
theorem Qbd{d:Puz}{p q:Nat}(hp:p<d.ps.n)(hq:q<d.ps.n){l:List Lay}(hL:∀ y∈l,Q8 d y):∀ y∈l.map (swS p q),Q8 d y:=by
 intro y hy;obtain⟨x,hx,rfl⟩:=List.mem_map.1 hy;obtain⟨h1,h2⟩:=hL x hx;unfold swS;cases (x.piece==(p:Int))
 .cases (x.piece==(q:Int))
  .exact⟨h1,h2⟩
  .exact⟨⟨by show(0:Int)<=p;omega,by show(p:Int)<_;omega⟩,h2⟩
 .exact⟨⟨by show(0:Int)<=q;omega,by show(q:Int)<_;omega⟩,h2⟩
set_option maxHeartbeats 1000000 in
theorem Qfr{d:Puz}(hd:KB d){E:ECt}(hE:WfE E){w0:TwP}(hw:w0.o2=w0.o++[⟨w0.q,w0.p⟩])(hol:w0.o.length<=1000000)(hp:w0.p<d.ps.n)(hq:w0.q<d.ps.n)(hpos:0<d.ps.n)(l:List Lay)(s:TJ)(hk:l.length=d.ps.n)(hL:∀ y∈l,Q8 d y):QS prog 103 (uFC (XM d E w0 WM WT l s (twY d E w0 l s))):=by
 have hll:l.length<=1000:=by rw[hk];exact hd.n
 have hvl:(l.map (swS w0.p w0.q)).length<=1000:=by rw[List.length_map];exact hll
 have hT:Qd (H1 QQ d E l (l.map (swS w0.p w0.q)) w0.p w0.q s.1 (V4 d E (l.map (swS w0.p w0.q))) (iqZ d E (l.map (swS w0.p w0.q)) s.1)):=(Qf.add (Qdx l w0.p w0.q (by omega) hll)).add (QXa hd hE hvl (Qbd hp hq hL) s.1)
 have et:=QgL QQ d E w0 (QD l) l (l.map (swS w0.p w0.q)) s.1 (V4 d E (l.map (swS w0.p w0.q))) (iqZ d E (l.map (swS w0.p w0.q)) s.1);have hlen:((l.length:Int)==(d.ps.n:Int))=true:=by rw[hk];simp
 have ho2:w0.o2.length=w0.o.length+1:=by rw[hw];simp
 have hr:=Qby w0.o ⟨w0.q,w0.p⟩;rw[<-hw]at hr;unfold twY twA;cases h0:V4 d E (l.map (swS w0.p w0.q))with
 | true=>
  rw[h0]at hT et;simp only[cond_true,XM];refine Ky (E:=mkE prog (H1 QQ d E l (l.map (swS w0.p w0.q)) w0.p w0.q s.1 true (iqZ d E (l.map (swS w0.p w0.q)) s.1))) (QO hT) func103 (by kernel_rfl) (by kernel_rfl) (QQB ..) (λG hG _=>QSy _ hT G hG) ⟨?_⟩
  refine Qg et ?_;clear et;refine QF ?_ ?_<;>intro b0
  iterate 2 (refine QG ?_ ?_;rotate_left)
  refine QF (λb1=>?_) (λb1=>?_);refine QG ?_ ?_;rotate_left;refine⟨rfl,rfl,_,QW7 d E w0 (QD l) l (l.map (swS w0.p w0.q)) s.1 (iqZ d E (l.map (swS w0.p w0.q)) s.1),?_⟩
  rotate_left
  .cases b1
  .exact Bool.noConfusion (hlen.symm.trans b0)
  all_goals first|((with_reducible show _=true);(first|(refine KA.2 ?_;repeat' first|with_reducible refine QP ?_ ?_|exact tv|with_reducible exact qRr|exact rfl|refine aI ?_ ?_)|(simp;omega)))|(repeat' first|with_reducible refine QP ?_ ?_|exact tv|with_reducible exact qRr|with_reducible exact hr|exact ho2.symm|exact Nat.le_of_eq ho2|exact rfl|refine aI ?_ ?_)
 | false=>
  rw[h0]at hT et;simp only[cond_false,XM];refine Ky (E:=mkE prog (H1 QQ d E l (l.map (swS w0.p w0.q)) w0.p w0.q s.1 false (iqZ d E (l.map (swS w0.p w0.q)) s.1))) (QO hT) func103 (by kernel_rfl) (by kernel_rfl) (QO8 ..) (λG hG _=>QSy _ hT G hG) ⟨?_⟩
  refine Qg et ?_;clear et;refine QF ?_ ?_<;>intro b0
  iterate 2 (refine QG ?_ ?_;rotate_left)
  refine QF ?_ ?_<;>intro b1
  .cases b1
  refine⟨rfl,rfl,_,QbI d E w0 (QD l) l (l.map (swS w0.p w0.q)) s.1 (iqZ d E (l.map (swS w0.p w0.q)) s.1),?_⟩
  rotate_left
  .exact Bool.noConfusion (hlen.symm.trans b0)
  all_goals first|((with_reducible show _=true);(first|(refine KA.2 ?_;repeat' first|with_reducible refine QP ?_ ?_|exact tv|with_reducible exact qRr|exact rfl|refine aI ?_ ?_)|(simp;omega)))|(repeat' first|with_reducible refine QP ?_ ?_|exact tv|with_reducible exact qRr|exact rfl|refine aI ?_ ?_)
theorem QR0{d:Puz}{E:ECt}{w0:TwP}{ac body:Code}{rec:List Lay->TJ->Qb TJ}{l:List Lay}(hd:KB d)(hE:WfE E)(hl:l.length<=1000)(hL:∀ y∈l,Q8 d y)(s:TJ)(IH:∀ p,p<d.ps.n->QCe d E w0 ac body rec l p){X:List (Prop×Ex×JSt)}(hX:∀ e J,YU d E w0 ac body rec l (0,s) e J->∃ y∈X,y.1/\y.2.1=e/\y.2.2=J)(G:Ctx)(hrd:G.rd=none)(hG:G.n=632):
  Qx (mkE prog QT) G (twX prog (zM d E w0 ac body (QD l) l s.1 0) X) (Ql f103):=by
 refine KO (body:=QI f103 0) (QO Qf) hrd (by kernel_rfl) ?_
 have hEnv:∀ k:Nat×TJ,(mkE prog (qv QQ d l.length k.1)).Sound:=λk=>QO (Qf.add (YR d l.length k.1));refine Jq (E0:=mkE prog QT) (E:=λk:Nat×TJ=>mkE prog (qv QQ d l.length k.1)) (H:=λk=>QES prog QQ d E w0 ac body (QD l) l k.2.1 k.1 (H4 d E w0 ac body rec l k.1 k.2)) (n0:=632) (s0:=(0,s)) (λ_=>rfl) hEnv (by omega) (λk _=>QXF hd hE hl hL k.1 k.2 (IH k.1) G hrd (by omega)) (λk _=>(by decide:632<=672)) ?_ (QYa d E w0 ac body rec l hd.n) (Nat.zero_le _) hX
 intro k e J hr;unfold YU at hr;split at hr<;>(rw[hr.2];exact(by decide:632<=672))
set_option maxHeartbeats 1000000 in
theorem QhY{d:Puz}{E:ECt}{w0:TwP}(hd:KB d)(hE:WfE E){l:List Lay}(hk:l.length+(k+1)=d.ps.n)(hL:∀ y∈l,Q8 d y)(IH:∀ p,p<d.ps.n->QCe d E w0 WM WT (onY d E (twY d E w0) k) l p)(s:TJ):QS prog 103 (uFC (XM d E w0 WM WT l s (onY d E (twY d E w0) (k+1) l s))):=by
 have hdn:=hd.n;have hr0:onY d E (twY d E w0) (k+1) l s=Qv (Kr d E (onY d E (twY d E w0) k) l) (List.range d.ps.n) s:=rfl;rw[hr0];have hne:((l.length:Int)==(d.ps.n:Int))=false:=by rw[beq_eq_false_iff_ne];omega
 obtain⟨f,hq0⟩:=s;cases hc:Qv (Kr d E (onY d E (twY d E w0) k) l) (List.range d.ps.n) ⟨f,hq0⟩with
 | go s'=>
  obtain⟨f',hq1⟩:=s';simp only[XM];have et:=QSk d E w0 (QD l) (QD l) l f True False f';refine Ky (E:=mkE prog QT) (QO Qf) func103 (by kernel_rfl) (by kernel_rfl) (QO8 ..) (QR0 hd hE (by omega) hL ⟨f,hq0⟩ IH (X:=[(True,.exit 0,vv d E w0 WM WT (QD l) l f'),(False,.ret,twF d E w0 WM WT (QD l) l f')]) ?_) ⟨?_⟩
  .intro e J hr;unfold YU at hr;simp only[List.drop_zero,hc]at hr;exact⟨_,qmc,trivial,hr.1.symm,hr.2.symm⟩
  refine Qg et ?_;clear et;refine QF ?_ ?_<;>intro b0
  .exact Bool.noConfusion (hne.symm.trans b0)
  iterate 139 refine Qq (by first|exact tv|with_reducible exact qRr|exact rfl) ?_
  refine Kf ?_ ?_;refine Qh λa0=>?_;refine Qj λg0=>?_;refine⟨rfl,rfl,_,QUU d E w0 (QD l) (QD l) l f f',?_⟩
  rotate_left
  refine Qh λa1=>?_;refine Qj λg1=>?_
  .exact a1.elim
  all_goals (repeat' first|with_reducible refine QP ?_ ?_|exact tv|with_reducible exact qRr|exact rfl|refine aI ?_ ?_)
 | stop s'=>
  obtain⟨f',hq1⟩:=s';simp only[XM];have et:=QSk d E w0 (QD l) (QD l) l f False True f';refine Ky (E:=mkE prog QT) (QO Qf) func103 (by kernel_rfl) (by kernel_rfl) (QQB ..) (QR0 hd hE (by omega) hL ⟨f,hq0⟩ IH (X:=[(False,.exit 0,vv d E w0 WM WT (QD l) l f'),(True,.ret,twF d E w0 WM WT (QD l) l f')]) ?_) ⟨?_⟩
  .intro e J hr;unfold YU at hr;simp only[List.drop_zero,hc]at hr;exact⟨_,List.mem_cons_of_mem _ qmc,trivial,hr.1.symm,hr.2.symm⟩
  refine Qg et ?_;clear et;refine QF ?_ ?_<;>intro b0
  .exact Bool.noConfusion (hne.symm.trans b0)
  iterate 139 refine Qq (by first|exact tv|with_reducible exact qRr|exact rfl) ?_
  refine Kf ?_ ?_;refine Qh λa0=>?_;refine Qj λg0=>?_
  .exact a0.elim
  refine Qh λa1=>?_;refine Qj λg1=>?_;refine⟨rfl,rfl,_,QfH d E w0 (QD l) (QD l) l f f',?_⟩
  rotate_left
  all_goals (repeat' first|with_reducible refine QP ?_ ?_|exact tv|with_reducible exact qRr|exact rfl|refine aI ?_ ?_)
theorem QUl{d:Puz}{E:ECt}{w0:TwP}(hd:KB d)(hE:WfE E)(hw:w0.o2=w0.o++[⟨w0.q,w0.p⟩])(hol:w0.o.length<=1000000)(hp:w0.p<d.ps.n)(hq:w0.q<d.ps.n)(hpos:0<d.ps.n)(k:Nat):∀(l:List Lay) (s:TJ),l.length+k=d.ps.n->(∀ y∈l,Q8 d y)->QS prog 103 (uFC (XM d E w0 WM WT l s (onY d E (twY d E w0) k l s))):=by
 induction k with
 | zero=>exact λl s hk hL=>Qfr hd hE hw hol hp hq hpos l s hk hL
 | succ k ih=>
  intro l s hk hL;refine QhY hd hE hk hL ?_ s;intro p hp t ht s;exact ih _ s (QCj l _ hk) (QCK hp ht hL)
def toS:List (Nat×AV):=[(1,.ptr 112 0 0),(2,.ptr 120 0 0),(4,.ptr 200 0 0),(5,.ptr 296 0 0),(21,.int false .i64 d.ps.n),(22,.int false .i64 p)]
def toW(o:List Tw):List (Nat×Blk):=[bdL d 392,(201,.mp E.1 E.2),rwY 392 [],bdZ d 384 z,(289,.mp E.1 E.2),(120,.cells 0 36 [.slz 408 0 o.length (.of 0)]),rwT 408 o]
def toR:List (Nat×Blk):=[(296,.cells 0 90 [.ptr 288 0 0]),(112,.cells 0 28 (KX d))]++Qm.blk 0 d.ps
def toJ(o:List Tw):JSt:=⟨48,toS d p,toW d E z o++toR d,416⟩
def toF:JSt:=⟨48,[(2,.ptr 120 0 0)],[(120,.cells 0 36 [.slz 408 0 o.length (.of 0)]),rwT 408 o],416⟩
def tiJ(o:List Tw):JSt:=⟨48,toS d p++[(6,.ptr 400 0 0),(25,.int false .i64 p),(26,.int false .i64 q)],toW d E z o++(400,.cells 0 3 [.int false .i64 p])::toR d,416⟩
def vE:List Nat:=[200,201,120,288,289,296,112]
def QKb:Ex->List Nat
 | .normal=>[1,2,4,5,21,22]
 | .exit _=>[2]
 | .ret=>[]
def QHr:Ex->List Nat
 | .normal=>[1,2,4,5,21,22,6,25,26]
 | .exit _=>[1,2,4,5,21,22]
 | .ret=>[]
def QBA(U:UC):Tab:=Qa QT 103 (KG pb U)
abbrev waR(o:List Tw):List Prop:=[o.length<=o.length,QB 2 o.length (λi=>QA.enc (o.getD i (Tw.mk (0:Int) (0 :
  Int)))) λi=>QA.enc (o.getD i (Tw.mk (0:Int) (0:Int)))]
abbrev QLf(d:Puz)(g0:Nat->Value)(o:List Tw)(p:Nat)(q:Nat)(u:Nat->Nat->Int)(z:Nat):List Prop:=
  ((wbo++[0=0])++wab d++(((wbV E)++wam++(wbH d++[QB 1 d.ps.n (λx x_1=>(0:Int)) u]))++wai++(([Array.mk [31]=Array.mk
  [31]]++wba++([g0 0=g0
  0,0=0,0=0,0=0,0=0,g0 (0+1+1+1)=g0 3,0=0,0=0,0=0,0=0,0=0,0=0,0=0,0=0,g0 (0+1+1+1+1+1+1+1+1)=g0 8,g0 (0+1+1+1 +
  1+1+1+1+1+1)=g0 9,g0 (0+1+1+1+1+1+1+1+1+1+1)=g0 10,g0 (0+1+1+1+1+1+1+1+1+1+1+1)=g0 11,g0 (0+1+1+1+1+1+1+1
  + 1+1+1+1+1)=g0 12,g0 (0+1+1+1+1+1+1+1+1+1+1+1+1+1)=g0 13,g0 (0+1+1+1+1+1+1+1+1+1+1+1+1+1+1)=g0 14,g0 (0+1 +
  1+1+1+1+1+1+1+1+1+1+1+1+1+1)=g0 15,g0 (0+1+1+1+1+1+1+1+1+1+1+1+1+1+1+1+1)=g0 16,g0 (0+1+1+1+1+1+1+1+1
  + 1+1+1+1+1+1+1+1+1)=g0 17,g0 (0+1+1+1+1+1+1+1+1+1+1+1+1+1+1+1+1+1+1)=g0 18,g0 (0+1+1+1+1+1+1+1+1+1+1 +
  1+1+1+1+1+1+1+1+1)=g0 19,g0 (0+1+1+1+1+1+1+1+1+1+1+1+1+1+1+1+1+1+1+1+1)=g0 20]++wbq d p++([g0 (0+1+1+1+1+1+1+1+1+1+1+1+1+1+1+1+1+1+1+1+1+1+1+1)=g0 23,g0 (0+1+1+1+1+1+1+1+1+1+1+1+1 +
  1+1+1+1+1+1+1+1+1+1+1+1)=g0 24,(p:Int)=(p:Int),(q:Int)=(q:Int),true=true,(q:Int)=(q:Int),0=0,0=0]++wbX++[g0 (0+1+1+1+1+1+1+1+1+1+1+1+1+1+1+1+1+1+1+1+1+1+1+1+1+1+1+1+1+1+1+1)=g0 31,g0 (0+1+1 +
  1+1+1+1+1+1+1+1+1+1+1+1+1+1+1+1+1+1+1+1+1+1+1+1+1+1+1+1+1+1)=g0 32,g0 (0+1+1+1+1+1+1+1+1+1+1+1+1
  + 1+1+1+1+1+1+1+1+1+1+1+1+1+1+1+1+1+1+1+1+1)=g0 33,g0 (0+1+1+1+1+1+1+1+1+1+1+1+1+1+1+1+1+1+1+1+1 +
  1+1+1+1+1+1+1+1+1+1+1+1+1+1)=g0 34,g0 (0+1+1+1+1+1+1+1+1+1+1+1+1+1+1+1+1+1+1+1+1+1+1+1+1+1+1+1+1
  + 1+1+1+1+1+1+1)=g0 35,g0 (0+1+1+1+1+1+1+1+1+1+1+1+1+1+1+1+1+1+1+1+1+1+1+1+1+1+1+1+1+1+1+1+1+1+1 +
  1+1)=g0 36,g0 (0+1+1+1+1+1+1+1+1+1+1+1+1+1+1+1+1+1+1+1+1+1+1+1+1+1+1+1+1+1+1+1+1+1+1+1+1+1)=g0 37,g0 (0+1+1+1+1+1+1+1+1+1+1+1+1+1+1+1+1+1+1+1+1+1+1+1+1+1+1+1+1+1+1+1+1+1+1+1+1+1+1)=g0 38,g0 (0+1+1
  + 1+1+1+1+1+1+1+1+1+1+1+1+1+1+1+1+1+1+1+1+1+1+1+1+1+1+1+1+1+1+1+1+1+1+1+1+1)=g0 39,g0 (0+1+1+1+1 +
  1+1+1+1+1+1+1+1+1+1+1+1+1+1+1+1+1+1+1+1+1+1+1+1+1+1+1+1+1+1+1+1+1+1+1+1)=g0 40,g0 (0+1+1+1+1+1+1
  + 1+1+1+1+1+1+1+1+1+1+1+1+1+1+1+1+1+1+1+1+1+1+1+1+1+1+1+1+1+1+1+1+1+1+1)=g0 41,g0 (0+1+1+1+1+1+1 +
  1+1+1+1+1+1+1+1+1+1+1+1+1+1+1+1+1+1+1+1+1+1+1+1+1+1+1+1+1+1+1+1+1+1+1+1)=g0 42,g0 (0+1+1+1+1+1+1
  + 1+1+1+1+1+1+1+1+1+1+1+1+1+1+1+1+1+1+1+1+1+1+1+1+1+1+1+1+1+1+1+1+1+1+1+1+1)=g0 43,g0 (0+1+1+1+1 +
  1+1+1+1+1+1+1+1+1+1+1+1+1+1+1+1+1+1+1+1+1+1+1+1+1+1+1+1+1+1+1+1+1+1+1+1+1+1+1+1)=g0 44,g0 (0+1+1
  + 1+1+1+1+1+1+1+1+1+1+1+1+1+1+1+1+1+1+1+1+1+1+1+1+1+1+1+1+1+1+1+1+1+1+1+1+1+1+1+1+1+1+1)=g0 45,g0 (0+1+1+1+1+1+1+1+1+1+1+1+1+1+1+1+1+1+1+1+1+1+1+1+1+1+1+1+1+1+1+1+1+1+1+1+1+1+1+1+1+1+1+1+1
  + 1+1)=g0 46,g0 (0+1+1+1+1+1+1+1+1+1+1+1+1+1+1+1+1+1+1+1+1+1+1+1+1+1+1+1+1+1+1+1+1+1+1+1+1+1+1+1 +
  1+1+1+1+1+1+1+1)=g0 47,0=0,o.length=o.length,cO=cO])))++waR o))++wab d++(([cO=cO,0=0,z=z,cO=cO,E.1=E.1,E.2=E.2,Fn.func 103=Fn.func 103]++wbo++[0=0,0=0,0=0,(q:Int)=(q:Int),(p:Int)=(p:Int),0
  = 0,0=0])++wae d))
noncomputable abbrev wa6(d:Puz):List AV:=[.ptr 112 0 0,.ptr 120 0 0,.ptr 200 0 0,.ptr 296 0 0,vi (d.ps.n:Int)]
noncomputable abbrev QSO:List AV:=
  (.nilp::.ptr 48 0 0::List.append (wa6 d) ([vi (p:Int),.ptr 400 0 0,vi (p:Int),.int
  false .i64 (i64.wrap ((q:Int)+1))]))
noncomputable abbrev QQC:Nat×Blk:=
  (200,.cells 0 152 (List.append (waf d) ([.map 201,.slz 616 0 0 cO])))
noncomputable abbrev QKr:Nat×Blk:=
  (288,.cells 0 152 (List.append (waf d) ([.map 289,.slz 619 0 z' cO])))
noncomputable abbrev QEP:Nat×Blk:=
  (296,.cells 0 90 [.ptr 288 0 0])
noncomputable abbrev QCs:Nat×Blk:=
  (112,.cells 0 28 (waf d))
noncomputable abbrev QDy:Nat×Blk:=
  (0,.frz (List.append (waa) ((List.append (waA) ((List.append (waZ) ([.int .i64])))))) d.ps.n λi=>QA.enc (d.ps.get i))
noncomputable abbrev QKN:Nat×Blk:=
  (616,.rowz true 49 kB 0 λi=>QA.enc ([].getD i (Lay.mk (0:Int) (0:Int))))
noncomputable abbrev QKZ(d:Puz)(o:List Tw)(p:Nat)(z':Nat):List (Nat×Blk):=
  [(QQC d),(201,.mp E.1 E.2),(120,.cells 0 36 [.slz 618 0 o.length cO]),(QKr d z'),(289,.mp E.1 E.2),QEP,(QCs d),(400,.cells 0 3 [vi (p:Int)]),
  (QDy d),QKN,(618,.rowz true 89 kB o.length λi=>QA.enc (o.getD i (Tw.mk (0:Int) (0:Int))))]
noncomputable abbrev QQX:List AV:=
  (.ptr 2 0 0::.ptr 48 0 0::List.append (wa6 d) ([vi (p:Int)]))
noncomputable abbrev QM1:Nat×Blk:=
  (200,.cells 0 152 (List.append (waf d) ([.map 201,.slz 392 0 0 cO])))
noncomputable abbrev QQg:Nat×Blk:=
  (392,.rowz true 49 kB 0 λi=>QA.enc ([].getD i (Lay.mk (0:Int) (0:Int))))
noncomputable abbrev Gr(d:Puz)(o:List Tw)(z:Nat):List (Nat×Blk):=
  [(QM1 d),(201,.mp E.1 E.2),(120,.cells 0 36 [.slz 408 0 o.length cO]),(288,.cells 0 152 (vi d.pK.length::vi d.pK.aK::.int false .i64
  d.pK.oK::vi d.pK.dK.lo::vi d.pK.dK.hi::vi d.wide::vi d.high::List.append (wbv d) ([.slz 384 0 z cO]))),(289,.mp E.1 E.2),QEP,(QCs d),(QDy d),QQg,(408,.rowz true 89 kB o.length λi=>QA.enc (o.getD i (Tw.mk (0 :
  Int) (0:Int))))]
theorem QYw(p q z:Nat)(o o2:List Tw)(z':Nat)(g0:Nat->Value):exec (mkE prog (QBA pb (twU d E ⟨o,o2,p,q,g0⟩ (Q1 (QZ (QI f21 0))).1 (Q1 (QZ (QI f21 0))).2 u [] z z'))) (hnd (mkE prog (QBA pb (twU d E ⟨o,o2,p,q,g0⟩ (Q1 (QZ (QI f21 0))).1 (Q1 (QZ (QI f21 0))).2 u [] z z'))) 8) (QZ (QI f21 0)) (JSt.inst (JSt.dfrs (tiJ d E p q z o) 368) g0) (zC vE QHr) = .br (decide ((q:Int)<(p:Int))) (.need (decide ((d.ps.n:Int)=(d.ps.n:Int))&&decide ((0:Int)<=(d.ps.n:Int)/\(d.ps.n:Int)<=17179869184)) (.need (pb ((QLf E d g0 o p q u z))) (.leaf (.tup (QSO d p q)) ((QKZ E d o p z'))))) (.leaf (.tup (QQX d p)) ((Gr E d o z))):=by kernel_rfl
noncomputable abbrev QQx(d:Puz)(o2:List Tw)(p:Nat)(z':Nat):List (Nat×Blk):=
  [(QQC d),(201,.mp E.1 E.2),(120,.cells 0 36 [.slz 618 0 o2.length cO]),(QKr d z'),(289,.mp E.1 E.2),QEP,(QCs d),(400,.cells 0 3 [vi (p :
  Int)]),(QDy d),QKN,(618,.rowz true 89 kB o2.length λi=>QA.enc (o2.getD i (Tw.mk (0:Int) (0:Int))))]
theorem Qe1(p q z:Nat)(o o2:List Tw)(z':Nat)(g0:Nat->Value):exec (mkE prog (QBA pb (twV d E ⟨o,o2,p,q,g0⟩ (Q1 (QZ (QI f21 0))).1 (Q1 (QZ (QI f21 0))).2 u [] z z'))) (hnd (mkE prog (QBA pb (twV d E ⟨o,o2,p,q,g0⟩ (Q1 (QZ (QI f21 0))).1 (Q1 (QZ (QI f21 0))).2 u [] z z'))) 8) (QZ (QI f21 0)) (JSt.inst (JSt.dfrs (tiJ d E p q z o) 368) g0) (zC vE QHr) = .br (decide ((q:Int)<(p:Int))) (.need (decide ((d.ps.n:Int)=(d.ps.n:Int))&&decide ((0:Int)<=(d.ps.n:Int)/\(d.ps.n:Int)<=17179869184)) (.need (pb ((QLf E d g0 o p q u z))) (.leaf (.tup (QSO d p q)) ((QQx E d o2 p z'))))) (.leaf (.tup (QQX d p)) ((Gr E d o z))):=by kernel_rfl
noncomputable abbrev QPR:List AV:=
  (List.append (wa6 d) ([vi (p:Int),.ptr 400 0 0,vi (p:Int),.int false .i64
  (i64.wrap ((q:Int)+1))]))
abbrev QGd:List Prop:=
  [0=0,0=0,0=0,0=0,0=0]
abbrev QRs(q':Nat):List Prop:=
  ([0=0,0=0,0=0]++wbq d p++[0=0,0=0,(p:Int)=(p:Int),i64.wrap ((q:Int)+1)=(q':Int),d.pK.length =
  d.pK.length])
abbrev Zs:List Prop:=
  ([d.pK.aK=d.pK.aK]++waD d++[0 =
  0,d.ps.n=d.ps.n,cO=cO])
abbrev QGJ(d:Puz):List Prop:=
  ([0=0,0=0,cO=cO,E.1=E.1,E.2=E.2]++wam++[d.pK.length=d.pK.length])
abbrev QPg:List Prop:=
  ([0=0,o.length=o.length,cO=cO]++waR o)
theorem Qc9(p q q' z':Nat)(o:List Tw):QE 376 (QPR d p q) ((QKZ E d o p z')) (tiJ d E p q' z' o)=(some (QGd++(QRs d p q q')++(Zs d)++(QGJ E d)++(Zs d)++[0=0,z'=z',cO=cO, E.1=E.1,E.2=E.2]++(QPg o)++[(p:Int)=(p:Int),0=0,0=0,d.pK.length=d.pK.length]++(Zs d)++(wae d))):=by kernel_rfl
noncomputable abbrev QNU:List AV:=
  (List.append (wa6 d) ([vi (p:Int)]))
abbrev QMI(d:Puz)(o:List Tw)(p:Nat)(z:Nat):List Prop:=
  (([0=0,0=0,0=0,0=0,0=0,0=0,0=0,0=0]++wbq d p)++wab d++((wbV E)++wam)++wab d++([cO=cO,0=0,z=z,cO=cO,E.1=E.1,E.2=E.2,0=0,o.length=o.length,cO=cO]++waR o++[0=0,0=0])++wab d++([cO=cO]++wae d))
theorem Qhg(o:List Tw):QE 376 (QNU d p) ((Gr E d o z)) (toJ d E p z o)=(some (QMI E d o p z)):=by kernel_rfl
theorem QaH(p q q' z':Nat)(o2:List Tw):QE 376 (QPR d p q) ((QQx E d o2 p z')) (tiJ d E p q' z' o2)=(some (QGd++(QRs d p q q')++(Zs d)++(QGJ E d)++(Zs d)++[0=0,z'=z',cO=cO,E.1=E.1,E.2=E.2,0=0,o2.length=o2.length,cO=cO,o2.length<=o2.length,QB 2 o2.length (λi=>QA.enc (o2.getD i (Tw.mk (0:Int) (0:Int)))) λi=>QA.enc (o2.getD i (Tw.mk (0:Int) (0:Int))),(p:Int)=(p:Int),0=0,0=0,d.pK.length=d.pK.length]++(Zs d)++(wae d))):=by kernel_rfl
theorem QfN(o:List Tw):QE 376 (QNU d p) ((Gr E d o z)) (toJ d E p z o)=(some (QMI E d o p z)):=by kernel_rfl
abbrev toH(P:Program)(d:Puz)(E:ECt)(p z:Nat)(o:List Tw)(X:List (Prop×Ex×JSt)):Hnd:={ hnd (mkE P QT) 1 with loop:=λ_=>JP (p<d.ps.n) (QE8 376 vE (tiJ d E p (0:Nat) z o) X) }
noncomputable abbrev QRC(d:Puz)(o':List Tw)(z':Nat):List (Nat×Blk):=
  [(QM1 d),(201,.mp E.1 E.2),(120,.cells 0 36 [.slz 408 0 o'.length cO]),(288,.cells 0 152 (vi d.pK.length::vi d.pK.aK::.int false .i64
  d.pK.oK::vi d.pK.dK.lo::vi d.pK.dK.hi::vi d.wide::vi d.high::List.append (wbv d) ([.slz 384 0 z' cO]))),(289,.mp E.1 E.2),QEP,(QCs d),(QDy d),QQg,(408,.rowz true 89 kB o'.length λi=>QA.enc (o'.getD i (Tw.mk (0 :
  Int) (0:Int))))]
theorem QUR(o:List Tw)(z':Nat)(o':List Tw)(g0:Nat->Value):exec (mkE prog QT) (toH prog d E p z o [(True,.exit 2,(toJ d E p z' o').dfrs 368)]) (QI f21 0) (JSt.inst (JSt.dfrs (toJ d E p z o) 368) g0) (zC vE QKb) = .br (decide ((p:Int)<(d.ps.n:Int))) (.ak [p<d.ps.n] (.ak (rz 8) (.ak ((wbq d p++[0=0,0=0,(p:Int)=(p:Int),(0:Int)=0])++wab d++((wbV E)++wam)++wab d++([cO=cO,0=0,z=z,cO=cO,E.1=E.1,E.2=E.2,0=0,o.length=o.length,cO=cO]++waR o++[(p:Int)=(p:Int),0=0,0=0])++wab d++([cO=cO]++wae d)) (.asm (True) (.all (λ(g0:Nat->Value)=>.leaf (.tup (.nilp::.ptr 48 0 0::List.append (wa6 d) ([vi (i64.wrap ((p:Int)+1))]))) ((QRC E d o' z')))))))) (.leaf (.tup [.ptr 0 0 0,.ptr 48 0 0,.ptr 120 0 0]) ((Gr E d o z))):=by kernel_rfl
theorem QbM(p' z':Nat)(p:Nat)(o':List Tw):QE 376 (List.append (wa6 d) ([vi (i64.wrap ((p:Int)+1))])) ((QRC E d o' z')) (toJ d E p' z' o')=(some (QGd++([0=0,0=0,0=0]++wbI d p p')++(Zs d)++(QGJ E d)++(Zs d)++[0=0,z'=z',cO=cO,E.1=E.1,E.2=E.2,0=0,o'.length=o'.length,cO=cO,o'.length<=o'.length,QB 2 o'.length (λi=>QA.enc (o'.getD i (Tw.mk (0:Int) (0:Int)))) λi=>QA.enc (o'.getD i (Tw.mk (0:Int) (0:Int))),0=0,0=0,d.pK.length=d.pK.length]++(Zs d)++(wae d))):=by kernel_rfl
theorem QVY(d:Puz)(E:ECt)(p:Nat):QE 376 [.ptr 120 0 0] ((Gr E d o z)) (toF o)=(some ([0=0,0=0]++(QPg o))):=by kernel_rfl
def tiZ(s:Nat×List Tw):Nat×List Tw:=match onY d E (twA d E p q) d.ps.n [] ⟨s.1,trivial⟩with
 | .go z=>(z.1,s.2)
 | .stop z=>(z.1,s.2++[⟨q,p⟩])
def V2(p k:Nat)(s:Nat×List Tw):Nat×List Tw:=((List.range p).drop k).foldl (λs q=>tiZ d E p q s) s
def Gq(k:Nat)(s:Nat×List Tw):Nat×List Tw:=((List.range d.ps.n).drop k).foldl (λs p=>V2 d E p 0 s) s
theorem QOw{σ:Type}{f:σ->Nat->σ}{n:Nat}(h:k<n)(s:σ):((List.range n).drop k).foldl f s=((List.range n).drop (k+1)).foldl f (f s k):=by
 have:(List.range n).drop k=k::(List.range n).drop (k+1):=by
  rw[List.drop_eq_getElem_cons (by simpa using h)]
  simp
 rw[this,List.foldl_cons]
theorem QMH{σ:Type}{f:σ->Nat->σ}{n:Nat}(h:n<=k)(s:σ):((List.range n).drop k).foldl f s=s:=by
 rw[List.drop_eq_nil_of_le (by simpa using h),List.foldl_nil]
theorem Qcg(s:Nat×List Tw):(tiZ d E p q s).2.length<=s.2.length+1:=by
 unfold tiZ;split
 .exact Nat.le_succ _
 .rw[List.length_append,List.length_singleton];exact qlr _
noncomputable def tiU(o:List Tw)(g:Nat->Value):UC:=XM d E ⟨o,o++[⟨q,p⟩],p,q,g⟩ WM WT [] ⟨z,trivial⟩ (onY d E (twA d E p q) d.ps.n [] ⟨z,trivial⟩)
theorem Qft{d:Puz}(hd:KB d){E:ECt}(hE:WfE E){p q z:Nat}{o:List Tw}(hp:p<d.ps.n)(g:Nat->Value)(e1:o.length<=1000000)(e2:q<d.ps.n)(e3:0<d.ps.n):QS prog 103 (uFC (tiU d E p q z o g)):=by
 have hl:([]:List Lay).length+d.ps.n=d.ps.n:=by simp
 have hc:∀ y∈([]:List Lay),Q8 d y:=λc hc=>by cases hc
 have h:=QUl (w0:=⟨o,o++[⟨q,p⟩],p,q,g⟩) hd hE rfl e1 hp e2 e3 d.ps.n [] ⟨z,trivial⟩ hl hc;unfold tiU;exact h
open Classical in
noncomputable def qK(P:Program)(d:Puz)(E:ECt)(p:Nat)(k:Nat×Nat×List Tw)(g:Nat->Value):Env:=mkE P (QBA (if k.1<p then QQ else λ_=>false) (tiU d E p k.1 k.2.1 k.2.2 g))
theorem QUI{d:Puz}(hd:KB d){E:ECt}(hE:WfE E){p:Nat}(hp:p<d.ps.n)(k:Nat×Nat×List Tw)(g:Nat->Value)(hk:k.2.2.length<=1000*p+k.1):(qK prog d E p k g).Sound:=by
 unfold qK;have hn:=hd.n;obtain⟨q,z,o⟩:=k;have hk:o.length<=1000*p+q:=hk
 by_cases h:q<p
 .have e1:o.length<=1000000:=by omega
  have e2:q<d.ps.n:=by omega
  have e3:0<d.ps.n:=by omega
  rw[if_pos (show(q,z,o).1<p from h)];exact QO (Qf.add (Qft hd hE hp g e1 e2 e3))
 .rw[if_neg h];exact QO (Qf.add (Jr (by kernel_rfl) _))
def vl(k:Nat×Nat×List Tw)(e:Ex)(J:JSt):Prop:=e = .exit 2/\J=toJ d E p (V2 d E p k.1 k.2).1 (V2 d E p k.1 k.2).2
set_option maxHeartbeats 1000000 in
theorem QdP(hp:p<d.ps.n)(hn:d.ps.n<=1000):QEX (λk:Nat×Nat×List Tw=>tiJ d E p k.1 k.2.1 k.2.2) (λk=>k.1<=p/\k.2.2.length<=1000*p+k.1) (λk=>p-k.1) (vl d E p) 376 368 QHr vE (qK prog d E p) (λk g=>hnd (qK prog d E p k g) 8) (QZ (QI f21 0)):=by
 refine⟨λk g0 hk=>?_⟩;obtain⟨q,z,o⟩:=k;obtain⟨hk,hol⟩:=hk;have hk:q<=p:=hk;have hol:o.length<=1000*p+q:=hol;have hl2:(o++[(⟨q,p⟩:Tw)]).length<=1000*p+(q+1):=by rw[List.length_append,List.length_singleton];omega
 have hl1:o.length<=1000*p+(q+1):=by omega
 have hz:∀ k,QB 1 k (λ_ _=>0) (QD []):=λk i _=>⟨rfl,trivial⟩;have hw:q<p->i64.wrap ((q:Int)+1)=((q+1:Nat):Int):=λh=>VT h (by omega)
 have hpb:q<p->(if q<p then QQ else λ_=>false)=QQ:=λh=>if_pos h
 have next:q<p->∀ e J,vl d E p (q+1,tiZ d E p q (z,o)) e J->vl d E p (q,z,o) e J:=by
  intro h e J hr;unfold vl V2 at hr ⊢;rw[QOw h];exact hr
 have last:p<=q->vl d E p (q,z,o) (.exit 2) (toJ d E p z o):=by
  intro h;unfold vl V2;simp only[QMH h,and_self]
 unfold qK tiU;simp only;cases hr:onY d E (twA d E p q) d.ps.n [] ⟨z,trivial⟩with
 | go s=>
  have hs:tiZ d E p q (z,o)=(s.1,o):=by unfold tiZ;simp only[hr]
  rw[hs]at next
  simp only[XM];have et:=QYw (if q<p then QQ else λ_=>false) d E (QD []) p q z o (o++[⟨q,p⟩]) s.1 g0
  refine Qg et ?_;clear et;refine QF (λb0=>?_) (λb0=>?_);have h:q<p:=by have:=qdt b0;omega
  rw[hpb h];have hw:=hw h
  iterate 2 (refine QG ?_ ?_;rotate_left)
  refine⟨(q+1,s.1,o),⟨h,hl1⟩,by show p-(q+1)<p-q;omega,next h,rfl,rfl,_,Qc9 d E p q (q+1) s.1 o,?_⟩
  rotate_left
  have h:p<=q:=by have:=qdf b0;omega
  refine⟨_,last h,rfl,rfl,_,Qhg d E p z o,?_⟩
  rotate_left
  all_goals first|((with_reducible show _=true);(first|rfl|(refine KA.2 ?_;repeat' first|with_reducible refine QP ?_ ?_|exact tv|with_reducible exact qRr|with_reducible exact hz _|exact rfl|refine aI ?_ ?_)|(simp;omega)))|(repeat' first|with_reducible refine QP ?_ ?_|exact tv|with_reducible exact qRr|with_reducible exact hw|exact rfl|refine aI ?_ ?_)
 | stop s=>
  have hs:tiZ d E p q (z,o)=(s.1,o++[⟨q,p⟩]):=by unfold tiZ;simp only[hr]
  rw[hs]at next
  simp only[XM];generalize o++[(⟨q,p⟩:Tw)]=o2 at next hl2 ⊢
  clear hs hr;have et:=Qe1 (if q<p then QQ else λ_=>false) d E (QD []) p q z o o2 s.1 g0
  refine Qg et ?_;clear et;refine QF (λb0=>?_) (λb0=>?_);have h:q<p:=by have:=qdt b0;omega
  rw[hpb h];have hw:=hw h
  iterate 2 (refine QG ?_ ?_;rotate_left)
  refine⟨(q+1,s.1,o2),⟨h,hl2⟩,by show p-(q+1)<p-q;omega,next h,rfl,rfl,_,QaH d E p q (q+1) s.1 o2,?_⟩
  rotate_left
  have h:p<=q:=by have:=qdf b0;omega
  refine⟨_,last h,rfl,rfl,_,QfN d E p z o,?_⟩
  rotate_left
  all_goals first|((with_reducible show _=true);(first|rfl|(refine KA.2 ?_;repeat' first|with_reducible refine QP ?_ ?_|exact tv|with_reducible exact qRr|with_reducible exact hz _|exact rfl|refine aI ?_ ?_)|(simp;omega)))|(repeat' first|with_reducible refine QP ?_ ?_|exact tv|with_reducible exact qRr|with_reducible exact hw|exact rfl|refine aI ?_ ?_)
abbrev mkN(P:Program)(C:Tab):Env:=⟨P,C,j5 P,false,λ_=>false,true,false,true⟩
theorem QSx{C:Tab}(hC:Qd C):(mkN prog C).Sound:={ c:=hC,m:=QBT prog,mixed:=QBC }
def rwP(id n:Nat)(g:Nat->Nat->Int):Nat×Blk:=(id,.rowz true 89 kB n g)
theorem QUd(n:Nat)(g:Nat->Nat->Int):QE 8 [.nils] [] (KN 8 (.slz 0 0 n cO) [rwP 0 n g])=( some [n=(0:Nat),n=(0:Nat)]):=by kernel_rfl
theorem QYt(m n:Nat)(h g:Nat->Nat->Int):QE 8 [.slz 48 0 m cO] [rwP 48 m h] (KN 8 (.slz 0 0 n cO) [rwP 0 n g])=( some [0=0,m=n,cO=cO,n<=m,QB (2:Nat) n h g]):=by kernel_rfl
def QAy:WF ((Rw Tw)×Unit):=λ|(L,_)=>(decide (L.n<=1000000),.slz 0 0 L.n (.of 0),[rwP 0 L.n λi=>QA.enc (L.get i)])
def QNi:FC:=wFC QAy
theorem QaK(L:(Rw Tw)):Kn (mkN prog QT) (hnd (mkN prog QT) 1) f106 (Qe.vals 0 ((L,()):(Rw Tw)×Unit)) (Qe.blks 0 ((L,()):(Rw Tw)×Unit)) 8=QC.need (decide (L.n<=L.n)) (QC.both (QC.asm (L.n=(0:Nat)) (QC.leaf (AV.nils) ([]))) (QC.need (true&&(decide (L.n<=L.n)&&decide (((0:Nat)+L.n+((0:Nat)+L.n) / (4:Nat)+(192:Nat))*(16:Nat)<=(281474976710656:Nat)/\(0:Nat)+L.n<=(9223372036854775807:Nat)))) (QC.leaf (AV.slz (48:Nat) (0:Nat) ((0:Nat)+L.n) cO) ([((48:Nat),Blk.rowz true (89:Nat) [CK.int i64,CK.int i64] ((0:Nat)+L.n) (Q9 (0:Nat) (λx x_1=>(0:Int)) λi=>QA.enc (L.get i)))])))):=by kernel_rfl
theorem QW2:JQ (mkN prog QT) (Ql f106) 8 QAy (λx_=>(hnd (mkN prog QT) 1)):=by
 refine⟨?_⟩;rintro⟨L,⟨⟩⟩ hp G h1 h2;exact Qw (QSx Qf) 1 G _ h1
theorem QeI:JR (mkN prog QT) f106 8 QAy (λx_=>(hnd (mkN prog QT) 1)):=by
 refine⟨?_⟩;rintro⟨L,⟨⟩⟩ hp;refine⟨⟨rfl,by simp[QAy,rwP,Blk.own,Blk.all],rfl⟩,⟨?_⟩⟩
 rw[QaK L];simp only[QAy]at hp;have hn:L.n<=1000000:=qdt hp;have hj:QB 2 L.n (Q9 0 (λ_ _=>0) λi=>QA.enc (L.get i)) λi=>QA.enc (L.get i):=QPq _ _ _ _;refine QG ?_ ?_;rotate_left;refine Kf ?_ ?_;refine Qh λa0=>?_
 .refine⟨rfl,rfl,_,QUd L.n λi=>QA.enc (L.get i),?_⟩;rw[a0]
  repeat' first|with_reducible refine QP ?_ ?_|exact tv|with_reducible exact qRr|exact rfl|refine aI ?_ ?_
 refine QG ?_ ?_;rotate_left
 .refine⟨rfl,rfl,_,QYt (0+L.n) L.n (Q9 0 (λ_ _=>0) λi=>QA.enc (L.get i)) λi=>QA.enc (L.get i),?_⟩;rw[Nat.zero_add]
  repeat' first|with_reducible refine QP ?_ ?_|exact tv|with_reducible exact qRr|with_reducible exact hj|exact rfl|refine aI ?_ ?_
 all_goals first|(simp;done)|(simp;omega)
theorem QX3:QS prog 106 QNi:=
 JX (QSx Qf) func106 (by kernel_rfl) (by kernel_rfl) (by decide) QW2 QeI
